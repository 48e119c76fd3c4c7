/-
  Contracts: the code lowered, what it does told by rules, and the contracts of the functions that the law reaches.
-/
import Derived.Test.YtbpohnnpklbmeaaGreatDoorPsSyB
import Derived.Test.YtbpohnnpklbmeaaGreatDoorProg
import Derived.KernelRfl
set_option linter.unusedVariables false
set_option linter.unusedSimpArgs false
open Nat renaming reduceAdd → γ, reduceSub → δ, reduceMul → ε, reduceBEq → η, le_refl → φ, le_trans → ω, zero_add → Qab, zero_le → Qaf, le_max_left → Qak, le_max_right → Qal, lt_or_ge → Qar, lt_of_lt_of_le → Qas, le_of_eq → QaA, add_mul → QaC, sub_zero → QaH, not_lt_zero → QaM, succ_pos → QaR, mul_le_mul_right → QaT, add_zero → QaV, zero_mul → Qba, succ_mul → Qbb, succ_lt_succ → Qbc, min_eq_left → Qbd, one_mul → Qbe, mod_eq_of_lt → Qbh, le_of_lt → Qbl, lt_succ_self → Qbm, ne_of_lt → Qbp, add_assoc → Qbt, lt_irrefl → Qbx, lt_trichotomy → QbQ, pow_le_pow_right → QbX, beq → Qcb, succ → Qcc, ble → Qcd, add → Qce, mul → Qcf, sub → Qcg
open Int renaming reduceToNat → ζ, natCast_zero → κ, zero_add → μ, ofNat → Qaq, eq_ofNat_of_zero_le → Qbq, natCast_nonneg → QbA, toNat_natCast → QbL
open Go.Proofs.Tryz renaming prog → θ
open List renaming map_cons → ν, map_nil → ξ, getD_cons_zero → τ, getD_cons_succ → υ, length_cons → χ, length_nil → ψ, range' → Qaa, getD → Qac, range → Qae, length_append → Qag, all_eq_true → Qah, getElem?_eq_getElem → Qaj, getElem_mem → Qam, length_drop → Qan, cons → Qao, getD_eq_getElem?_getD → Qap, length_take → Qav, take_length → Qaw, cons_append → Qay, all_cons → Qaz, mem_cons → QaF, nil_append → QaG, length_map → QaN, drop_zero → QaO, map_map → QaP, eq_nil_of_length_eq_zero → QaQ, mem_append → QaU, map_congr_left → QaW, drop_drop → QaX, range'_succ → QaY, take_zero → Qbf, append_nil → Qbj, mem_range → Qbk, mem_cons_of_mem → Qbn, mem_singleton → Qbo, ext_getElem → Qbr, take_take → Qbs, getElem?_map → Qbv, map_toArray → Qbw, drop_take → Qbz, foldr_cons → QbB, all_append → QbD, take_succ_cons → QbG, getElem_cons_succ → QbH, length_pos_iff → QbI, getElem?_take → QbJ, getElem?_drop → QbK, getElem?_append_left → QbN, getElem?_append_right → QbO, foldl_append → QbR, mem_append_left → QbT, countP_singleton → QbU, drop_eq_getElem_cons → QbV, getElem_cons_zero → QbW, mem_cons_self → QbY
open Bool renaming and_eq_true → Qad, eq_iff_iff → Qax, eq_false_iff → QaB, or_eq_true → QaE, false_eq_true → QaI, not_eq_true' → QaL, true_and → QaZ, false_and → Qbg, true_eq_false → Qby, or_eq_false_iff → QbC
open Array renaming length_toList → Qai, getElem?_eq_some_iff → Qau, replicate → QaD, toList_map → Qbi, getD_eq_getD_getElem? → QbE, getElem?_toList → QbF, toList_append → QbP, mem_toList_iff → QbS, getElem?_eq_getElem → QbZ, getElem?_setIfInBounds_ne → Qca
open Option renaming map_some → Qat, getD_some → QaJ, bind_some → QaK, map_none → QaS, map_eq_some_iff → Qbu
open Function renaming comp_def → QbM
noncomputable section
namespace Go.Sy
open Go.Ev Go.RowKit
section
variable {P:Program} {base:Bs} {st:St} {K:AV->St->Prop} {e:En}
theorem jiK {b o k:Nat}(hpos:0<k)(h:o+k<=qz st.h b):jl (Jb k (.ptr b o) st) K=K (.agg ((Qae k).map λi=>rat st.h b (o+i))) st:=by
 obtain⟨n,zl,z,cs,hg⟩:=Q0 (h:=st.h) (b:=b) om;rw[zP hg] at h;have e1:Qcd (Qce o k) n=true:=yn h;simp only[Jb,qU,hg,yz,e1,cond_true,jl,QX hg,qr]
theorem jkf {l:List Nat}{n:Nat}(h:n<=l.length)(k:IntKind):jl (zK (.str l) (some (.int k (n:Int))) none st) K=K (.str (l.drop n)) st:=by
 have e:qt (.int k (n:Int))=λF=>F n:=by funext F;show(force n F)=F n;rw[jB]
 have e1:Qcd n l.length=true:=yn h;have e2:Qcd l.length l.length=true:=yn (φ _);simp only[zK,zp,optA,e,jO,jB,e1,e2,cond_true,jl,q8,y4];rw[show Qcg l.length n=(l.drop n).length by rw[Qan];rfl,Qaw]
theorem jke {l:List Nat}{n:Nat}(h:n<=l.length)(k:IntKind):jl (zK (.str l) none (some (.int k (n:Int))) st) K=K (.str (l.take n)) st:=by
 have e:qt (.int k (n:Int))=λF=>F n:=by funext F;show(force n F)=F n;rw[jB]
 have e1:Qcd n l.length=true:=yn h;have e2:Qcd 0 n=true:=yn (Qaf _);simp only[zK,zp,optA,e,jO,jB,e1,e2,cond_true,jl,q8,y4];rfl
theorem jkd {l:List Nat}{a n:Nat}(h:a<=n)(h2:n<=l.length)(k k':IntKind):jl (zK (.str l) (some (.int k (a:Int))) (some (.int k' (n:Int))) st) K=K (.str ((l.drop a).take (n - a))) st:=by
 have e:∀ (k:IntKind) (n:Nat),qt (.int k (n:Int))=λF=>F n:=λk n=>by funext F;show(force n F)=F n;rw[jB]
 have e1:Qcd n l.length=true:=yn h2;have e2:Qcd a n=true:=yn h;simp only[zK,zp,optA,e,jO,jB,e1,e2,cond_true,jl,q8,y4];rfl
end
def nw (s:St)(cs:List AV):St:=⟨s.nx+1,(jZ (jI s.nx)).run (.row cs.length cs.length cs .e) s.h,s.dirty,s.fr⟩
def ja3 (x:Option AO)(o:Nat)(vs:List AV):AO:=match x with|some (.row n zl z cs)=>.row n zl z (qh vs cs o)|_=>.row 0 1 [] (qh vs .e o)
def wr (s:St)(b o:Nat)(vs:List AV):St:=⟨s.nx,(jZ (jI b)).run (ja3 (jr s.h b) o vs) s.h,min s.dirty b,s.fr⟩
def apO (x:Option AO)(vs:List AV):AO:=match x with|some (.row n zl z cs)=>.row (n+vs.length) zl z (qh vs cs n)|_=>.row vs.length 1 [] (qh vs .e 0)
def ap (s:St)(b:Nat)(vs:List AV):St:=⟨s.nx+1,(jZ (jI s.nx)).run (apO (jr s.h b) vs) ((jZ (jI b)).run .dead s.h),min s.dirty b,s.fr⟩
theorem jf (s:St)(cs:List AV):(nw s cs).nx=s.nx+1:=nr rfl
theorem je (s:St)(b o:Nat)(vs:List AV):(wr s b o vs).nx=s.nx:=nr rfl
theorem ji (s:St):s.bare.nx=s.nx:=nr rfl
theorem z8 (s:St):s.bare.h=s.h:=nr rfl
theorem w9 (s:St)(cs:List AV):(nw s cs).fr=s.fr:=nr rfl
theorem uS (s:St)(b o:Nat)(vs:List AV):(wr s b o vs).fr=s.fr:=nr rfl
theorem jae (s:St):s.bare.fr=[]:=nr rfl
theorem za {s:St}{cs:List AV}{b:Nat}(h:b≠s.nx):jr (nw s cs).h b=jr s.h b:=by unfold nw;rw[jV,if_neg h]
theorem y8 {s:St}{b o:Nat}{vs:List AV}{c:Nat}(h:c≠b):jr (wr s b o vs).h c=jr s.h c:=by unfold wr;rw[jV,if_neg h]
theorem jac {s:St}{b:Nat}{vs:List AV}{c:Nat}(h:c≠s.nx)(h2:c≠b):jr (ap s b vs).h c=jr s.h c:=by unfold ap;rw[jV,if_neg h,jV,if_neg h2]
theorem jdd (s:St)(cs:List AV):qz (nw s cs).h s.nx=cs.length:=by unfold nw;rw[jeU,if_pos rfl]
theorem YU {s:St}{cs:List AV}{b:Nat}(h:b≠s.nx):qz (nw s cs).h b=qz s.h b:=yD (za h)
theorem jbP {s:St}{cs:List AV}{i:Nat}(h:i<cs.length):rat (nw s cs).h s.nx i=cs.getD i .bad:=by unfold nw;rw[jhl,if_pos rfl,yY,QH,Qbh h];rfl
theorem VY {s:St}{cs:List AV}{b i:Nat}(h:b≠s.nx):rat (nw s cs).h b i=rat s.h b i:=yw (za h) i
theorem YV {s:St}{cs:List AV}{b:Nat}(h:b=s.nx):qz (nw s cs).h b=cs.length:=by rw[h,jdd]
theorem VZ {s:St}{cs:List AV}{b i:Nat}(h:b=s.nx)(hi:i<cs.length):rat (nw s cs).h b i=cs.getD i .bad:=by rw[h,jbP hi]
theorem Zg (s:St)(b o:Nat)(vs:List AV)(c:Nat):qz (wr s b o vs).h c=qz s.h c:=by
 by_cases h:c=b
 ·subst h;unfold wr ja3 qz;rw[jV,if_pos rfl];cases jr s.h c with
  |none=>rfl
  |some x=>cases x<;>rfl
 ·exact yD (y8 h)
theorem ul (s:St)(b o:Nat)(vs:List AV)(i:Nat):rat (wr s b o vs).h b i=if o<=i/\i<o+vs.length then vs.getD (i - o) .bad else rat s.h b i:=by
 unfold wr rat;rw[jV,if_pos rfl];unfold ja3;cases jr s.h b with
 |none=>simp only[yO];congr 1;rw[yY,QH];rfl
 |some x=>cases x<;>simp only[yO]<;>(congr 1;rw[yY,QH];rfl)
theorem uZ {s:St}{b o:Nat}{vs:List AV}{i:Nat}(h1:o<=i)(h2:i<o+vs.length):rat (wr s b o vs).h b i=vs.getD (i - o) .bad:=by rw[ul,if_pos ⟨h1,h2⟩]
theorem VW {s:St}{b o:Nat}{vs:List AV}{i:Nat}(h:i<o):rat (wr s b o vs).h b i=rat s.h b i:=by rw[ul,if_neg om]
theorem VX {s:St}{b o:Nat}{vs:List AV}{i:Nat}(h:o+vs.length<=i):rat (wr s b o vs).h b i=rat s.h b i:=by rw[ul,if_neg om]
theorem VV {s:St}{b o c:Nat}{vs:List AV}{i:Nat}(h:c≠b):rat (wr s b o vs).h c i=rat s.h c i:=yw (y8 h) i
theorem jfj {s:St}{b o:Nat}{vs:List AV}{c:Nat}(h:ZQ s.h c):ZQ (wr s b o vs).h c:=by
 by_cases hc:c=b
 ·subst hc;unfold ZQ wr;rw[jV,if_pos rfl];obtain⟨n,zl,z,cs,e⟩:=h;rw[e];exact⟨_,_,_,_,rfl⟩
 ·exact zF (y8 hc) h
structure Cl (s:St)(b:Nat)(cs:List AV):Prop where
 lt:b<s.nx
 row:ZQ s.h b
 len:qz s.h b=cs.length
 cell:∀ i,i<cs.length->rat s.h b i=cs.getD i .bad
theorem Cl.keep {s s':St}{b:Nat}{cs:List AV}(h:Cl s b cs)(hn:s.nx<=s'.nx)(k:jr s'.h b=jr s.h b):Cl s' b cs:=
 ⟨Qas h.lt hn,zF k h.row,(yD k).trans h.len,λi hi=>(yw k i).trans (h.cell i hi)⟩
theorem Cl.new (s:St)(cs:List AV):Cl (nw s cs) s.nx cs:=
 ⟨Qbm _,⟨_,_,_,_,by unfold nw;rw[jV,if_pos rfl]⟩,jdd s cs,λi hi=>jbP hi⟩
theorem Cl.nw {s:St}{b:Nat}{cs:List AV}(h:Cl s b cs)(ds:List AV):Cl (nw s ds) b cs:=h.keep (Nat.le_succ _) (za (Qbp h.lt))
theorem Cl.wrO {s:St}{b:Nat}{cs:List AV}(h:Cl s b cs){c:Nat}(hc:b≠c)(o:Nat)(vs:List AV):Cl (wr s c o vs) b cs:=h.keep (φ _) (y8 hc)
def upd:List AV->Nat->List AV->List AV
 |[],_,_=>[]
 |c :: cs,0,[]=>c :: cs
 |c :: cs,0,v :: vs=>v :: upd cs 0 vs
 |c :: cs,o+1,vs=>c :: upd cs o vs
theorem Z4:∀ (cs:List AV) (o:Nat) (vs:List AV),(upd cs o vs).length=cs.length
 |[],_,_=>rfl
 |c :: cs,0,[]=>rfl
 |c :: cs,0,v :: vs=>by show(upd cs 0 vs).length+1=_;rw[Z4 cs 0 vs];rfl
 |c :: cs,o+1,vs=>by show(upd cs o vs).length+1=_;rw[Z4 cs o vs];rfl
theorem uu:∀ (cs:List AV) (o:Nat) (vs:List AV) (i:Nat),i<cs.length->(upd cs o vs).getD i .bad=if o<=i/\i<o+vs.length then vs.getD (i - o) .bad else cs.getD i .bad
 |[],_,_,_,h=>by simp at h
 |c :: cs,0,[],i,h=>by rw[if_neg (by simp)];rfl
 |c :: cs,0,v :: vs,0,h=>by rw[if_pos (by simp)];rfl
 |c :: cs,0,v :: vs,i+1,h=>by
  show(upd cs 0 vs).getD i .bad=_;rw[uu cs 0 vs i (by simpa using h)];by_cases hi:i<vs.length
  ·rw[if_pos om,if_pos (by simp;omega)];rfl
  ·rw[if_neg om,if_neg (by simp;omega)];rfl
 |c :: cs,o+1,vs,0,h=>by rw[if_neg om];rfl
 |c :: cs,o+1,vs,i+1,h=>by
  show(upd cs o vs).getD i .bad=_;rw[uu cs o vs i (by simpa using h)];by_cases hi:o<=i/\i<o+vs.length
  ·rw[if_pos hi,if_pos om,Nat.add_sub_add_right]
  ·rw[if_neg hi,if_neg om];rfl
theorem Cl.wr {s:St}{b:Nat}{cs:List AV}(h:Cl s b cs)(o:Nat)(vs:List AV):Cl (wr s b o vs) b (upd cs o vs):=
 ⟨h.lt,jfj h.row,by rw[Zg,h.len,Z4],λi hi=>by
  rw[Z4] at hi;rw[ul,uu _ _ _ _ hi,h.cell i hi]⟩
theorem Cl.ap {s:St}{b:Nat}{cs:List AV}(h:Cl s b cs)(vs:List AV):Cl (ap s b vs) s.nx (cs ++ vs):=by
 obtain⟨n,zl,z,ks,e⟩:=h.row;have hl:=h.len;rw[zP e] at hl;have eo:jr (Go.Sy.ap s b vs).h s.nx=some (.row (n+vs.length) zl z (qh vs ks n)):=by unfold Go.Sy.ap;rw[jV,if_pos rfl,e];rfl
 refine⟨Qbm _,⟨_,_,_,_,eo⟩,by rw[zP eo,Qag,hl],λi hi=>?_⟩;rw[QX eo,yO];rw[Qag] at hi;by_cases hc:n<=i/\i<n+vs.length
 ·rw[if_pos hc,Qap,Qap,QbO om,hl]
 ·have hi':i<cs.length:=om
  rw[if_neg hc,<-QX e,h.cell i hi',Qap,Qap,QbN hi']
theorem Q4 (cs:List AV):(AV.agg cs).cells=cs:=nr rfl
theorem ZL (k:IntKind)(n:Int):(AV.int k n).cells=[.int k n]:=nr rfl
theorem ZH (l:List Nat):(AV.str l).cells=[.str l]:=nr rfl
theorem YI (b:Bool):(AV.bool b).cells=[.bool b]:=nr rfl
theorem X9 (b o n c z:Nat)(x:Bool):(AV.slice b o n c z x).cells=[.slice b o n c z x]:=nr rfl
theorem YH:AV.nils.cells=[.nils]:=nr rfl
theorem ZJ (b o:Nat):(AV.ptr b o).cells=[.ptr b o]:=nr rfl
theorem Gh:lall AV.cell []=true:=nr rfl
theorem Gj (k:IntKind)(n:Int)(l:List AV):lall AV.cell (.int k n :: l)=lall AV.cell l:=nr rfl
theorem Gf (x:List Nat)(l:List AV):lall AV.cell (.str x :: l)=lall AV.cell l:=nr rfl
theorem kC (x:Bool)(l:List AV):lall AV.cell (.bool x :: l)=lall AV.cell l:=nr rfl
theorem Vv (b o n c z:Nat)(x:Bool)(l:List AV):lall AV.cell (.slice b o n c z x :: l)=lall AV.cell l:=nr rfl
theorem kB (l:List AV):lall AV.cell (.nils :: l)=lall AV.cell l:=nr rfl
theorem Gg (b o:Nat)(l:List AV):lall AV.cell (.ptr b o :: l)=lall AV.cell l:=nr rfl
theorem jfg (a b:List AV)(h:lall AV.cell a=true):lall AV.cell (a ++ b)=lall AV.cell b:=by
 induction a with
 |nil=>rfl
 |cons c a ih=>
  have h':cond c.cell (lall AV.cell a) false=true:=h;cases hc:c.cell with
  |false=>rw[hc] at h';cases h'
  |true=>
   rw[hc] at h';show cond c.cell (lall AV.cell (a ++ b)) false=_;rw[hc];exact ih h'
section
variable {P:Program} {base:Bs} {st:St} {K:AV->St->Prop} {e:En}
theorem jbT (cs:List AV):jl (Ev.newRow st cs) K=K (.ptr st.nx 0) (nw st cs):=by
 simp only[Ev.newRow,jB,jO,St.alloc_eq,jl];rfl
theorem jgZ {v:AV}(h:lall AV.cell v.cells=true):jl (jfz v st) K=K (.ptr st.nx 0) (nw st v.cells):=by
 simp only[jfz,h,cond_true];exact jbT _
theorem jj0 {k b o:Nat}{v:AV}(hk:0<k)(hc:v.cells.length=k)(hl:lall AV.cell v.cells=true)(ho:o+k<=qz st.h b):jl (stV k (.ptr b o) v st) K=K qf (wr st b o v.cells):=by
 obtain⟨n,zl,z,cs,hg⟩:=Q0 (h:=st.h) (b:=b) om;rw[zP hg] at ho;have e1:Qcb (jM v.cells) k=true:=ZN (by rw[jO];exact hc);have e2:Qcd (Qce o k) n=true:=yn ho;simp only[stV,qU,hg,yz,e1,e2,hl,cond_true,St.put_eq,jl];unfold wr ja3;rw[hg]
def rats (h:T AO)(b o:Nat):Nat->List AV
 |0=>[]
 |k+1=>rat h b o :: rats h b (o+1) k
theorem XG (h:T AO)(b:Nat):∀ (k o:Nat),rats h b o k=(Qae k).map λi=>rat h b (o+i)
 |0,o=>rfl
 |k+1,o=>by
  rw[List.range_succ_eq_map,ν,QaP];show rat h b o :: rats h b (o+1) k=_;rw[XG h b k (o+1)]
  congr 1
  refine QaW λi _=>?_;show rat h b (o+1+i)=rat h b (o+(i+1));rw[Qbt,Nat.add_comm 1 i]
theorem jbU {k b o:Nat}(hk:0<k)(h:o+k<=qz st.h b):jl (Jb k (.ptr b o) st) K=K (.agg (rats st.h b o k)) st:=by rw[XG];exact jiK hk h
theorem rats0 (h:T AO)(b o:Nat):rats h b o 0=[]:=nr rfl
theorem Ku (h:T AO)(b o k:Nat):rats h b o (k+1)=rat h b o :: rats h b (o+1) k:=nr rfl
theorem Cl.ratsP {s:St}{b:Nat}{cs:List AV}(h:Cl s b cs):∀ k o,o+k<=cs.length->rats s.h b o k=(cs.drop o).take k
 |0,o,_=>rfl
 |k+1,o,hk=>by
  show rat s.h b o :: Go.Sy.rats s.h b (o+1) k=_;rw[h.ratsP k (o+1) om,h.cell o om,QbV (show o<cs.length by omega),QbG,Qap,Qaj om];rfl
theorem Yd {h h':T AO}{b:Nat}(e:jr h' b=jr h b):∀ k o,rats h' b o k=rats h b o k
 |0,_=>rfl
 |k+1,o=>by rw[Ku,Ku,yw e,Yd e k]
theorem QP (h:T AO)(b:Nat):∀ k o,(rats h b o k).length=k
 |0,_=>rfl
 |k+1,o=>by rw[Ku,χ,QP h b k]
theorem XE {h:T AO}{b:Nat}:∀ {k o:Nat} {cs:List AV},cs.length=k->(∀ i,i<k->rat h b (o+i)=cs.getD i .bad)->rats h b o k=cs
 |0,o,[],_,_=>rfl
 |k+1,o,c :: cs,hl,h=>by
  rw[Ku,XE (cs:=cs) (by simpa using hl) (λi hi=>by
   have:=h (i+1) om;rw[show o+1+i=o+(i+1) by omega,this];rfl)]
  have:=h 0 om;rw[QaV] at this;rw[this];rfl
theorem jhk {s:St}{cs:List AV}{k:Nat}(h:cs.length=k):rats (nw s cs).h s.nx 0 k=cs:=XE h λi hi=>by rw[Qab];exact jbP om
theorem XA {s:St}{cs:List AV}{b k:Nat}(hb:b=s.nx)(h:cs.length=k):rats (nw s cs).h b 0 k=cs:=by rw[hb,jhk h]
theorem Xz {s:St}{cs:List AV}{b o k:Nat}(h:b≠s.nx):rats (nw s cs).h b o k=rats s.h b o k:=Yd (za h) _ _
theorem YR {s:St}{b o k:Nat}{vs:List AV}(h:vs.length=k):rats (wr s b o vs).h b o k=vs:=XE h λi hi=>by
 rw[uZ om om,Nat.add_sub_cancel_left]
theorem Xx {s:St}{b c o o' k:Nat}{vs:List AV}(h:b≠c):rats (wr s c o' vs).h b o k=rats s.h b o k:=Yd (y8 h) _ _
theorem Xy {s:St}{b o k:Nat}{vs:List AV}:rats (wr s b o vs).h b 0 k=upd (rats s.h b 0 k) o vs:=by
 refine XE (by rw[Z4,QP]) λi hi=>?_;rw[Qab,ul,uu _ _ _ _ (by rw[QP];exact hi),XG]
 congr 1
 simp[Qap,Qbv,hi]
theorem Xr (o:Nat)(vs:List AV):upd [] o vs=[]:=nr (by cases o<;>rfl)
theorem Q7 (c:AV)(cs:List AV):upd (c :: cs) 0 []=c :: cs:=nr rfl
theorem XV (c:AV)(cs:List AV)(v:AV)(vs:List AV):upd (c :: cs) 0 (v :: vs)=v :: upd cs 0 vs:=nr rfl
theorem Ys (c:AV)(cs:List AV)(o:Nat)(vs:List AV):upd (c :: cs) (o+1) vs=c :: upd cs o vs:=nr rfl
theorem Yr:∀ (cs:List AV) ,upd cs 0 []=cs
 |[]=>rfl
 |c :: cs=>rfl
theorem Cl.of_rats {s:St}{b k:Nat}{cs:List AV}(h1:b<s.nx)(h2:qz s.h b=k)(h3:cs.length=k)(h4:0<k)(h5:Go.Sy.rats s.h b 0 k=cs):Cl s b cs:=by
 refine⟨h1,Q0 om,om,λi hi=>?_⟩;have:=congrArg (λl=>l.getD i .bad) h5;rw[XG] at this;have hi':i<k:=om
 simpa[Qap,Qbv,hi'] using this
theorem Cl.rats0 {s:St}{b k:Nat}{cs:List AV}(h:Cl s b cs)(hk:cs.length=k):Go.Sy.rats s.h b 0 k=cs:=XE hk λi hi=>by rw[Qab];exact h.cell i om
theorem Cl.ldA {s:St}{b k o:Nat}{cs:List AV}(h:Cl s b cs)(hk:0<k)(ho:o+k<=cs.length)(K:AV->St->Prop):jl (Jb k (.ptr b o) s) K=K (.agg ((cs.drop o).take k)) s:=by
 rw[jbU hk (by rw[h.len];exact ho),h.ratsP k o ho]
end
section
variable {P:Program} {base:Bs} {st:St} {K:AV->St->Prop} {e:En}
theorem Z5:∀ (z:List AV) (off:Nat) (vs:List AV),off+vs.length<=z.length->z.take off ++ (vs ++ z.drop (off+vs.length))=upd z off vs
 |[],off,vs,h=>by
  have hv:vs=[]:=QaQ (by have h':off+vs.length<=0:=h;omega);subst hv;simp[upd]
 |c :: z,0,[],_=>rfl
 |c :: z,0,v :: vs,h=>by
  show v :: (vs ++ (c :: z).drop (0+(vs.length+1)))=v :: upd z 0 vs;rw[<-Z5 z 0 vs (by simp at h ⊢;omega)];simp
 |c :: z,off+1,vs,h=>by
  show c :: z.take off ++ (vs ++ (c :: z).drop (off+1+vs.length))=c :: upd z off vs;rw[<-Z5 z off vs (by simp at h;omega),show off+1+vs.length=(off+vs.length)+1 by omega];rfl
theorem kJ {z:List AV}{off size:Nat}{v:AV}{ps:List ((Nat×Nat)×AV)}(h1:v.plain=true)(h2:v.cells.length=size)(h3:off+size<=z.length):QI z (((off,size),v) :: ps)=QI (upd z off v.cells) ps:=by
 have e1:Qcb (jM v.cells) size=true:=ZN (by rw[jO];exact h2);have e2:Qcd (Qce off size) (jM z)=true:=yn (by rw[jO];exact h3);have e3:y6 (yu z off) (y6 v.cells (y5 z (Qce off size)))=upd z off v.cells:=by
  rw[yS,yS,q8,y4,<-Z5 z off v.cells om,h2];rfl
 show cond v.plain (cond (Qcb (jM v.cells) size) (cond (Qcd (Qce off size) (jM z)) (QI (y6 (yu z off) (y6 v.cells (y5 z (Qce off size)))) ps) none) none) none=_;rw[h1,e1,e2,e3];rfl
theorem G8 (z:List AV):jl (ui z [] st) K=K (.agg z) st:=nr rfl
theorem G7 {z:List AV}{off size:Nat}{v:AV}{ps:List ((Nat×Nat)×AV)}(h1:v.plain=true)(h2:v.cells.length=size)(h3:off+size<=z.length):jl (ui z (((off,size),v) :: ps) st) K=jl (ui (upd z off v.cells) ps st) K:=by
 unfold ui;rw[kJ h1 h2 h3]
def bSV (len s:Nat)(z:List AV)(ps:List ((Nat×Nat)×AV))(st:St):ER:=jQ (QI z ps) λcells=>
 cond (lall AV.cell cells) (force (jM cells) λn=>st.alloc (.row n n cells .e) λb st=>.ok (.slice b 0 len len s true) st) .no
theorem jfJ (len s:Nat)(z:List AV)(ps:List ((Nat×Nat)×AV)):jl (UQ len s z ps st) K=jl (bSV len s (yQ z len) ps st) K:=nr rfl
theorem jbV {len s:Nat}{z:List AV}(h:lall AV.cell z=true):jl (bSV len s z [] st) K=K (.slice st.nx 0 len len s true) (nw st z):=by
 have e:QI z []=some z:=rfl;simp only[bSV,e,jQ,h,cond_true,jB,jO,St.alloc_eq,jl];rfl
theorem KZ {len s:Nat}{z:List AV}{off size:Nat}{v:AV}{ps:List ((Nat×Nat)×AV)}(h1:v.plain=true)(h2:v.cells.length=size)(h3:off+size<=z.length):jl (bSV len s z (((off,size),v) :: ps) st) K=jl (bSV len s (upd z off v.cells) ps st) K:=by
 unfold bSV;rw[kJ h1 h2 h3]
theorem Vg (z:List AV):yQ z 0=[]:=nr rfl
theorem uB (z:List AV)(n:Nat):yQ z (n+1)=z ++ yQ z n:=nr (by first|rfl|(unfold yQ;simp[yS]))
def wP (e:En):List ((Nat×Nat)×A)->(F:List ((Nat×Nat)×AV)->Prop)->Res F
 |[],F=>F []
 |(p,a) :: l,F=>on1 e a λv=>wP e l λvs=>F ((p,v) :: vs)
theorem Uw (e:En):∀ (l:List ((Nat×Nat)×A)) (F:List ((Nat×Nat)×AV)->Prop),wP e l F=((l.map (·.2)).all (okA e)=true/\F (l.map λp=>(p.1,vl e p.2)))
 |[],F=>by simp[wP]
 |(p,a) :: l,F=>by simp[wP,Uw e l,on1,and_assoc]
theorem Gq (z:List AV)(ps:List ((Nat×Nat)×A)):wK P base (.i (.build z ps)) e st K=wP e ps λvs=>jl (ui z vs st) K:=by
 rw[Uw];rfl
theorem kD (len s:Nat)(z:List AV)(ps:List ((Nat×Nat)×A)):wK P base (.i (.buildS len s z ps)) e st K=wP e ps λvs=>jl (UQ len s z vs st) K:=by
 rw[Uw];rfl
theorem jgC (f:FuncId)(l:List A):wK P base (.i (.fn f l)) e st K=Za e l λvs=>K (.fn f vs) st:=by
 rw[wg];rfl
theorem jgn (F:List ((Nat×Nat)×AV)->Prop):wP e [] F=F []:=nr rfl
theorem jgm (p:Nat×Nat)(a:A)(l:List ((Nat×Nat)×A))(F:List ((Nat×Nat)×AV)->Prop):wP e ((p,a) :: l) F=on1 e a λv=>wP e l λvs=>F ((p,v) :: vs):=nr rfl
theorem U5 (k:IntKind)(n:Int):(AV.int k n).plain=true:=nr rfl
theorem U2 (l:List Nat):(AV.str l).plain=true:=nr rfl
theorem Vk (b:Bool):(AV.bool b).plain=true:=nr rfl
theorem Wf (b o n c z:Nat)(x:Bool):(AV.slice b o n c z x).plain=true:=nr rfl
theorem Vj:AV.nils.plain=true:=nr rfl
theorem U3 (b o:Nat):(AV.ptr b o).plain=true:=nr rfl
theorem U6 (cs:List AV):(AV.agg cs).plain=true:=nr rfl
theorem HE (t:TypeId)(x:A):wK P base (.i (.iface t x)) e st K=on1 e x λv=>K (.iface t v) st:=k_1 (V:=λv st=>.ok (.iface t v) st) rfl (λ_=>rfl) K
end
def eqs:AV->Bool
 |.bool _=>true | .int _ _=>true | .str _=>true | .ptr _ _=>true | .nilp=>true | .slice _ _ _ _ _ _=>true | .nils=>true | .map _=>true | .nilm=>true | .nilf=>true | .nilif=>true | .lst _ _=>true | .xlst _ _=>true | .lptr _ _=>true
 |_=>false
theorem jft (a:Int):eqI a a=true:=by cases a<;>simp[eqI]
theorem zR (a:Nat):Qcb a a=true:=by rw[qD]
theorem v8 (l:List AV):ZV l l=true:=by unfold ZV;exact @decide_eq_true _ (_) rfl
theorem ub {v:AV}(h:eqs v=true):XO v v=true:=by
 cases v<;>first|(cases h;done)|rfl|skip
 case bool b=>cases b<;>rfl
 case int k n=>show cond (eqK k k) (eqI n n) false=true;rw[J9,jft];rfl
 case str s=>show XX s s=true;rw[JA];simp
 case ptr b o=>show cond (Qcb b b) (Qcb o o) false=true;rw[zR,zR];rfl
 case slice b o n c z ex=>
  show cond (Qcb b b) (cond (Qcb o o) (cond (Qcb n n) (cond (Qcb c c) (cond (Qcb z z) (cond ex ex (cond ex false true)) false) false) false) false) false=true;rw[zR,zR,zR,zR,zR];cases ex<;>rfl
 case map r=>show Qcb r r=true;exact zR r
 case lst n cs=>show cond (Qcb n n) (ZV cs cs) false=true;rw[zR,v8];rfl
 case xlst n cs=>show cond (Qcb n n) (ZV cs cs) false=true;rw[zR,v8];rfl
 case lptr cs n=>show cond (Qcb n n) (ZV cs cs) false=true;rw[zR,v8];rfl
theorem ua:∀ {l:List AV},l.all eqs=true->wq l l=true
 |[],_=>rfl
 |v :: l,h=>by
  simp only[Qaz,Qad] at h;show cond (XO v v) (wq l l) false=true;rw[ub h.1,ua h.2];rfl
theorem jdH {v:AV}(h:eqs v=true):jbA v v=true:=by
 cases v<;>first|(cases h;done)|exact ub h
section
variable {P:Program}
theorem J2 {t:TypeId}{b o:Nat}{v:AV}{h:T AO}(h1:Go.Ev.isAgg P t=some false)(h2:Go.Ev.sizeOf P t=some 1)(ho:o<qz h b)(hv:rat h b o=v)(hc:eqs v=true):jW P t (.ptr b o) v h=true:=by
 obtain⟨n,zl,z,cs,hg⟩:=Q0 (h:=h) (b:=b) om;rw[zP hg] at ho;rw[QX hg] at hv;have e3:Qcd (Qcc o) n=true:=yn ho;have e:(qI P t).run (.ptr b o) h=some v:=by simp only[qI,h1,h2,hg,e3,cond_true,hv]
 unfold jW;dsimp only;rw[e];exact jdH hc
theorem wa {t:TypeId}{b o k:Nat}{cs:List AV}{h:T AO}(h1:Go.Ev.isAgg P t=some true)(h2:Go.Ev.sizeOf P t=some k)(hk:0<k)(ho:o+k<=qz h b)(hv:rats h b o k=cs)(hc:cs.all eqs=true):jW P t (.ptr b o) (.agg cs) h=true:=by
 obtain⟨n,zl,z,cs',hg⟩:=Q0 (h:=h) (b:=b) om;rw[zP hg] at ho;have e3:Qcd (Qce o k) n=true:=yn ho;have e:(qI P t).run (.ptr b o) h=some (.agg cs):=by
  simp only[qI,h1,h2,hg,e3,cond_true];rw[<-hv,XG,qr]
  congr 2
  refine QaW λi _=>?_;rw[QX hg]
 unfold jW;dsimp only;rw[e];exact ua hc
def QG (P:Program)(t u:TypeId)(x y:TE):Bool:=
 match x,y with
 |.rd a v,.wr pre post=>jW P t a v pre && jW P t a v post
 |.rd _ _,.rd _ _=>false
 |.wr pre post,.rd a v=>jW P u a v pre && jW P u a v post
 |.wr _ _,.wr _ _=>false
 |_,_=>true
theorem h_0 (t:TypeId)(x:TE)(tb:List TE):(held P t x tb []=true)=True:=by simp[held]
theorem h_1 (t:TypeId)(x:TE)(tb:List TE)(k:Nat)(u:TypeId)(l:List (Nat×TypeId)):(held P t x tb ((k,u) :: l)=true)=(QG P t u x (yr .none tb k)=true/\held P t x tb l=true):=by
 have e:held P t x tb ((k,u) :: l)=cond (QG P t u x (yr .none tb k)) (held P t x tb l) false:=by
  show cond _ _ false=cond _ _ false
  congr 1
  unfold QG;cases x<;>cases yr TE.none tb k<;>first|rfl|(simp only[Bool.cond_eq_ite];split<;>simp[*])
 rw[e];cases QG P t u x (yr .none tb k)<;>simp
theorem jjv (t u:TypeId)(a v:AV)(pre post:T AO):(QG P t u (.rd a v) (.wr pre post)=true)=(jW P t a v pre=true/\jW P t a v post=true):=by simp[QG]
theorem jju (t u:TypeId)(a v:AV)(pre post:T AO):(QG P t u (.wr pre post) (.rd a v)=true)=(jW P u a v pre=true/\jW P u a v post=true):=by simp[QG]
theorem jjx (t u:TypeId)(y:TE):(QG P t u .none y=true)=True:=by simp[QG]
theorem jjw (t u:TypeId)(x:TE):(QG P t u x .none=true)=True:=by cases x<;>simp[QG]
theorem jjj (d x:TE)(l:List TE):yr d (x :: l) 0=x:=nr rfl
theorem jji (d x:TE)(l:List TE)(n:Nat):yr d (x :: l) (n+1)=yr d l n:=nr rfl
theorem jiV (e:En)(v:AV)(st st':St):teW none e v st st'=.none:=nr rfl
theorem jiU (e:En)(v:AV)(st st':St):teW (some none) e v st st'=.wr st.h st'.h:=nr rfl
theorem jiT (a:A)(e:En)(v:AV)(st st':St):teW (some (some a)) e v st st'=.rd (vl e a) v:=nr rfl
theorem jiH (e:En)(v:AV):vl e (.c v)=v:=nr rfl
theorem jiF (x:Nat)(v:AV)(l g:Sl):vl ⟨(x,v) :: l,g⟩ (.t x)=v:=by simp[vl,En.look,yR,En.has,zo]
theorem jfU {k x:Nat}(h:k≠x)(v:AV)(l g:Sl):vl ⟨(k,v) :: l,g⟩ (.t x)=vl ⟨l,g⟩ (.t x):=by simp[vl,En.look,yR,En.has,zo,h]
theorem jiG (x:Nat)(v:AV)(g:Sl):vl ⟨[],(x,v) :: g⟩ (.t x)=v:=by simp[vl,En.look,yR,En.has,zo,has]
theorem jfV {k x:Nat}(h:k≠x)(v:AV)(g:Sl):vl ⟨[],(k,v) :: g⟩ (.t x)=vl ⟨[],g⟩ (.t x):=by simp[vl,En.look,yR,En.has,zo,has,h]
theorem gv {L:Sl}{x:Nat}{v:AV}(h:Has L x v):vl ⟨[],L⟩ (.t x)=v:=by
 obtain⟨h1,h2⟩:=h;simp[vl,En.has,En.look,has,h2]
end
section
variable {P:Program} {base:Bs} {st:St} {K:AV->St->Prop} {e:En}
def vB (sz:Nat)(v:AV)(lo hi:Option AV)(st:St):ER:=match v with
 |.nils=>optA lo 0 λl=>optA hi 0 λh=>cond (Qcb l 0) (cond (Qcb h 0) (.ok .nils st) .no) .no
 |.slice b o len cap sz' ex=>optA lo 0 λl=>optA hi len λh=>
  cond (Qcb sz' sz) (cond (Qcd l h) (cond (Qcd h cap) (force (Qcg h l) λk=>force (Qce o (Qcf l sz)) λo=>force (Qcg cap l) λc=>.ok (.slice b o k c sz ex) st) .no) .no) .no
 |.lst n cs=>optA lo 0 λl=>optA hi n λh=>
  cond (Qcd l h) (cond (Qcd h n) (cond (Qcd (Qcf h sz) (jM cs)) (.ok (.lst (Qcg h l) (yu (y5 cs (Qcf l sz)) (Qcf (Qcg h l) sz))) st) .no) .no) .no
 |_=>.no
theorem jdj (sz:Nat)(x lo:A):wK P base (.i (.slS sz x (some lo) none)) e st K=on1 e x λv=>on1 e lo λl=>jl (vB sz v (some l) none st) K:=k_2 (V:=λv l st=>vB sz v (some l) none st) rfl (λ_=>rfl) K
theorem jdi (sz:Nat)(x hi:A):wK P base (.i (.slS sz x none (some hi))) e st K=on1 e x λv=>on1 e hi λh=>jl (vB sz v none (some h) st) K:=k_2 (V:=λv h st=>vB sz v none (some h) st) rfl (λ_=>rfl) K
theorem jdh (sz:Nat)(x lo hi:A):wK P base (.i (.slS sz x (some lo) (some hi))) e st K=on1 e x λv=>on1 e lo λl=>on1 e hi λh=>jl (vB sz v (some l) (some h) st) K:=k_3 (V:=λv l h st=>vB sz v (some l) (some h) st) rfl (λ_=>rfl) K
end
def ifW (p:Prop)(a b:Prop):Res (a,b):=(p->a)/\(¬ p->b)
theorem jd {p a b:Prop}(h1:p->a)(h2:¬ p->b):ifW p a b:=⟨h1,h2⟩
theorem X5 {p a b:Prop}(h:p):ifW p a b=a:=propext ⟨λk=>k.1 h,λk=>⟨λ_=>k,λn=>absurd h n⟩⟩
theorem X6 {p a b:Prop}(h:¬ p):ifW p a b=b:=propext ⟨λk=>k.2 h,λk=>⟨λn=>absurd n h,λ_=>k⟩⟩
section
variable {P:Program} {base:Bs} {st:St} {K Kp:AV->St->Prop} {e:En}
theorem jap (q:Bool)(a b:Prop):ZG (.bool q) a b=ifW (q=true) a b:=by cases q<;>simp[ZG,ifW]
theorem jjP (q:Bool)(a b:Prop):onG (.bool q) true a b=ifW (q=true) a b:=by cases q<;>simp[onG,ifW]
theorem jjQ (q:Bool)(a b:Prop):onG (.bool q) false a b=ifW (q=true) b a:=by cases q<;>simp[onG,ifW]
theorem jdQ (q:Bool)(a b:AV):jl (ja6 (.bool q) a b st) K=ifW (q=true) (K a st) (K b st):=by cases q<;>simp[ja6,Ye,jl,ifW]
theorem gx (a b:List Nat):jl (Wt .neq (.str a) (.str b) st) K=K (.bool (decide (a≠b))) st:=by
 simp only[Wt,Zu,jQ,jl,JA];by_cases h:a=b
 ·simp[h]
 ·simp[h]
theorem gy {a b:List Nat}(h:a.length+b.length<=9223372036854775807):jl (Wt .add (.str a) (.str b) st) K=K (.str (a ++ b)) st:=by
 have e1:Qcd (Qce (jM a) (jM b)) 9223372036854775807=true:=by rw[qe,jO,jO];exact h
 simp only[Wt,Zu,jQ,jl,e1,cond_true,yS]
theorem w7 {x:Int}(h1 : -9223372036854775808<=x)(h2:x<=9223372036854775807):Je .i64 x=x:=by
 rw[Xq];exact IntWalk.i64_in x ⟨h1,om⟩
theorem jct {a b:Int}(h1 : -9223372036854775808<=a+b)(h2:a+b<=9223372036854775807):jl (JU .add (.int .i64 a) (.int .i64 b) st) K=K (.int .i64 (a+b)) st:=by
 have:(QA .add).run .i64 a b=some (.int .i64 (a+b)):=by show some (AV.int .i64 (Je .i64 (a+b)))=_;rw[w7 h1 h2]
 simp only[JU,J9,cond_true,this,jQ,jl]
theorem jb9 {a b:Int}(h1 : -9223372036854775808<=a - b)(h2:a - b<=9223372036854775807):jl (JU .sub (.int .i64 a) (.int .i64 b) st) K=K (.int .i64 (a - b)) st:=by
 have:(QA .sub).run .i64 a b=some (.int .i64 (a - b)):=by show some (AV.int .i64 (Je .i64 (a - b)))=_;rw[w7 h1 h2]
 simp only[JU,J9,cond_true,this,jQ,jl]
theorem jcg {a b:Int}(h1 : -9223372036854775808<=a * b)(h2:a * b<=9223372036854775807):jl (JU .mul (.int .i64 a) (.int .i64 b) st) K=K (.int .i64 (a * b)) st:=by
 have:(QA .mul).run .i64 a b=some (.int .i64 (a * b)):=by show some (AV.int .i64 (Je .i64 (a * b)))=_;rw[w7 h1 h2]
 simp only[JU,J9,cond_true,this,jQ,jl]
theorem jcf {a:Int}(h1 : -9223372036854775808<=-a)(h2 : -a<=9223372036854775807):jl (unV .neg (.int .i64 a) st) K=K (.int .i64 (-a)) st:=by
 have e:IntKind.i64.wrap (0 - a)=-a:=by rw[<-Xq,w7 om om];omega
 simp only[unV,XW,O,e,jl]
def biV (P:Program)(b:Builtin)(ts:Array TypeId)(l:List AV)(st:St):ER:=(qw P b ts (l.map λv=>O v)).run E0 st
theorem jgH (b:Builtin)(ts:Array TypeId)(l:List A):wK P base (.i (.bi b ts l)) e st K=Za e l λvs=>jl (biV P b ts vs st) K:=by
 rw[wg];simp only[wK,wI,Yl,jP,biV,QaP];rfl
theorem jci (ts:Array TypeId)(k:IntKind)(a b:Int):jl (biV P .max ts [.int k a,.int k b] st) K=K (.int k (max a b)) st:=by
 have:(qw P .max ts [O (.int k a),O (.int k b)]).run E0 st=jQ (max2 (.int k a) (.int k b)) λv=>.ok v st:=by
  show jQ (JY max2 (.int k a) [.int k b]) _=_;unfold JY;cases max2 (.int k a) (.int k b)<;>rfl
 show jl ((qw P .max ts [O (.int k a),O (.int k b)]).run E0 st) K=_;rw[this];simp only[max2,J9,cond_true,jQ,jl]
 congr 2
 rw[Qx];by_cases h:a<b
 ·rw[decide_eq_true h,Int.max_eq_right om];rfl
 ·rw[decide_eq_false h,Int.max_eq_left om];rfl
theorem jch (ts:Array TypeId)(k:IntKind)(a b:Int):jl (biV P .min ts [.int k a,.int k b] st) K=K (.int k (min a b)) st:=by
 have:(qw P .min ts [O (.int k a),O (.int k b)]).run E0 st=jQ (min2 (.int k a) (.int k b)) λv=>.ok v st:=by
  show jQ (JY min2 (.int k a) [.int k b]) _=_;unfold JY;cases min2 (.int k a) (.int k b)<;>rfl
 show jl ((qw P .min ts [O (.int k a),O (.int k b)]).run E0 st) K=_;rw[this];simp only[min2,J9,cond_true,jQ,jl]
 congr 2
 rw[Qx];by_cases h:b<a
 ·rw[decide_eq_true h,Int.min_eq_right om];rfl
 ·rw[decide_eq_false h,Int.min_eq_left om];rfl
theorem jck (n:Nat)(cs:List AV):jl (Gb (.lst n cs) st) K=K (.int .i64 (n:Int)) st:=nr rfl
theorem HV {k:IntKind}{i:Int}(h:0<=i)(F:Nat->ER):qt (.int k i) F=F i.toNat:=by
 obtain⟨n,rfl⟩:=Qbq h;exact HW
theorem jco {n:Nat}{cs:List AV}{i:Int}(h0:0<=i)(h:i<n)(s:Nat)(k:IntKind):jl (uP s (.lst n cs) (.int k i) st) K=K (.lptr cs (i.toNat * s)) st:=by
 simp only[uP,HV h0];have:Qcd (Qcc i.toNat) n=true:=by rw[qe];omega
 rw[this];rfl
theorem jcn {b o n c z:Nat}{x:Bool}{i:Int}(h0:0<=i)(h:i<n)(s:Nat)(k:IntKind):jl (uP s (.slice b o n c z x) (.int k i) st) K=K (.ptr b (o+i.toNat * s)) st:=by
 obtain⟨m,rfl⟩:=Qbq h0;exact jiL om s k
theorem jaN {s:List Nat}{i:Int}(h0:0<=i)(h:i<s.length)(k:IntKind):jl (Xe (.str s) (.int k i) st) K=K (.int .u8 ((s.getD i.toNat 0:Nat):Int)) st:=by
 obtain⟨m,rfl⟩:=Qbq h0;exact Z3 om k
theorem jcm {k o:Nat}{cs:List AV}(h:o+k<=cs.length):jl (Jb k (.lptr cs o) st) K=K (.agg ((cs.drop o).take k)) st:=by
 have:Qcd (Qce o k) (jM cs)=true:=by rw[qe,jO];exact h
 simp only[Jb,this,cond_true,jl,q8,y4]
theorem Z2 {o:Nat}{cs:List AV}(h:o<cs.length):jl (zm (.lptr cs o) st) K=K (cs.getD o .bad) st:=by
 have:Qcd (Qcc o) (jM cs)=true:=by rw[qe,jO];exact h
 simp only[zm,this,cond_true,jl,zk]
theorem jcq (off o:Nat)(cs:List AV):jl (jbp off (.lptr cs o) st) K=K (.lptr cs (o+off)) st:=nr rfl
theorem HD (o:Nat)(cs:List AV):jl (jba (.lptr cs o) st) K=K (.lptr cs o) st:=nr rfl
def fl {α:Type}(enc:α->List AV)(xs:List α):List AV:=xs.flatMap enc
theorem XN {α:Type}(enc:α->List AV)(x:α)(xs:List α):fl enc (x :: xs)=enc x ++ fl enc xs:=rfl
theorem Jp {α:Type}(enc:α->List AV)(xs ys:List α):fl enc (xs ++ ys)=fl enc xs ++ fl enc ys:=by simp[fl]
theorem zu {α:Type}(enc:α->List AV)(x:α):fl enc [x]=enc x:=by simp[fl]
theorem Yh {α:Type}{enc:α->List AV}{z:Nat}(hz:∀ x,(enc x).length=z):∀ xs:List α,(fl enc xs).length=xs.length * z
 |[]=>by simp[fl]
 |x :: xs=>by rw[XN,Qag,hz,Yh hz xs,χ,Qbb,Nat.add_comm]
theorem JH {α:Type}{enc:α->List AV}(hp:∀ x,(enc x).all pc=true):∀ xs:List α,(fl enc xs).all pc=true
 |[]=>rfl
 |x :: xs=>by rw[XN,QbD,hp,JH hp xs];rfl
theorem UF {α:Type}{enc:α->List AV}{z:Nat}(hz:∀ x,(enc x).length=z):∀ (xs:List α) (i:Nat),(fl enc xs).drop (i * z)=fl enc (xs.drop i)
 |xs,0=>by simp
 |[],i+1=>by simp[fl]
 |x :: xs,i+1=>by
  rw[XN,Qbb,Nat.add_comm,List.drop_append,List.drop_eq_nil_of_le (by rw[hz];omega),hz,Nat.add_sub_cancel_left,UF hz xs i];rfl
theorem jbl {α:Type}{enc:α->List AV}{z:Nat}(hz:∀ x,(enc x).length=z){xs:List α}{i:Nat}(h:i<xs.length):((fl enc xs).drop (i * z)).take z=enc xs[i]:=by
 rw[UF hz,QbV h,XN,List.take_append,List.take_of_length_le (by rw[hz];omega),hz,Nat.sub_self,Qbf,Qbj]
theorem jjy {α:Type}{enc:α->List AV}{z:Nat}(hz:∀ x,(enc x).length=z){xs:List α}{i:Nat}(h:i<xs.length){k:Nat}(hk:k<z):(fl enc xs).getD (i * z+k) .bad=(enc xs[i]).getD k .bad:=by
 rw[<-jbl hz h];simp only[Qac,QbJ,hk,if_true,QbK]
theorem Yq {α:Type}{enc:α->List AV}{z:Nat}(hz:∀ x,(enc x).length=z){xs:List α}{i:Nat}(h:i<xs.length):jl (Jb z (.lptr (fl enc xs) (i * z)) st) K=K (.agg (enc xs[i])) st:=by
 have:(i+1) * z<=xs.length * z:=QaT z h;rw[Qbb] at this;rw[jcm (by rw[Yh hz];omega),jbl hz h]
theorem zB {α:Type}{enc:α->List AV}{z:Nat}(hz:∀ x,(enc x).length=z){xs:List α}{i:Nat}(h:i<xs.length){k:Nat}(hk:k<z):jl (zm (.lptr (fl enc xs) (i * z+k)) st) K=K ((enc xs[i]).getD k .bad) st:=by
 have:(i+1) * z<=xs.length * z:=QaT z h;rw[Qbb] at this;rw[Z2 (by rw[Yh hz];omega),jjy hz h hk]
theorem jcp {k:Nat}{cs:List AV}(h:k<cs.length):jl (jbk k (.agg cs) st) K=K (cs.getD k .bad) st:=by
 have:Qcd (Qcc k) (jM cs)=true:=by rw[qe,jO];exact h
 simp only[jbk,JE,this,cond_true,jl,zk]
theorem HH (k n:Nat)(cs:List AV):jl (jbj k n (.agg cs) st) K=K (.agg ((cs.drop k).take n)) st:=by
 simp only[jbj,JE,jl,q8,y4]
theorem Um (l:List AV):l.take 0=[]:=rfl
theorem Ul (a:AV)(l:List AV)(n:Nat):(a :: l).take (n+1)=a :: l.take n:=rfl
theorem UN (l:List AV):l.drop 0=l:=rfl
theorem jjI (a:AV)(l:List AV)(n:Nat):(a :: l).drop (n+1)=l.drop n:=rfl
theorem Cl.rw_ {b:Nat}{cs:List AV}(C:Cl st b cs):Rw st.h b cs:=by
 obtain⟨n,zl,z,c,hg⟩:=C.row;have hl:=C.len;rw[zP hg] at hl;refine⟨n,zl,z,c,hg,?_⟩;rw[qr];apply Qbr
 ·simp[hl]
 ·intro i h1 h2;have:=C.cell i h2;rw[QX hg] at this;simp only[List.getElem_map,List.getElem_range,Qab,this];simp[Qac,Qaj h2]
end
section
variable {P:Program} {base:Bs}
theorem uG (cs:List AV):Xc cs=nw st0 cs:=by unfold Xc nw;rw[jO];rfl
def G0 (u v:AV)(s:St):Prop:=FzD 0 9000009 s v u
def G1 (n:Nat)(c':List AV)(u v:AV)(s:St):Prop:=FzD 1 9000009 s v u/\∃ c2,Rw s.h 0 c2/\c2.length=n/\FzsD 1 9000009 s c2 c'
theorem jT {f:FuncId}{F:XF}(hl:jF P f=some F)(hnd:F.body.nd=true)(hm:base.pur f=1){aZ:List AV}{o:Oc}
  (h:xC P base F.body (jn F.ps aZ) st0 (Yn P F.res (YE G0 o)) λv _ s=>Yv G0 o v s.bare):PX P base f aZ o:=
 PX.of hm (XR hl hnd h)
theorem jC {f:FuncId}{F:XF}(hl:jF P f=some F)(hnd:F.body.nd=true)(hm:base.pur f=3){c aZ:List AV}(hc:c.all pc=true){o:Oc}{c':List AV}
  (h:xC P base F.body (jn F.ps (.ptr 0 0 :: aZ)) (nw st0 c) (Yn P F.res (YE (G1 c.length c') o)) λv _ s=>Yv (G1 c.length c') o v s.bare):PM P base f c aZ o c':=by
 rw[<-uG] at h;exact PM.of hm hc (XR hl hnd h)
theorem PM.xbk {f:FuncId}{c aZ aZ':List AV}{ks:List Nat}{o:Oc}{c':List AV}(h:PM P base f c aZ o c'){st:St}{p:Nat}(C:Cl (qQ ks st) p c)(hf:fzs (fz 9000009 st.h) aZ'=some (aZ,ks))(hp:aZ.all pa=true)(hb:∀ st,base.run f (.ptr p 0 :: aZ') st=.no)(K Kp:AV->St->Prop) :
  XB P base f (.ptr p 0 :: aZ') st K Kp=XJ o K Kp (wr (qQ ks st) p 0 c'):=by
 obtain⟨N,D,h⟩:=h;have e0:∀ n,N<=n->∀ d,D<=d->evC P base n d f (.ptr p 0 :: aZ') st=o.er (wr (qQ ks st) p 0 c'):=λn hn d hd=>by
  rw[h n hn d hd st p aZ' ks C.rw_ hf hp hb]
  congr 1
 refine propext ⟨λ⟨r,⟨N2,D2,h2⟩,h3⟩=>?_,λh3=>⟨_,⟨N,D,e0⟩,?_⟩⟩
 ·have e1:=e0 (max N N2) (Qak ..) (max D D2) (Qak ..);have e2:=h2 (max N N2) (Qal ..) (max D D2) (Qal ..);rw[e1] at e2;rw[<-e2] at h3;cases o<;>exact h3
 ·cases o<;>exact h3
theorem PM.xb {f:FuncId}{c aZ:List AV}{o:Oc}{c':List AV}(h:PM P base f c aZ o c'){st:St}{p:Nat}(C:Cl st p c)(hp:aZ.all pa=true)(hb:∀ st,base.run f (.ptr p 0 :: aZ) st=.no)(K Kp:AV->St->Prop) :
 XB P base f (.ptr p 0 :: aZ) st K Kp=XJ o K Kp (wr st p 0 c'):=h.xbk (ks:=[]) C (Vx (d:=9000007) hp) hp hb K Kp
theorem jgu (v:AV)(K Kp:AV->St->Prop)(st:St):XJ (.ok v) K Kp st=K v st:=nr rfl
theorem jgt (v:AV)(K Kp:AV->St->Prop)(st:St):XJ (.pn v) K Kp st=Kp v st:=nr rfl
theorem jdI (G:AV->AV->St->Prop)(u v:AV)(s:St):YE G (.ok u) v s=G u v s:=nr rfl
theorem jcX (G:AV->AV->St->Prop)(u v:AV)(s:St):Yv G (.pn u) v s=G u v s:=nr rfl
def jaW (b b2:Nat)(J:Sl->St->Prop)(Q:Out->Prop):Out->Res (J,Q)
 |.go L s=>J L s
 |.ex i L s=>cond (Qcb i b2) (J L s) (cond (Qcb i b) (Q (.go L s)) (Q (.ex i L s)))
 |.rt L s=>Q (.rt L s)
theorem ji7 (b b2:Nat)(J:Sl->St->Prop)(Q:Out->Prop)(L:Sl)(s:St):jaW b b2 J Q (.go L s)=J L s:=nr rfl
theorem ji6 (b b2:Nat)(J:Sl->St->Prop)(Q:Out->Prop)(L:Sl)(s:St):jaW b b2 J Q (.rt L s)=Q (.rt L s):=nr rfl
theorem jeX (b b2:Nat)(J:Sl->St->Prop)(Q:Out->Prop)(i:Nat)(L:Sl)(s:St):jaW b b2 J Q (.ex i L s)=cond (Qcb i b2) (J L s) (cond (Qcb i b) (Q (.go L s)) (Q (.ex i L s))):=nr rfl
theorem qZ {b b2 i n c d:Nat}{body:XC}{L:Sl}{st:St}{Q:Out->Prop}{Kp:AV->Sl->St->Prop}(N:Nat)(I:Nat->Sl->St->Prop)(hN:N<=4611686018427387904)(hne:c≠i/\c≠n/\i≠n/\d≠i/\b≠b2)
  (hi:Has L i (.int .i64 0)) (hn:Has L n (.int .i64 (N:Int))) (h0:I 0 L st) (hc:∀ k L s v,I k L s->I k ((c,v) :: L) s) (hI:∀ k L s v,I k L s->I k ((i,v) :: L) s)
  (step:∀ k L s,k<N->I k L s->Has L i (.int .i64 (k:Int))->Has L n (.int .i64 (N:Int))->Zt (xC P base body L s (jaW b b2 (λL' s'=>I (k+1) L' s'/\Has L' i (.int .i64 (k:Int))/\Has L' n (.int .i64 (N:Int))) Q) Kp))
  (fin:∀ L s,I N L s->Zt (Q (.go L s))) :
  xC P base (.loop (.seq (.ops [⟨some c,true,none,.i (.bin .lss (.t i) (.t n))⟩]) (.seq (.cond (.t c) .skip (.exit b)) (.seq (.block b2 body) (.ops [⟨some d,false,none,.i (.bin .add (.t i) (.c (.int .i64 1)))⟩,⟨some i,true,none,.i (.mv (.t d))⟩]))))) L st (yx b Q) Kp:=by
 obtain⟨n1,n2,n3,n4,n5⟩:=hne;refine qB (λm L s=>∃ k,k<=N/\m=N - k/\I k L s/\Has L i (.int .i64 (k:Int))/\Has L n (.int .i64 (N:Int))) ?_ N ⟨0,Qaf _,rfl,h0,hi,hn⟩;rintro m L s ⟨k,hk,rfl,hk',h1,h2⟩;unfold Zt;simp only[Kd,Ke,ur,x_i,KH,ja h1,ja h2,jaL,Kf,uD,YT,gk,ja1];by_cases hlt:k<N
 ·rw[decide_eq_true om,jhm,ge,YT,Kd,ut];refine Hy _ _ _ _ _ (step k ((c,.bool true) :: L) s hlt (hc k L s _ hk') (by rw[jb n1];exact h1) (by rw[jb n2];exact h2)) λo ho=>?_;have go:∀ L' s',(I (k+1) L' s'/\Has L' i (.int .i64 (k:Int))/\Has L' n (.int .i64 (N:Int)))->xO P base [⟨some d,false,none,.i (.bin .add (.t i) (.c (.int .i64 1)))⟩,⟨some i,true,none,.i (.mv (.t d))⟩] ⟨[],L'⟩ s' (λe st'=>Qt (λL' st'=>∃ k',k'<N - k/\∃ k,k<=N/\k'=N - k/\I k L' st'/\Has L' i (.int .i64 (k:Int))/\Has L' n (.int .i64 (N:Int))) (yx b Q) (.go e.g st')) Kp:=by
   intro L' s' ⟨h3,h4,h5⟩;simp only[ur,x_i,KH,ja h4,ja2,jiM (show k+1<=9223372036854775807 by omega),Ut,jfl,ja0,Kf,uD,YT];refine⟨N - (k+1),om,k+1,om,rfl,hI _ _ _ _ h3,Has.here _ _ _,by rw[jb n3];exact h5⟩
  cases o with
  |go L' s'=>exact go L' s' ho
  |rt L' s'=>exact ho
  |ex q L' s'=>
   rw[jeX] at ho;cases hq:Qcb q b2
   ·rw[hq] at ho;have e1:yx b2 (Qt (λL' st'=>xC P base (.ops [⟨some d,false,none,.i (.bin .add (.t i) (.c (.int .i64 1)))⟩,⟨some i,true,none,.i (.mv (.t d))⟩]) L' st' (Qt (λL' st'=>∃ k',k'<N - k/\∃ k,k<=N/\k'=N - k/\I k L' st'/\Has L' i (.int .i64 (k:Int))/\Has L' n (.int .i64 (N:Int))) (yx b Q)) Kp) (Qt (λL' st'=>∃ k',k'<N - k/\∃ k,k<=N/\k'=N - k/\I k L' st'/\Has L' i (.int .i64 (k:Int))/\Has L' n (.int .i64 (N:Int))) (yx b Q))) (.ex q L' s')=yx b Q (.ex q L' s'):=by
     simp only[yx,hq,cond_false,Qt]
    show yx b2 _ _;rw[e1];exact ho
   ·rw[hq] at ho;have:=go L' s' ho;show yx b2 _ _;simp only[yx,hq,cond_true,YT,Ke];exact this
 ·have hkN:k=N:=om
  rw[decide_eq_false om,jhn,gg,uC,uC];subst hkN;show yx b Q (.ex b _ s);rw[vJ];exact fin _ _ (hc _ _ _ _ hk')
theorem ZK (n:Nat)(cs:List AV):(AV.lst n cs).cells=[.lst n cs]:=nr rfl
theorem Gi (n:Nat)(cs l:List AV):lall AV.cell (.lst n cs :: l)=lall AV.cell l:=nr rfl
theorem U4 (n:Nat)(cs:List AV):(AV.lst n cs).plain=true:=nr rfl
theorem qW:st0.nx=0:=nr rfl
theorem jcE (P:Program)(t:TypeId)(cs:List AV)(o:Nat)(v:AV)(h:T AO):(jW P t (.lptr cs o) v h=true)=True:=by simp[jW]
theorem G0.v {u v:AV}{s:St}(h:v=u)(hp:pa v=true):G0 u v s:=by subst h;exact FzD.pa hp
theorem H9 (p:Prop):Zt p=p:=nr rfl
theorem jcS:zd []=.tup []:=nr rfl
theorem Uk:∀ {c c':List AV},c'.length=c.length->upd c 0 c'=c'
 |[],[],_=>rfl
 |[],_ :: _,h=>by simp at h
 |_ :: _,[],h=>by simp at h
 |_ :: c,v :: c',h=>by rw[XV,Uk (by simpa using h)]
theorem Xs {c c':List AV}(h:c'.length=c.length):upd c 0 c'=c':=Uk h
theorem Cl.wr0 {s:St}{b:Nat}{c c':List AV}(C:Cl s b c)(h:c'.length=c.length):Cl (Go.Sy.wr s b 0 c') b c':=by
 have:=C.wr 0 c';rwa [Uk h] at this
theorem G1.done {s:St}{n:Nat}{c':List AV}{u v:AV}(C:Cl s 0 c')(hl:c'.length=n)(hp:c'.all pc=true)(hv:FzD 1 9000009 s v u):G1 n c' u v s:=
 ⟨hv,c',C.rw_,hl,FzsD.pc hp⟩
theorem FzD.u {m d:Nat}{s:St}:FzD m (d+1) s (.tup []) (.tup []):=FzD.tup FzsD.nil
abbrev Met (P:Program)(base:Bs)(f:FuncId)(c xs:List AV)(o:Oc)(c':List AV):Prop:=∀ {st:St} {p:Nat},Cl st p c->∀ K Kp,XB P base f (.ptr p 0 :: xs) st K Kp=XJ o K Kp (wr st p 0 c')
theorem PM.met {f:FuncId}{c xs:List AV}{o:Oc}{c':List AV}(h:PM P base f c xs o c')(hp:xs.all pa=true)(hb:∀ p st,base.run f (.ptr p 0 :: xs) st=.no):Met P base f c xs o c':=λC K Kp=>h.xb C hp (hb _) K Kp
theorem Ue {f:FuncId}{xs:List AV}{st:St}{v:AV}{st':St}(h:base.run f xs st=.ok v st')(K Kp:AV->St->Prop):XB P base f xs st K Kp=K v (back st st'):=by
 have e0:∀ n,0<=n->∀ d,1<=d->evC P base n d f xs st=.ok v st':=λn _ d hd=>by
  obtain⟨d',rfl⟩:∃ d',d=d'+1:=⟨d - 1,om⟩;simp only[evC,h]
 refine propext ⟨λ⟨r,⟨N2,D2,h2⟩,h3⟩=>?_,λh3=>⟨_,⟨0,1,e0⟩,h3⟩⟩;have e1:=e0 N2 (Qaf _) (max 1 D2) (Qak ..);have e2:=h2 N2 (φ _) (max 1 D2) (Qal ..);rw[e1] at e2;rw[<-e2] at h3;exact h3
def cvV (P:Program)(s d:TypeId)(v:AV)(st:St):ER:=(Jd P s d (O v)).run E0 st
theorem jdt {e:En}{st:St}{K:AV->St->Prop}(s d:TypeId)(x:A):wK P base (.i (.conv s d x)) e st K=on1 e x λv=>jl (cvV P s d v st) K:=k_1 rfl (λ_=>rfl) K
theorem jhV {st:St}{K:AV->St->Prop}{s d e:TypeId}(h1:P.underlying s=some .string)(h2:P.underlying d=some (.slice e))(h3:P.underlying e=some (.int .u8))(l:List Nat) :
  jl (cvV P s d (.str l) st) K=K (.slice st.nx 0 l.length l.length 1 false) (nw st (l.map λ(c:Nat)=>.int .u8 (c:Int))):=by
 simp only[cvV,Jd,h1,h2,h3,O,zp,jO,jB,St.alloc_eq,jl];unfold nw;rw[QaN,yE];rfl
theorem jcK {st:St}(x k:Nat)(l:List RV)(L:Sl)(F:List AV->Prop):yt P (.cA x k :: l) L st F=on1 ⟨[],L⟩ (.t x) λv=>jl (Jb k v st) λu _=>yt P l L st λvs=>F (u :: vs):=by
 simp only[yt,gJ,on1,okA,vl,En.has,En.look,has,cond_false];rfl
theorem HO {st:St}(x:Nat)(l:List RV)(L:Sl)(F:List AV->Prop):yt P (.c1 x :: l) L st F=on1 ⟨[],L⟩ (.t x) λv=>jl (zm v st) λu _=>yt P l L st λvs=>F (u :: vs):=by
 simp only[yt,gJ,on1,okA,vl,En.has,En.look,has,cond_false];rfl
def Km (n sz:Nat)(v:AV)(st:St):ER:=qU v λb o=>optA none 0 λl=>optA none n λh=>
 cond (Qcd l h) (cond (Qcd h n)
  (force (Qcg h l) λk=>force (Qce o (Qcf l sz)) λo=>force (Qcg n l) λc=>.ok (.slice b o k c sz true) st) .no) .no
theorem jdk {e:En}{st:St}{K:AV->St->Prop}(n sz:Nat)(x:A):wK P base (.i (.slA n sz x none none)) e st K=on1 e x λv=>jl (Km n sz v st) K:=k_1 (V:=λv st=>Km n sz v st) rfl (λ_=>rfl) K
theorem jcd {st:St}{K:AV->St->Prop}(b n sz:Nat):jl (Km n sz (.ptr b 0) st) K=K (.slice b 0 n n sz true) st:=by
 have e1:Qcd 0 n=true:=yn (Qaf _);have e2:Qcd n n=true:=yn (φ _);have e3:Qce 0 (Qcf 0 sz)=0:=by show 0+0 * sz=0;omega
 have e4:Qcg n 0=n:=rfl;simp only[Km,qU,optA,e1,e2,e3,e4,cond_true,jB,jl]
theorem HG {st:St}{K:AV->St->Prop}{b n s:Nat}{i:Int}(h0:0<=i)(h:i<n)(k:IntKind):jl (jbg n s (.ptr b 0) (.int k i) st) K=K (.ptr b (i.toNat * s)) st:=by
 have e1:Qcd (Qcc i.toNat) n=true:=yn om;have e2:Qce 0 (Qcf i.toNat s)=i.toNat * s:=Qab _;simp only[jbg,qU,HV h0,e1,e2,cond_true,jB,jl]
theorem jcc {st:St}{K:AV->St->Prop}{l:List Nat}{i:Int}(h0:0<=i)(h:i<=l.length)(k:IntKind):jl (zK (.str l) (some (.int k i)) none st) K=K (.str (l.drop i.toNat)) st:=by
 obtain⟨m,rfl⟩:=Qbq h0;exact jkf om k
theorem jcb {st:St}{K:AV->St->Prop}{l:List Nat}{i:Int}(h0:0<=i)(h:i<=l.length)(k:IntKind):jl (zK (.str l) none (some (.int k i)) st) K=K (.str (l.take i.toNat)) st:=by
 obtain⟨m,rfl⟩:=Qbq h0;exact jke om k
theorem jca {st:St}{K:AV->St->Prop}{l:List Nat}{i j:Int}(h0:0<=i)(h1:i<=j)(h:j<=l.length)(k k':IntKind):jl (zK (.str l) (some (.int k i)) (some (.int k' j)) st) K=K (.str ((l.drop i.toNat).take (j - i).toNat)) st:=by
 obtain⟨m,rfl⟩:=Qbq h0;obtain⟨n,rfl⟩:=Qbq (show 0<=j by omega);rw[jkd om om]
 congr 3
 omega
theorem jaG {f:FuncId}{xs:List AV}{st s:St}{v:AV}(h:∀ K Kp,K v s->XB P base f xs st K Kp)(K Kp:AV->St->Prop):XB P base f xs st K Kp=K v s:=by
 refine propext ⟨λ⟨r2,⟨N2,D2,h2⟩,h3⟩=>?_,h K Kp⟩;obtain⟨r,⟨N,D,h1⟩,h4⟩:=h (λv' s'=>v'=v/\s'=s) (λ_ _=>False) ⟨rfl,rfl⟩;have e1:=h1 (max N N2) (Qak ..) (max D D2) (Qak ..);have e2:=h2 (max N N2) (Qal ..) (max D D2) (Qal ..);rw[e1] at e2;subst e2;cases r with
 |no=>exact h4.elim
 |pn v s=>exact h4.elim
 |ok v' s'=>
  obtain⟨rfl,rfl⟩:=h4;exact h3
theorem jaq (st:St):bk st st.bare=st:=nr rfl
theorem G3 (st:St):back st st.bare=st:=nr rfl
def fi {α:Type}(q:α->Bool):List α->Int
 |[]=>-1
 |x :: xs=>if q x=true then 0 else if fi q xs<0 then -1 else fi q xs+1
theorem KN {α:Type}{q:α->Bool}:∀ {xs:List α} {k:Nat} (h:k<xs.length),(∀ j (hj:j<k),q (xs[j]'(om))=false)->q xs[k]=true->fi q xs=k
 |x :: xs,0,h,h0,hk=>by simp only[QbW] at hk;simp[fi,hk]
 |x :: xs,k+1,h,h0,hk=>by
  have:=KN (xs:=xs) (k:=k) (by simpa using h) (λj hj=>by have:=h0 (j+1) om;simpa only[QbH] using this) (by simpa only[QbH] using hk);have h1:=h0 0 om;simp only[QbW] at h1;simp only[fi,h1,this];simp;omega
theorem KM {α:Type}{q:α->Bool}:∀ {xs:List α},(∀ j (hj:j<xs.length),q xs[j]=false)->fi q xs=-1
 |[],_=>rfl
 |x :: xs,h=>by
  have h1:=h 0 (by simp);simp only[QbW] at h1;have:=KM (xs:=xs) λj hj=>by have:=h (j+1) (by simpa using hj);simpa only[QbH] using this
  simp[fi,h1,this]
theorem Cl.cv {s:St}{b:Nat}{c c':List AV}(h:Cl s b c)(e:c=c'):Cl s b c':=e▸h
theorem jv {s:St}{b c o:Nat}{vs cs:List AV}(h:c≠b):Cl (wr s b o vs) c cs=Cl s c cs:=
 propext ⟨λC=>⟨C.lt,zF (y8 h).symm C.row,(yD (y8 h).symm).trans C.len,λi hi=>(yw (y8 h).symm i).trans (C.cell i hi)⟩,λC=>C.wrO h o vs⟩
theorem jA {s:St}{c:Nat}{ds cs:List AV}(h:c<s.nx):Cl (nw s ds) c cs=Cl s c cs:=
 propext ⟨λC=>⟨h,zF (za (Qbp h)).symm C.row,(yD (za (Qbp h)).symm).trans C.len,λi hi=>(yw (za (Qbp h)).symm i).trans (C.cell i hi)⟩,λC=>C.nw ds⟩
theorem jz {s:St}{c:Nat}{cs:List AV}:Cl s.bare c cs=Cl s c cs:=propext ⟨λh=>⟨h.lt,h.row,h.len,h.cell⟩,λh=>⟨h.lt,h.row,h.len,h.cell⟩⟩
end
def Lv (lo hi:Nat)(s:St)(v:AV)(n:Nat)(cs:List AV)(z:Nat):Prop:=(v=.nils/\n=0/\cs=[])\/∃ b,v=.slice b 0 n n z false/\0<n/\cs.length=n * z/\Cl s b cs/\lo<=b/\b<hi
def aps (v:AV)(s:St)(news:List AV):St:=match v with | .slice b _ _ _ _ _=>ap s b news|_=>nw s news
def apv (z:Nat)(v:AV)(s:St):AV:=match v with | .slice _ _ n _ _ _=>.slice s.nx 0 (n+1) (n+1) z false|_=>.slice s.nx 0 1 1 z false
section
variable {lo hi n z:Nat} {s:St} {v:AV} {cs:List AV}
theorem Lv.nil:Lv lo hi s .nils 0 [] z:=.inl ⟨rfl,rfl,rfl⟩
theorem jp {b o:Nat}{vs:List AV}(h:b<lo\/hi<=b):Lv lo hi (wr s b o vs) v n cs z=Lv lo hi s v n cs z:=by
 unfold Lv;refine propext ⟨λk=>k.imp id λ⟨c,h1,h2,h3,h4,h5,h6⟩=>⟨c,h1,h2,h3,?_,h5,h6⟩,λk=>k.imp id λ⟨c,h1,h2,h3,h4,h5,h6⟩=>⟨c,h1,h2,h3,?_,h5,h6⟩⟩
 ·rwa [jv om] at h4
 ·rwa [jv om]
theorem jt {ds:List AV}(h:hi<=s.nx):Lv lo hi (nw s ds) v n cs z=Lv lo hi s v n cs z:=by
 unfold Lv;refine propext ⟨λk=>k.imp id λ⟨c,h1,h2,h3,h4,h5,h6⟩=>⟨c,h1,h2,h3,?_,h5,h6⟩,λk=>k.imp id λ⟨c,h1,h2,h3,h4,h5,h6⟩=>⟨c,h1,h2,h3,?_,h5,h6⟩⟩
 ·rwa [jA om] at h4
 ·rwa [jA om]
theorem jE:Lv lo hi s.bare v n cs z=Lv lo hi s v n cs z:=by unfold Lv;simp only[jz]
theorem Lv.up {hi':Nat}(h:Lv lo hi s v n cs z)(h2:hi<=hi'):Lv lo hi' s v n cs z:=h.imp id λ⟨c,h1,h2,h3,h4,h5,h6⟩=>⟨c,h1,h2,h3,h4,h5,om⟩
theorem jh (v:AV)(s:St)(news:List AV):(aps v s news).nx=s.nx+1:=by unfold aps;split<;>rfl
theorem Vz (v:AV)(s:St)(news:List AV):(aps v s news).fr=s.fr:=by unfold aps;split<;>rfl
theorem Lv.app {news:List AV}(h:Lv lo hi s v n cs z)(hl:news.length=z)(h1:lo<=s.nx):Lv lo (s.nx+1) (aps v s news) (apv z v s) (n+1) (cs ++ news) z:=by
 rcases h with ⟨rfl,rfl,rfl⟩|⟨b,rfl,h2,h3,h4,h5,h6⟩
 ·exact .inr ⟨s.nx,rfl,om,by simp[hl],Cl.new s news,h1,om⟩
 ·exact .inr ⟨s.nx,rfl,om,by rw[Qag,h3,hl,Qbb],h4.ap news,h1,om⟩
theorem Cl.apO {s:St}{b c:Nat}{cs vs:List AV}(h:Cl s c cs)(hb:c≠b):Cl (Go.Sy.ap s b vs) c cs:=
 have e:jr (Go.Sy.ap s b vs).h c=jr s.h c:=jac (Qbp h.lt) hb
 ⟨Nat.lt_succ_of_lt h.lt,zF e h.row,(yD e).trans h.len,λi hi=>(yw e i).trans (h.cell i hi)⟩
theorem Cl.aps {c:Nat}{ds news:List AV}(C:Cl s c ds)(h:Lv lo hi s v n cs z)(hc:c<lo\/hi<=c):Cl (Go.Sy.aps v s news) c ds:=by
 rcases h with ⟨rfl,rfl,rfl⟩|⟨b,rfl,h2,h3,h4,h5,h6⟩
 ·exact C.nw news
 ·exact C.apO (b:=b) om
theorem Lv.aps {lo' hi' n' z':Nat}{v':AV}{cs' news:List AV}(V:Lv lo' hi' s v' n' cs' z')(h:Lv lo hi s v n cs z)(hc:hi'<=lo\/hi<=lo'):Lv lo' hi' (Go.Sy.aps v s news) v' n' cs' z':=
 V.imp id λ⟨c,h1,h2,h3,h4,h5,h6⟩=>⟨c,h1,h2,h3,h4.aps h om,h5,h6⟩
theorem Lv.fz {m d:Nat}(h:Lv lo hi s v n cs z)(hm:m<=lo)(hp:cs.all pc=true):FzD m (d+2) s v (.lst n cs):=by
 rcases h with ⟨rfl,rfl,rfl⟩|⟨b,rfl,h2,h3,h4,h5,h6⟩
 ·exact FzD.nils
 ·refine FzD.slice h4.rw_ (QaA h3.symm) om ?_;rw[<-h3,Qaw];exact FzsD.pc hp
variable {K:AV->St->Prop}
theorem Qr {bytes bv xc:Nat}{xx:Bool}(h:Lv lo hi s v n cs z)(hz:0<z)(hby:(n+1) * bytes<=140737488355328)(h63:n+1<=9223372036854775807)(hv:z<=qz s.h bv) :
  jl (XT z bytes v (.slice bv 0 1 xc z xx) s) K=K (apv z v s) (aps v s (rats s.h bv 0 z)):=by
 obtain⟨m,zl,zz,ks,hg⟩:=Q0 (h:=s.h) (b:=bv) om;rw[zP hg] at hv;have e0:Qcf 1 z=z:=Qbe z;have e1:Qcd (Qce 0 z) m=true:=yn (by show 0+z<=m;omega);have er:jN zl zz ks z 0=rats s.h bv 0 z:=by
  rw[XG,qr];exact QaW λi _=>by rw[QX hg]
 have el:(rats s.h bv 0 z).length=z:=QP _ _ _ _;have e3:Qcb (jM (rats s.h bv 0 z)) z=true:=ZN (by rw[jO,el]);rcases h with ⟨rfl,rfl,rfl⟩|⟨b,rfl,h2,h3,h4,h5,h6⟩
 ·have e4:Qcb 1 0=false:=rfl;have e5:Qcd (Qcf 1 bytes) 140737488355328=true:=yn (by show 1 * bytes<=_;omega);have e6:Qcd 1 9223372036854775807=true:=yn dc;simp only[XT,JD,firstCells,hg,yz,jB,e0,e1,cond_true,er,yo,e3,e4,cond_false,e5,e6,St.alloc_eq,jl];unfold apv Go.Sy.aps nw;rw[el]
 ·obtain⟨m',zl',zz',ks',hg'⟩:=h4.row;have h4l:=h4.len;rw[zP hg'] at h4l;have e4:Qcd (Qce n 1) n=false:=jgV (Qbm _);have e5:Qcd (Qcf (Qce n 1) bytes) 140737488355328=true:=yn hby;have e6:Qcd (Qce n 1) 9223372036854775807=true:=yn h63;have e7:Qcb z z=true:=ZN rfl;have e8:Qcb 0 0=true:=rfl;have e9:Qcb (Qcf n z) m'=true:=ZN (by rw[h4l,h3];rfl);simp only[XT,JD,firstCells,hg,yz,jB,e0,e1,cond_true,er,yo,e3,hg',e4,cond_false,e5,e6,e7,e8,e9,St.put_eq,St.alloc_eq,jl];have e10:Qcf (Qce n 1) z=m'+(rats s.h bv 0 z).length:=by rw[el,h4l,h3];exact Qbb n z
  rw[e10];have ea:ap s b (rats s.h bv 0 z)=⟨s.nx+1,(jZ (jI s.nx)).run (.row (m'+(rats s.h bv 0 z).length) zl' zz' (qh (rats s.h bv 0 z) ks' m')) ((jZ (jI b)).run .dead s.h),min s.dirty b,s.fr⟩:=by
   unfold ap apO;rw[hg']
  show _=K (.slice s.nx 0 (n+1) (n+1) z false) (ap s b (rats s.h bv 0 z));rw[ea]
theorem Lv.get (h:Lv lo hi s v n cs z)(st:St)(news:List AV)(c:Nat)(hc:c<lo\/hi<=c)(hn:c<st.nx):jr (Go.Sy.aps v st news).h c=jr st.h c:=by
 rcases h with ⟨rfl,rfl,rfl⟩|⟨b,rfl,h2,h3,h4,h5,h6⟩
 ·exact za (Qbp hn)
 ·exact jac (Qbp hn) om
theorem Lv.at (h:Lv lo hi s v n cs z)(st:St)(news:List AV)(c i:Nat)(hc:c<lo\/hi<=c)(hn:c<st.nx):rat (Go.Sy.aps v st news).h c i=rat st.h c i:=yw (h.get st news c hc hn) i
theorem Lv.ln (h:Lv lo hi s v n cs z)(st:St)(news:List AV)(c:Nat)(hc:c<lo\/hi<=c)(hn:c<st.nx):qz (Go.Sy.aps v st news).h c=qz st.h c:=yD (h.get st news c hc hn)
theorem Lv.rts (h:Lv lo hi s v n cs z)(st:St)(news:List AV)(c o k:Nat)(hc:c<lo\/hi<=c)(hn:c<st.nx):rats (Go.Sy.aps v st news).h c o k=rats st.h c o k:=Yd (h.get st news c hc hn) k o
theorem Lv.cl (h:Lv lo hi s v n cs z)(st:St)(news ds:List AV)(c:Nat)(hc:c<lo\/hi<=c)(hn:c<st.nx):Cl (Go.Sy.aps v st news) c ds=Cl st c ds:=
 propext ⟨λC=>have e:=h.get st news c hc hn;⟨hn,zF e.symm C.row,(yD e.symm).trans C.len,λi hi=>(yw e.symm i).trans (C.cell i hi)⟩,λC=>have e:=h.get st news c hc hn;⟨by rw[jh];exact Nat.lt_succ_of_lt hn,zF e C.row,(yD e).trans C.len,λi hi=>(yw e i).trans (C.cell i hi)⟩⟩
theorem Lv.put {news:List AV}(h:Lv lo hi s v n cs z)(hl:news.length=z)(h1:lo<=s.nx){m:Nat}(hm:m=s.nx+1):Lv lo m (Go.Sy.aps v s news) (apv z v s) (n+1) (cs ++ news) z:=by rw[hm];exact h.app hl h1
end
def kl (b:Nat)(s:St):St:=qQ [b] s
section
variable {lo hi n z b c:Nat} {s:St} {v:AV} {cs:List AV}
theorem jg (b:Nat)(s:St):(kl b s).nx=s.nx:=nr rfl
theorem KJ (b:Nat)(s:St):(kl b s).fr=s.fr:=nr rfl
theorem vV (h:c≠b):jr (kl b s).h c=jr s.h c:=by
 show jr ((jZ (jI b)).run .dead s.h) c=_;rw[jV,if_neg h]
theorem KV {i:Nat}(h:c≠b):rat (kl b s).h c i=rat s.h c i:=yw (vV h) i
theorem wk (h:c≠b):qz (kl b s).h c=qz s.h c:=yD (vV h)
theorem YS {o k:Nat}(h:c≠b):rats (kl b s).h c o k=rats s.h c o k:=Yd (vV h) _ _
theorem jS (h:c≠b):Cl (kl b s) c cs=Cl s c cs:=
 propext ⟨λC=>have e:=vV (s:=s) h;⟨C.lt,zF e.symm C.row,(yD e.symm).trans C.len,λi hi=>(yw e.symm i).trans (C.cell i hi)⟩,λC=>have e:=vV (s:=s) h;⟨C.lt,zF e C.row,(yD e).trans C.len,λi hi=>(yw e i).trans (C.cell i hi)⟩⟩
theorem jx (h:b<lo\/hi<=b):Lv lo hi (kl b s) v n cs z=Lv lo hi s v n cs z:=by
 unfold Lv;refine propext ⟨λk=>k.imp id λ⟨c,h1,h2,h3,h4,h5,h6⟩=>⟨c,h1,h2,h3,?_,h5,h6⟩,λk=>k.imp id λ⟨c,h1,h2,h3,h4,h5,h6⟩=>⟨c,h1,h2,h3,?_,h5,h6⟩⟩
 ·rwa [jS om] at h4
 ·rwa [jS om]
theorem Jh (h0:0<cs.length)(h1:b<s.nx)(h2:qz s.h b=cs.length)(h3:rats s.h b 0 cs.length=cs):Cl s b cs:=Cl.of_rats h1 h2 rfl h0 h3
def df (x:FuncId×List AV)(s:St):St:=⟨s.nx,s.h,s.dirty,x :: s.fr⟩
theorem ZA (x:FuncId×List AV)(s:St):(df x s).nx=s.nx:=nr rfl
theorem UC (x:FuncId×List AV)(s:St):(df x s).h=s.h:=nr rfl
theorem KK (x:FuncId×List AV)(s:St):(df x s).fr=x :: s.fr:=nr rfl
theorem jaH (f:FuncId)(caps vs:List AV){K:AV->St->Prop}:ud (.fn f caps) vs s K=K qf (df (f,vs ++ caps) s):=nr rfl
theorem jdx:st0.fr=[]:=nr rfl
theorem jfm {m k:Nat}{x:Bool}{d:Nat}(C:Cl s b cs)(hl:n * z=cs.length)(hp:cs.all pc=true):fz (d+2) s.h (.slice b 0 n m z x)=some (.lst n cs,[b]):=by
 obtain⟨q,zl,zz,ct,h1,h2,h3⟩:=C.rw_.len;show(match jr s.h b with
  |some (.row n' zl z' cs)=>cond (Qcd (Qce 0 (Qcf n z)) n') ((fzs (fz (d+1) s.h) (jN zl z' cs (Qcf n z) 0)).map λ(p:List AV×List Nat)=>(AV.lst n p.1,b :: p.2)) none
  |_=>none)=_
 rw[h1];dsimp only;have e1:Qcd (Qce 0 (Qcf n z)) q=true:=by rw[qe];show 0+n * z<=q;omega
 have e2:jN zl zz ct (Qcf n z) 0=cs:=by
  rw[show Qcf n z=q by show n * z=q;omega];exact h2
 rw[e1,e2,Zm hp];rfl
def Fza (s:St)(aZ' aZ:List AV)(ks:List Nat):Prop:=fzs (fz 9000009 s.h) aZ'=some (aZ,ks)
theorem Fza.nil:Fza s [] [] []:=rfl
theorem Fza.pa {aZ' aZ:List AV}{ks:List Nat}(hv:pa v=true)(h:Fza s aZ' aZ ks):Fza s (v :: aZ') (v :: aZ) ks:=by
 unfold Fza at *;simp only[fzs];rw[jbi (d:=9000007) hv,h];rfl
theorem Fza.sl {aZ' aZ:List AV}{ks:List Nat}{m:Nat}{x:Bool}(C:Cl s b cs)(hl:n * z=cs.length)(hp:cs.all pc=true)(h:Fza s aZ' aZ ks):Fza s (.slice b 0 n m z x :: aZ') (.lst n cs :: aZ) (b :: ks):=by
 unfold Fza at *;simp only[fzs];rw[jfm (d:=9000007) (k:=0) C hl hp,h];rfl
variable {P:Program} {base:Bs}
theorem jeY {f:FuncId}{F:XF}(hl:jF P f=some F)(hm:base.pur f=1){aZ:List AV}{o:Oc}
 (h:xC P base F.body (jn F.ps aZ) st0 (GE P base F.res (YE G0 o) (Yv G0 o)) (Vm P base F.res (YE G0 o) (Yv G0 o))):PX P base f aZ o:=PX.of hm (jfC hl h)
theorem PX.xf {f:FuncId}{aZ aZ':List AV}{ks:List Nat}{o:Oc}(h:PX P base f aZ o){st:St}(hf:Fza st aZ' aZ ks)(hb:∀ st,base.run f aZ' st=.no)(K Kp:AV->St->Prop):XB P base f aZ' st K Kp=XJ o K Kp (qQ ks st):=h.cxk hf hb K Kp
end
end Go.Sy
end
noncomputable section
namespace Go.Sy
open Go.Ev
theorem Cl.q {s:St}{b:Nat}{cs:List AV}(h:Cl s b cs):type_of% (aI h.len (aI h.cell h.ratsP)):=aI h.len (aI h.cell h.ratsP)
theorem Cl.r {s:St}{b:Nat}{cs:List AV}(h:Cl s b cs):type_of% (aI h.len h.ratsP):=aI h.len h.ratsP
theorem rzA:type_of% (aI (@H9) (aI (@ge) (aI (@Ke) (aI (@jb2) (aI (@jb0) (aI (@Kd) (aI (@ut) (aI (@gg) (aI (@jfQ) (aI (@gk) (aI (@Kf) (aI (@ur) (aI (@Hx) (aI (@jb3) (aI (@gn) (aI (@gm) (aI (@jb1) (aI (@gj) (aI (@gi) (aI (@Hv) (aI (@x_i) (aI (@jb4) (aI (@jfR) (aI (@Hw) (aI (@gd) (aI (@gc) (aI (@jbZ) (aI (@YT) (aI (@uC) (aI (@HN) (aI (@U0) (aI (@UY) (aI (@vJ) (aI (@UZ) (aI (@ji5) (aI (@ja2) (aI (@ja0) (aI (@jcN) (aI (@ja1) (aI (@jcO) (aI (@HP) (aI (@Ut) (aI (@uD) (aI (@jgp) (aI (@jgo) (aI (@HQ) (aI (@HR) (aI (@jcM) (aI (@jcL) (aI (@jcS) (aI (@jcR) (aI (@jcQ) (aI (@jcP) (aI (@kV) (aI (@kW) (aI (@kX) (aI (@jas) (@jar)))))))))))))))))))))))))))))))))))))))))))))))))))))))))):=aI (@H9) (aI (@ge) (aI (@Ke) (aI (@jb2) (aI (@jb0) (aI (@Kd) (aI (@ut) (aI (@gg) (aI (@jfQ) (aI (@gk) (aI (@Kf) (aI (@ur) (aI (@Hx) (aI (@jb3) (aI (@gn) (aI (@gm) (aI (@jb1) (aI (@gj) (aI (@gi) (aI (@Hv) (aI (@x_i) (aI (@jb4) (aI (@jfR) (aI (@Hw) (aI (@gd) (aI (@gc) (aI (@jbZ) (aI (@YT) (aI (@uC) (aI (@HN) (aI (@U0) (aI (@UY) (aI (@vJ) (aI (@UZ) (aI (@ji5) (aI (@ja2) (aI (@ja0) (aI (@jcN) (aI (@ja1) (aI (@jcO) (aI (@HP) (aI (@Ut) (aI (@uD) (aI (@jgp) (aI (@jgo) (aI (@HQ) (aI (@HR) (aI (@jcM) (aI (@jcL) (aI (@jcS) (aI (@jcR) (aI (@jcQ) (aI (@jcP) (aI (@kV) (aI (@kW) (aI (@kX) (aI (@jas) (@jar)))))))))))))))))))))))))))))))))))))))))))))))))))))))))
theorem rzB:type_of% (aI (@jaq) (aI (@G3) (aI (@ji7) (aI (@ji6) (aI (@jeX) (aI (@jfl) (aI (@jdl) (aI (@jgG) (aI (@jgA) (aI (@jgz) (aI (@jjq) (aI (@jdm) (aI (@KH) (aI (@jgx) (aI (@jdg) (aI (@jjp) (aI (@jgF) (aI (@jgD) (aI (@jds) (aI (@jdr) (aI (@jdq) (aI (@jdp) (aI (@jdo) (aI (@H7) (aI (@jgE) (aI (@jgy) (aI (@jdn) (aI (@Gp) (aI (@Gn) (aI (@Gm) (aI (@jdj) (aI (@jdi) (aI (@jdh) (aI (@Gq) (aI (@kD) (aI (@jgC) (aI (@H8) (aI (@jgH) (aI (@HE) (aI (@jdt) (aI (@jdk) (aI (@jgB) (aI (@jgI) (aI (@jiJ) (aI (@jfZ) (aI (@jaL) (aI (@jf3) (aI (@jf1) (aI (@jf4) (aI (@jf6) (aI (@jf0) (aI (@HC) (aI (@gx) (aI (@gy) (aI (@jct) (aI (@jb9) (aI (@jcg) (@jcf)))))))))))))))))))))))))))))))))))))))))))))))))))))))))):=aI (@jaq) (aI (@G3) (aI (@ji7) (aI (@ji6) (aI (@jeX) (aI (@jfl) (aI (@jdl) (aI (@jgG) (aI (@jgA) (aI (@jgz) (aI (@jjq) (aI (@jdm) (aI (@KH) (aI (@jgx) (aI (@jdg) (aI (@jjp) (aI (@jgF) (aI (@jgD) (aI (@jds) (aI (@jdr) (aI (@jdq) (aI (@jdp) (aI (@jdo) (aI (@H7) (aI (@jgE) (aI (@jgy) (aI (@jdn) (aI (@Gp) (aI (@Gn) (aI (@Gm) (aI (@jdj) (aI (@jdi) (aI (@jdh) (aI (@Gq) (aI (@kD) (aI (@jgC) (aI (@H8) (aI (@jgH) (aI (@HE) (aI (@jdt) (aI (@jdk) (aI (@jgB) (aI (@jgI) (aI (@jiJ) (aI (@jfZ) (aI (@jaL) (aI (@jf3) (aI (@jf1) (aI (@jf4) (aI (@jf6) (aI (@jf0) (aI (@HC) (aI (@gx) (aI (@gy) (aI (@jct) (aI (@jb9) (aI (@jcg) (@jcf)))))))))))))))))))))))))))))))))))))))))))))))))))))))))
theorem rzC:type_of% (aI (@jci) (aI (@jch) (aI (@jcj) (aI (@jaM) (aI (@gz) (aI (@jck) (aI (@jco) (aI (@jcn) (aI (@jaN) (aI (@jcq) (aI (@HD) (aI (@jce) (aI (@jf5) (aI (@jcp) (aI (@HH) (aI (@jcs) (aI (@jcr) (aI (@jf2) (aI (@jcd) (aI (@HG) (aI (@jcc) (aI (@jcb) (aI (@jca) (aI (@jap) (aI (@jjP) (aI (@jjQ) (aI (@jdQ) (aI (@X5) (aI (@X6) (aI (@jgu) (aI (@jgt) (aI (@jdI) (aI (@jcX) (aI (@jbT) (aI (@jgZ) (aI (@jj0) (aI (@jbU) (aI (@XA) (aI (@Xz) (aI (@YR) (aI (@Xy) (aI (@Xs) (aI (@Xx) (aI (@KV) (aI (@wk) (aI (@YS) (aI (@ZA) (aI (@UC) (aI (@KK) (aI (@KJ) (aI (@Vz) (aI (@jh) (aI (@jg) (aI (@Xr) (aI (@Q7) (aI (@XV) (aI (@Ys) (@Yr)))))))))))))))))))))))))))))))))))))))))))))))))))))))))):=aI (@jci) (aI (@jch) (aI (@jcj) (aI (@jaM) (aI (@gz) (aI (@jck) (aI (@jco) (aI (@jcn) (aI (@jaN) (aI (@jcq) (aI (@HD) (aI (@jce) (aI (@jf5) (aI (@jcp) (aI (@HH) (aI (@jcs) (aI (@jcr) (aI (@jf2) (aI (@jcd) (aI (@HG) (aI (@jcc) (aI (@jcb) (aI (@jca) (aI (@jap) (aI (@jjP) (aI (@jjQ) (aI (@jdQ) (aI (@X5) (aI (@X6) (aI (@jgu) (aI (@jgt) (aI (@jdI) (aI (@jcX) (aI (@jbT) (aI (@jgZ) (aI (@jj0) (aI (@jbU) (aI (@XA) (aI (@Xz) (aI (@YR) (aI (@Xy) (aI (@Xs) (aI (@Xx) (aI (@KV) (aI (@wk) (aI (@YS) (aI (@ZA) (aI (@UC) (aI (@KK) (aI (@KJ) (aI (@Vz) (aI (@jh) (aI (@jg) (aI (@Xr) (aI (@Q7) (aI (@XV) (aI (@Ys) (@Yr)))))))))))))))))))))))))))))))))))))))))))))))))))))))))
theorem rzD:type_of% (aI (@jf) (aI (@je) (aI (@jh) (aI (@ji) (aI (@z8) (aI (@YV) (aI (@YU) (aI (@Zg) (aI (@VZ) (aI (@VY) (aI (@uZ) (aI (@VW) (aI (@VX) (aI (@VV) (aI (@Q4) (aI (@ZL) (aI (@ZH) (aI (@YI) (aI (@X9) (aI (@YH) (aI (@ZJ) (aI (@ZK) (aI (@G8) (aI (@G7) (aI (@jfJ) (aI (@jbV) (aI (@KZ) (aI (@Vg) (aI (@uB) (aI (@jgn) (aI (@jgm) (aI (@w9) (aI (@uS) (aI (@jae) (aI (@qW) (aI (@jcK) (aI (@HO) (aI (@h_0) (aI (@h_1) (aI (@jjv) (aI (@jju) (aI (@jjx) (aI (@jjw) (aI (@jjj) (aI (@jji) (aI (@jiV) (aI (@jiU) (aI (@jiT) (aI (@jiH) (aI (@jiF) (aI (@jfU) (aI (@jiG) (aI (@jfV) (aI (@jcE) (aI (@Um) (aI (@Ul) (aI (@UN) (@jjI)))))))))))))))))))))))))))))))))))))))))))))))))))))))))):=aI (@jf) (aI (@je) (aI (@jh) (aI (@ji) (aI (@z8) (aI (@YV) (aI (@YU) (aI (@Zg) (aI (@VZ) (aI (@VY) (aI (@uZ) (aI (@VW) (aI (@VX) (aI (@VV) (aI (@Q4) (aI (@ZL) (aI (@ZH) (aI (@YI) (aI (@X9) (aI (@YH) (aI (@ZJ) (aI (@ZK) (aI (@G8) (aI (@G7) (aI (@jfJ) (aI (@jbV) (aI (@KZ) (aI (@Vg) (aI (@uB) (aI (@jgn) (aI (@jgm) (aI (@w9) (aI (@uS) (aI (@jae) (aI (@qW) (aI (@jcK) (aI (@HO) (aI (@h_0) (aI (@h_1) (aI (@jjv) (aI (@jju) (aI (@jjx) (aI (@jjw) (aI (@jjj) (aI (@jji) (aI (@jiV) (aI (@jiU) (aI (@jiT) (aI (@jiH) (aI (@jiF) (aI (@jfU) (aI (@jiG) (aI (@jfV) (aI (@jcE) (aI (@Um) (aI (@Ul) (aI (@UN) (@jjI)))))))))))))))))))))))))))))))))))))))))))))))))))))))))
theorem rzL:type_of% (aI (@ZA) (aI (@UC) (aI (@jf) (aI (@je) (aI (@jh) (aI (@jg) (aI (@ji) (aI (@z8) (aI (@qW) (aI (@wk) (aI (@YV) (aI (@YU) (aI (@Zg) (aI (@XA) (aI (@Xz) (aI (@YR) (aI (@Xy) (aI (@Xs) (aI (@Xx) (aI (@YS) (aI (@Xr) (aI (@Q7) (aI (@XV) (aI (@Ys) (aI (@Yr) (aI (@UN) (aI (@Ul) (@Um)))))))))))))))))))))))))))):=aI (@ZA) (aI (@UC) (aI (@jf) (aI (@je) (aI (@jh) (aI (@jg) (aI (@ji) (aI (@z8) (aI (@qW) (aI (@wk) (aI (@YV) (aI (@YU) (aI (@Zg) (aI (@XA) (aI (@Xz) (aI (@YR) (aI (@Xy) (aI (@Xs) (aI (@Xx) (aI (@YS) (aI (@Xr) (aI (@Q7) (aI (@XV) (aI (@Ys) (aI (@Yr) (aI (@UN) (aI (@Ul) (@Um)))))))))))))))))))))))))))
theorem rzN:type_of% (aI (@jf) (aI (@je) (aI (@jh) (aI (@jg) (aI (@ji) (aI (@qW) (aI (@ZA) (aI (@w9) (aI (@uS) (aI (@KK) (aI (@KJ) (aI (@Vz) (@jdx))))))))))))):=aI (@jf) (aI (@je) (aI (@jh) (aI (@jg) (aI (@ji) (aI (@qW) (aI (@ZA) (aI (@w9) (aI (@uS) (aI (@KK) (aI (@KJ) (aI (@Vz) (@jdx))))))))))))
theorem rzG:type_of% (aI (@ZA) (aI (@UC) (aI (@XA) (aI (@Xz) (aI (@YR) (aI (@Xy) (aI (@Xs) (aI (@Xx) (aI (@YS) (aI (@UN) (aI (@Ul) (aI (@Um) (aI (@VZ) (aI (@VY) (aI (@uZ) (aI (@VW) (aI (@VX) (aI (@VV) (aI (@KV) (aI (@jf) (aI (@je) (aI (@jh) (aI (@jg) (aI (@wk) (aI (@ji) (aI (@z8) (aI (@qW) (aI (@YV) (aI (@YU) (aI (@Zg) (aI (@Q4) (aI (@ZL) (aI (@ZH) (aI (@YI) (aI (@X9) (aI (@YH) (aI (@ZJ) (aI (@ZK) (aI (@Gj) (aI (@Gf) (aI (@kC) (aI (@Vv) (aI (@kB) (aI (@Gg) (aI (@Gi) (aI (@Gh) (aI (@U5) (aI (@U2) (aI (@Vk) (aI (@Wf) (aI (@Vj) (aI (@U3) (aI (@U4) (aI (@U6) (aI (@Vg) (aI (@uB) (aI (@XV) (aI (@Ys) (aI (@Q7) (@Yr)))))))))))))))))))))))))))))))))))))))))))))))))))))))))))):=aI (@ZA) (aI (@UC) (aI (@XA) (aI (@Xz) (aI (@YR) (aI (@Xy) (aI (@Xs) (aI (@Xx) (aI (@YS) (aI (@UN) (aI (@Ul) (aI (@Um) (aI (@VZ) (aI (@VY) (aI (@uZ) (aI (@VW) (aI (@VX) (aI (@VV) (aI (@KV) (aI (@jf) (aI (@je) (aI (@jh) (aI (@jg) (aI (@wk) (aI (@ji) (aI (@z8) (aI (@qW) (aI (@YV) (aI (@YU) (aI (@Zg) (aI (@Q4) (aI (@ZL) (aI (@ZH) (aI (@YI) (aI (@X9) (aI (@YH) (aI (@ZJ) (aI (@ZK) (aI (@Gj) (aI (@Gf) (aI (@kC) (aI (@Vv) (aI (@kB) (aI (@Gg) (aI (@Gi) (aI (@Gh) (aI (@U5) (aI (@U2) (aI (@Vk) (aI (@Wf) (aI (@Vj) (aI (@U3) (aI (@U4) (aI (@U6) (aI (@Vg) (aI (@uB) (aI (@XV) (aI (@Ys) (aI (@Q7) (@Yr)))))))))))))))))))))))))))))))))))))))))))))))))))))))))))
theorem rzP:type_of% (aI (@Qab) (aI (@QaV) (aI (@Nat.mul_one) (aI (@Qba) (aI (@Qbe) (aI (@QbL) (aI (@Int.toNat_zero) (aI (@Int.toNat_one) (aI (@true_and) (aI (@and_true) (aI (@and_self) (aI (@Bool.not_true) (aI (@Bool.not_false) (aI (@QaL) (aI (@QaI) (aI (@decide_eq_true_eq) (aI (@decide_eq_false_iff_not) (aI (@Nat.beq_eq) (@not_false_eq_true))))))))))))))))))):=aI (@Qab) (aI (@QaV) (aI (@Nat.mul_one) (aI (@Qba) (aI (@Qbe) (aI (@QbL) (aI (@Int.toNat_zero) (aI (@Int.toNat_one) (aI (@true_and) (aI (@and_true) (aI (@and_self) (aI (@Bool.not_true) (aI (@Bool.not_false) (aI (@QaL) (aI (@QaI) (aI (@decide_eq_true_eq) (aI (@decide_eq_false_iff_not) (aI (@Nat.beq_eq) (@not_false_eq_true))))))))))))))))))
theorem rzQ:type_of% (aI (@eq_self.{1}) (aI (@τ.{0}) (aI (@υ.{0}) (aI (@χ.{0}) (aI (@ψ.{0}) (aI (@Qay.{0}) (aI (@QaG.{0}) (aI (@Qbj.{0}) (aI (@cond_true.{1}) (aI (@cond_false.{1}) (@ne_eq.{1}))))))))))):=aI (@eq_self.{1}) (aI (@τ.{0}) (aI (@υ.{0}) (aI (@χ.{0}) (aI (@ψ.{0}) (aI (@Qay.{0}) (aI (@QaG.{0}) (aI (@Qbj.{0}) (aI (@cond_true.{1}) (aI (@cond_false.{1}) (@ne_eq.{1}))))))))))
theorem rzZ:type_of% (aI (@rzA) (aI (@rzB) (aI (@rzC) (aI (@rzD) (aI (@rzP) (@rzQ)))))):=aI (@rzA) (aI (@rzB) (aI (@rzC) (aI (@rzD) (aI (@rzP) (@rzQ)))))
instance iA (n:Nat):OfNat A n:=⟨.t n⟩
theorem nA (n:Nat):(@OfNat.ofNat A n (iA n))=A.t (@OfNat.ofNat Nat n _):=rfl
def oe(a:Nat)(b:Bool)(c:Option (Nat×Bool))(d:XK):XS:=⟨some a,b,c,d⟩
def ol(a:Nat)(b:Bool)(c:Option (Nat×Bool))(d:Ins):XS:=oe a b c (.i d)
def oy(a:Nat)(b:Option (Nat×Bool))(c:Ins):XS:=ol a false b c
def oD(a:Nat)(b:Ins):XS:=oy a none b
def oE(a:Int):AV:=.int .i64 a
def oF(a:List XS)(b:XC):XC:=.seq (.ops a) b
def oH(a:Nat)(b:Option (Nat×Bool))(c:Ins):XS:=ol a true b c
def oI(a:Nat)(b:Ins):XS:=oH a none b
def oK(a:Nat)(b:A):XS:=oD a (.mv b)
def oL(a:Nat)(b:A):XS:=oI a (.mv b)
def oQ(a:Nat)(b:Nat×Bool)(c:Ins):XS:=oy a (some b) c
def oR:AV:=oE 0
def oU(a:Nat)(b:Nat)(c:A):XS:=oD a (.fad b c)
def oV(a:Nat)(b:Bool)(c:Option (Nat×Bool))(d:A)(e:List A):XS:=oe a b c (.call d e)
def oW:AV:=.str []
def oZ(a:BinOp)(b:A)(c:AV):Ins:=.bin a b (.c c)
def o5(a:Nat)(b:A):XS:=oD a (.ld1 b)
def o7(a:Bool):A:=.c (.bool a)
def o9(a:Nat)(b:List AV):A:=.c (.fn a b)
def Ia(a:Option Nat)(b:Option (Nat×Bool))(c:XK):XS:=⟨a,false,b,c⟩
def Ie(a:List XS)(b:A)(c:XC)(d:XC):XC:=oF a (.cond b c d)
def If(a:List Nat):A:=.c (.str a)
def Ig(a:Nat)(b:Option (Nat×Bool))(c:A)(d:List A):XS:=oV a false b c d
def Ik(a:Nat)(b:A)(c:A):XK:=.i (.st a b c)
def Ip(a:XS)(b:Nat)(c:List (Nat×Nat)):XD:=⟨a,none,b,c⟩
def Is(a:Nat)(b:Option (Nat×Bool))(c:Nat)(d:List AV)(e:List A):XS:=Ig a b (o9 c d) e
def Ix(a:XS)(b:Option A)(c:Nat)(d:List (Nat×Nat)):XD:=⟨a,some b,c,d⟩
def IH(a:Option (Nat×Bool))(b:XK):XS:=Ia none a b
def II(a:XK):XS:=IH none a
def IU(a:Nat)(b:A)(c:A):XS:=II (Ik a b c)
def IW(a:Nat)(b:Nat)(c:List AV)(d:List A):XS:=Is a none b c d
def IX(a:Nat)(b:Nat)(c:A):XS:=oD a (.ldA b c)
def IY(a:Nat)(b:List AV):XS:=oI a (.alloc b)
def IZ:A:=o7 false
def I0(a:BinOp)(b:A)(c:Int):Ins:=oZ a b (oE c)
def Ob(a:List XS)(b:XC)(c:XC):XC:=oF a (.seq b c)
def Oe(a:List XS):XC:=oF a .ret
def Og(a:Nat):Nat×Bool:=(a,false)
def Ok(a:Nat)(b:Nat)(c:Ins):XS:=oQ a (Og b) c
def Om(a:List XS)(b:A)(c:XC):XC:=Ie a b c .skip
def Oo(a:Nat)(b:AV):XS:=oL a (.c b)
def OE(a:Nat)(b:Nat)(c:List A):XS:=IW a b [] c
def OH(a:Nat)(b:XC):XC:=.block a (.loop b)
def OO(a:XS)(b:Nat):XD:=Ip a b []
def OW(a:Nat)(b:BinOp)(c:A)(d:Int):XS:=oD a (I0 b c d)
def O0(a:Nat)(b:A):XS:=oD a (.nilc b)
def O5:A:=o7 true
def O6(a:XS)(b:A)(c:Nat)(d:List (Nat×Nat)):XD:=Ix a (some b) c d
def O8(a:Nat)(b:BinOp)(c:A)(d:A):XS:=oD a (.strb b c d)
def O9(a:XD):XD×(Option (List XD)):=(a,none)
def Ta(a:XS)(b:Nat):XD×(Option (List XD)):=O9 (OO a b)
def Tb(a:Nat):XS:=oK a 0
def Tj(a:Nat)(b:Nat)(c:A)(d:A):XS:=oD a (.idxS b c d)
def Tl(a:Nat)(b:A)(c:A)(d:A):XS:=oD a (.pick b c d)
def Tm(a:Nat)(b:Nat)(c:Nat)(d:A):XS:=Ok a b (.fad c d)
def Tn(a:Nat)(b:XC)(c:XC):XC:=.seq (.block a b) c
def To(a:Nat)(b:List AV)(c:List ((Nat×Nat)×A)):XS:=oD a (.build b c)
def Tp(a:Nat)(b:Nat)(c:Nat)(d:List AV)(e:List ((Nat×Nat)×A)):XS:=oD a (.buildS b c d e)
def Tq(a:Nat)(b:Nat)(c:A):XS:=Ok a b (.ld1 c)
def Tr(a:XS):XS×(Option (List XD)):=(a,none)
def Ts(a:XS)(b:Nat)(c:List (Nat×Nat)):XD:=Ix a none b c
def Tt(a:A)(b:XC)(c:Nat):XC:=.cond a b (.exit c)
def Tu(a:Nat)(b:A)(c:A)(d:A):XS:=oI a (.pick b c d)
def Tv(a:Nat)(b:A)(c:Int):XS:=OW a .add b c
def Tw(a:List XS)(b:A)(c:List XS):XC:=Om a b (Oe c)
def Tx(a:A):Ins:=.un .not a
def Ty:AV:=.tup []
def Tz(a:Nat):Nat×Bool:=(a,true)
def TA(a:Nat)(b:Nat)(c:Ins):XS:=oQ a (Tz b) c
def TB(a:XS)(b:A)(c:Nat)(d:List (Nat×Nat)):XD×(Option (List XD)):=O9 (O6 a b c d)
def TC(a:XS):XD×(Option (List XD)):=Ta a 0
def TD(a:Nat×Nat)(b:List Nat):(Nat×Nat)×A:=(a,If b)
def TF(a:Nat)(b:Nat)(c:List Nat):(Nat×Nat)×A:=TD (a,b) c
def TG(a:Nat)(b:List Nat):(Nat×Nat)×A:=TF a 1 b
def TH(a:A)(b:A):Ins:=.bin .lss a b
def TI(a:Nat)(b:A)(c:Nat):XS:=oD a (.ext b c)
def TJ(a:Nat)(b:XC)(c:List XS):XC:=Tn a b (.ops c)
def TK(a:Nat)(b:Nat)(c:A):XD×(Option (List XD)):=TC (oU a b c)
def TM(a:Nat)(b:Nat)(c:A):XS:=TA a b (.mv c)
def TN(a:Nat)(b:Nat)(c:A):XS:=OE a b [c]
def TO(a:Nat)(b:Nat)(c:A):XS:=Ok a b (.mv c)
def TQ(a:List XS)(b:A)(c:XC):XC:=Ie a b .skip c
def TR(a:Nat)(b:A):XS:=oI a (.box b)
def TS(a:Nat)(b:A):XS:=oI a (.len b)
def TT(a:List XS)(b:Nat)(c:XC):XC:=oF a (OH b c)
def TU(a:Nat)(b:Nat×Bool)(c:Nat)(d:List AV)(e:List A):XS:=Is a (some b) c d e
def TV(a:Nat):XS:=oL a IZ
def TW(a:Int):A:=.c (oE a)
def TZ:Option (List XD):=some []
def T0(a:List XS)(b:List XS)(c:XC)(d:XC):XC:=oF a (Ob b c d)
def T4(a:List XS)(b:List XS):XC:=oF a (Oe b)
def T5(a:A)(b:Nat):XC:=Tt a .skip b
def T6(a:Nat)(b:Nat):(Nat×Nat)×A:=TG a [b]
def T7:A:=.c Ty
def T8(a:XS)(b:Nat)(c:List (Nat×Nat)):XD×(Option (List XD)):=O9 (Ts a b c)
def T9(a:Nat):XS:=Oo a oR
def La(a:Nat)(b:A):XS:=oU a 1 b
def Lb(a:XS)(b:Nat)(c:A):List XS:=[a,oL b c]
def Lc(a:Nat)(b:A)(c:A)(d:Nat)(e:List (Nat×Nat)):XD×(Option (List XD)):=TB (o5 a b) c d e
def Ld(a:Nat)(b:A)(c:Nat):XD:=OO (oK a b) c
def Lf(a:List XS)(b:A)(c:List XS):XC:=Om a b (.ops c)
def Lg(a:Nat)(b:A)(c:A):XS:=oI a (TH b c)
def Lh(a:Nat)(b:A)(c:A):XS:=O8 a .add b c
def Li(a:A)(b:A):Ins:=.bin .neq a b
def Lj(a:Nat)(b:Int):XS:=Oo a (oE b)
def Lk(a:Nat)(b:BinOp)(c:A)(d:Int):XS:=oI a (I0 b c d)
def Ll(a:Nat)(b:A):XS:=oI a (.ld1 b)
def Lm(a:Nat)(b:A)(c:Int)(d:Nat)(e:A):List XS:=Lb (Tv a b c) d e
def Ln(a:Nat)(b:XC)(c:Nat)(d:A)(e:Int)(f:Nat)(g:A):XC:=TJ a b (Lm c d e f g)
def Lo(a:List XS)(b:A)(c:Nat)(d:XC):XC:=Ob a (T5 b c) d
def Lp(a:List XS)(b:A)(c:Nat)(d:Nat)(e:XC)(f:Nat)(g:A)(h:Int)(i:Nat)(j:A):XC:=Lo a b c (Ln d e f g h i j)
def Lq(a:List (XD×(Option (List XD))))(b:XC):XC:=.seq (.dops a) b
def Ls(a:Nat)(b:Nat)(c:A)(d:A):XS:=OE a b [c,d]
def Lt(a:List XS)(b:Nat)(c:List XS)(d:A)(e:Nat)(f:Nat)(g:XC)(h:Nat)(i:A)(j:Int)(k:Nat)(l:A):XC:=TT a b (Lp c d e f g h i j k l)
def Lu(a:Nat)(b:A):XS:=oD a (.len b)
def Ly(a:BinOp)(b:A)(c:IntKind)(d:Int):Ins:=oZ a b (.int c d)
def Lz(a:Nat)(b:Nat)(c:A):XS:=Ok a b (.len c)
def LA(a:Nat)(b:A):XS:=oU a 0 b
def LB(a:Nat)(b:A)(c:Int):XS:=OW a .eql b c
def LC(a:Nat)(b:A):XS×(Option (List XD)):=Tr (o5 a b)
def LD(a:Nat)(b:A)(c:A)(d:Nat)(e:List (Nat×Nat)):XD×(Option (List XD)):=T8 (IU a b c) d e
def LE(a:Nat)(b:Nat)(c:A)(d:Nat)(e:List (Nat×Nat)):XD:=Ts (TN a b c) d e
def LG:XS:=TV 4
def LH(a:Nat)(b:A):XS:=oI a (Tx b)
def LI(a:XS)(b:Nat)(c:A)(d:A)(e:XC):XC:=TQ (Lb a b c) d e
def LJ(a:Nat)(b:A):XS:=IX a 6 b
def LK(a:Nat)(b:Nat)(c:A)(d:List Nat):XS:=Ls a b c (If d)
def LM(a:List XS)(b:XC)(c:XC)(d:XC):XC:=Ob a b (.seq c d)
def LP(a:Nat)(b:Nat)(c:Nat)(d:A):XS:=TA a b (.fad c d)
def LQ(a:Nat)(b:Nat)(c:A):XS:=TA a b (.ld1 c)
def LR(a:Nat)(b:A)(c:A):XS:=O8 a .eql b c
def LV(a:AV)(b:AV)(c:AV)(d:AV)(e:AV):List AV:=[a,b,c,.nils,d,e]
def LX(a:Nat)(b:AV)(c:AV)(d:AV)(e:AV)(f:AV):XS:=IY a (LV b c d e f)
def L5(a:Nat)(b:Nat):XD:=Ld a T7 b
def L7(a:List XS)(b:A)(c:Nat):XC:=TQ a b (.exit c)
def L8(a:A):XS:=oL 2 a
def L9(a:A)(b:A):XS:=IU 1 a b
def Pa:XS:=TV 2
def Pb(a:A)(b:List XS)(c:XC):XC:=.cond a (Oe b) c
def Pc(a:Nat)(b:A):XS:=oD a (.lenS b)
def Pd(a:A)(b:Option A)(c:A):Ins:=.slStr a b (some c)
def Pe(a:Nat):XS:=oK a 4
def Pf(a:Nat)(b:BinOp)(c:A)(d:A):XS:=oD a (.bin b c d)
def Pg(a:Nat)(b:A)(c:Nat)(d:A):List XS:=Lb (oK a b) c d
def Ph(a:Nat)(b:Nat×Bool)(c:Nat)(d:List A):XS:=TU a b c [] d
def Pi(a:List XS)(b:A)(c:Nat)(d:XC):XC:=.seq (L7 a b c) d
def Pj(a:Nat)(b:Nat)(c:Nat)(d:A)(e:A):XS:=oD a (.app b c d e)
def Pk(a:Nat)(b:A)(c:List Nat):XS:=LR a b (If c)
def Pl(a:Nat)(b:A)(c:A):XS:=Tl a b O5 c
def Pm(a:Nat)(b:Nat)(c:BinOp)(d:A)(e:Int):XS:=Ok a b (I0 c d e)
def Pn(a:Nat)(b:Nat)(c:Nat)(d:List A):XS:=Ph a (Tz b) c d
def Po(a:List XS)(b:List XS)(c:XC):XC:=oF a (oF b c)
def Pp(a:BinOp)(b:A)(c:Int):Ins:=Ly a b .u8 c
def Pq(a:A)(b:A):Ins:=.strb .eql a b
def Pr(a:Nat)(b:XS)(c:XS)(d:XS):List XS:=[Tb a,b,c,d]
def Pv(a:Nat)(b:Nat)(c:Nat)(d:A)(e:XS)(f:XS):List XS:=Pr a (TN b c d) e f
def Pw(a:Nat)(b:Nat)(c:Nat)(d:A)(e:XS)(f:Nat)(g:A)(h:A):List XS:=Pv a b c d e (IU f g h)
def Px(a:Nat)(b:Nat)(c:Nat)(d:A)(e:Nat)(f:List AV)(g:Nat)(h:A)(i:A):List XS:=Pw a b c d (IY e f) g h i
def Py(a:List XS)(b:XC)(c:List XS):XC:=Ob a b (Oe c)
def Pz(a:Nat)(b:A):XS×(Option (List XD)):=Tr (oK a b)
theorem qq:type_of% (aI @nA (aI @oe.eq_1 (aI @ol.eq_1 (aI @oy.eq_1 (aI @oD.eq_1 (aI @oE.eq_1 (aI @oF.eq_1 (aI @oH.eq_1 (aI @oI.eq_1 (aI @oK.eq_1 (aI @oL.eq_1 (aI @oQ.eq_1 (aI @oR.eq_1 (aI @oU.eq_1 (aI @oV.eq_1 (aI @oW.eq_1 (aI @oZ.eq_1 (aI @o5.eq_1 (aI @o7.eq_1 (aI @o9.eq_1 (aI @Ia.eq_1 (aI @Ie.eq_1 (aI @If.eq_1 (aI @Ig.eq_1 (aI @Ik.eq_1 (aI @Ip.eq_1 (aI @Is.eq_1 (aI @Ix.eq_1 (aI @IH.eq_1 (aI @II.eq_1 (aI @IU.eq_1 (aI @IW.eq_1 (aI @IX.eq_1 (aI @IY.eq_1 (aI @IZ.eq_1 (aI @I0.eq_1 (aI @Ob.eq_1 (aI @Oe.eq_1 (aI @Og.eq_1 (aI @Ok.eq_1 (aI @Om.eq_1 (aI @Oo.eq_1 (aI @OE.eq_1 (aI @OH.eq_1 (aI @OO.eq_1 (aI @OW.eq_1 (aI @O0.eq_1 (aI @O5.eq_1 (aI @O6.eq_1 (aI @O8.eq_1 (aI @O9.eq_1 (aI @Ta.eq_1 (aI @Tb.eq_1 (aI @Tj.eq_1 (aI @Tl.eq_1 (aI @Tm.eq_1 (aI @Tn.eq_1 (aI @To.eq_1 (aI @Tp.eq_1 (aI @Tq.eq_1 (aI @Tr.eq_1 (aI @Ts.eq_1 (aI @Tt.eq_1 (aI @Tu.eq_1 (aI @Tv.eq_1 (aI @Tw.eq_1 (aI @Tx.eq_1 (aI @Ty.eq_1 (aI @Tz.eq_1 (aI @TA.eq_1 (aI @TB.eq_1 (aI @TC.eq_1 (aI @TD.eq_1 (aI @TF.eq_1 (aI @TG.eq_1 (aI @TH.eq_1 (aI @TI.eq_1 (aI @TJ.eq_1 (aI @TK.eq_1 (aI @TM.eq_1 (aI @TN.eq_1 (aI @TO.eq_1 (aI @TQ.eq_1 (aI @TR.eq_1 (aI @TS.eq_1 (aI @TT.eq_1 (aI @TU.eq_1 (aI @TV.eq_1 (aI @TW.eq_1 (aI @TZ.eq_1 (aI @T0.eq_1 (aI @T4.eq_1 (aI @T5.eq_1 (aI @T6.eq_1 (aI @T7.eq_1 (aI @T8.eq_1 (aI @T9.eq_1 (aI @La.eq_1 (aI @Lb.eq_1 (aI @Lc.eq_1 (aI @Ld.eq_1 (aI @Lf.eq_1 (aI @Lg.eq_1 (aI @Lh.eq_1 (aI @Li.eq_1 (aI @Lj.eq_1 (aI @Lk.eq_1 (aI @Ll.eq_1 (aI @Lm.eq_1 (aI @Ln.eq_1 (aI @Lo.eq_1 (aI @Lp.eq_1 (aI @Lq.eq_1 (aI @Ls.eq_1 (aI @Lt.eq_1 (aI @Lu.eq_1 (aI @Ly.eq_1 (aI @Lz.eq_1 (aI @LA.eq_1 (aI @LB.eq_1 (aI @LC.eq_1 (aI @LD.eq_1 (aI @LE.eq_1 (aI @LG.eq_1 (aI @LH.eq_1 (aI @LI.eq_1 (aI @LJ.eq_1 (aI @LK.eq_1 (aI @LM.eq_1 (aI @LP.eq_1 (aI @LQ.eq_1 (aI @LR.eq_1 (aI @LV.eq_1 (aI @LX.eq_1 (aI @L5.eq_1 (aI @L7.eq_1 (aI @L8.eq_1 (aI @L9.eq_1 (aI @Pa.eq_1 (aI @Pb.eq_1 (aI @Pc.eq_1 (aI @Pd.eq_1 (aI @Pe.eq_1 (aI @Pf.eq_1 (aI @Pg.eq_1 (aI @Ph.eq_1 (aI @Pi.eq_1 (aI @Pj.eq_1 (aI @Pk.eq_1 (aI @Pl.eq_1 (aI @Pm.eq_1 (aI @Pn.eq_1 (aI @Po.eq_1 (aI @Pp.eq_1 (aI @Pq.eq_1 (aI @Pr.eq_1 (aI @Pv.eq_1 (aI @Pw.eq_1 (aI @Px.eq_1 (aI @Py.eq_1 @Pz.eq_1)))))))))))))))))))))))))))))))))))))))))))))))))))))))))))))))))))))))))))))))))))))))))))))))))))))))))))))))))))))))))))))))))))))))))))))))))))))))))))))))):=aI @nA (aI @oe.eq_1 (aI @ol.eq_1 (aI @oy.eq_1 (aI @oD.eq_1 (aI @oE.eq_1 (aI @oF.eq_1 (aI @oH.eq_1 (aI @oI.eq_1 (aI @oK.eq_1 (aI @oL.eq_1 (aI @oQ.eq_1 (aI @oR.eq_1 (aI @oU.eq_1 (aI @oV.eq_1 (aI @oW.eq_1 (aI @oZ.eq_1 (aI @o5.eq_1 (aI @o7.eq_1 (aI @o9.eq_1 (aI @Ia.eq_1 (aI @Ie.eq_1 (aI @If.eq_1 (aI @Ig.eq_1 (aI @Ik.eq_1 (aI @Ip.eq_1 (aI @Is.eq_1 (aI @Ix.eq_1 (aI @IH.eq_1 (aI @II.eq_1 (aI @IU.eq_1 (aI @IW.eq_1 (aI @IX.eq_1 (aI @IY.eq_1 (aI @IZ.eq_1 (aI @I0.eq_1 (aI @Ob.eq_1 (aI @Oe.eq_1 (aI @Og.eq_1 (aI @Ok.eq_1 (aI @Om.eq_1 (aI @Oo.eq_1 (aI @OE.eq_1 (aI @OH.eq_1 (aI @OO.eq_1 (aI @OW.eq_1 (aI @O0.eq_1 (aI @O5.eq_1 (aI @O6.eq_1 (aI @O8.eq_1 (aI @O9.eq_1 (aI @Ta.eq_1 (aI @Tb.eq_1 (aI @Tj.eq_1 (aI @Tl.eq_1 (aI @Tm.eq_1 (aI @Tn.eq_1 (aI @To.eq_1 (aI @Tp.eq_1 (aI @Tq.eq_1 (aI @Tr.eq_1 (aI @Ts.eq_1 (aI @Tt.eq_1 (aI @Tu.eq_1 (aI @Tv.eq_1 (aI @Tw.eq_1 (aI @Tx.eq_1 (aI @Ty.eq_1 (aI @Tz.eq_1 (aI @TA.eq_1 (aI @TB.eq_1 (aI @TC.eq_1 (aI @TD.eq_1 (aI @TF.eq_1 (aI @TG.eq_1 (aI @TH.eq_1 (aI @TI.eq_1 (aI @TJ.eq_1 (aI @TK.eq_1 (aI @TM.eq_1 (aI @TN.eq_1 (aI @TO.eq_1 (aI @TQ.eq_1 (aI @TR.eq_1 (aI @TS.eq_1 (aI @TT.eq_1 (aI @TU.eq_1 (aI @TV.eq_1 (aI @TW.eq_1 (aI @TZ.eq_1 (aI @T0.eq_1 (aI @T4.eq_1 (aI @T5.eq_1 (aI @T6.eq_1 (aI @T7.eq_1 (aI @T8.eq_1 (aI @T9.eq_1 (aI @La.eq_1 (aI @Lb.eq_1 (aI @Lc.eq_1 (aI @Ld.eq_1 (aI @Lf.eq_1 (aI @Lg.eq_1 (aI @Lh.eq_1 (aI @Li.eq_1 (aI @Lj.eq_1 (aI @Lk.eq_1 (aI @Ll.eq_1 (aI @Lm.eq_1 (aI @Ln.eq_1 (aI @Lo.eq_1 (aI @Lp.eq_1 (aI @Lq.eq_1 (aI @Ls.eq_1 (aI @Lt.eq_1 (aI @Lu.eq_1 (aI @Ly.eq_1 (aI @Lz.eq_1 (aI @LA.eq_1 (aI @LB.eq_1 (aI @LC.eq_1 (aI @LD.eq_1 (aI @LE.eq_1 (aI @LG.eq_1 (aI @LH.eq_1 (aI @LI.eq_1 (aI @LJ.eq_1 (aI @LK.eq_1 (aI @LM.eq_1 (aI @LP.eq_1 (aI @LQ.eq_1 (aI @LR.eq_1 (aI @LV.eq_1 (aI @LX.eq_1 (aI @L5.eq_1 (aI @L7.eq_1 (aI @L8.eq_1 (aI @L9.eq_1 (aI @Pa.eq_1 (aI @Pb.eq_1 (aI @Pc.eq_1 (aI @Pd.eq_1 (aI @Pe.eq_1 (aI @Pf.eq_1 (aI @Pg.eq_1 (aI @Ph.eq_1 (aI @Pi.eq_1 (aI @Pj.eq_1 (aI @Pk.eq_1 (aI @Pl.eq_1 (aI @Pm.eq_1 (aI @Pn.eq_1 (aI @Po.eq_1 (aI @Pp.eq_1 (aI @Pq.eq_1 (aI @Pr.eq_1 (aI @Pv.eq_1 (aI @Pw.eq_1 (aI @Px.eq_1 (aI @Py.eq_1 @Pz.eq_1)))))))))))))))))))))))))))))))))))))))))))))))))))))))))))))))))))))))))))))))))))))))))))))))))))))))))))))))))))))))))))))))))))))))))))))))))))))))))))))))
theorem dzA {p:Prop}(h:p:=by first|assumption|decide|omega|(simp only[rzN,χ,ψ];first|done|omega)|(apply Jh<;>first|omega|((simp(disch:=first|assumption|omega|(simp only[rzN,χ,ψ];first|done|omega)) only[rzL,χ,ψ,Qab,γ ])<;>first|done|omega))|(simp(disch:=first|assumption|omega|(simp only[rzN,χ,ψ];first|done|omega)) only[rzG,τ,υ,δ,QaH,χ,ψ,Qay,QaG];first|done|omega|decide)):p:=h
theorem Zo {p:Prop}(h:p:=by first|assumption|decide|omega|(simp only[zz,rzN,χ,ψ];first|done|omega)|(apply Jh<;>first|omega|((simp(disch:=first|assumption|omega|(simp only[zz,rzN,χ,ψ];first|done|omega)) only[rzL,χ,ψ,Qab,γ,zz ])<;>first|done|omega))|(simp(disch:=first|assumption|omega|(simp only[zz,rzN,χ,ψ];first|done|omega)) only[zz,rzG,τ,υ,δ,QaH,χ,ψ,Qay,QaG];first|done|omega|decide)):p:=h
end Go.Sy
end
noncomputable section
namespace Go.Sy
open Go.Ev Go.Proofs
def ja4 (f:FuncId):Nat:=if f∈[9,10,11,12,13,14,15,16,17,18,19,20,22,23,24,25,26,27,28,29,30,31,32,34,35,38,46,47,50,51,52,53,54,55,56,57,58,65,66,67,68,69,70,71,72,77,81,82,83,84,85,92,94,95,96,98,99,102,103,107,108,109,110,111,112,114,115,116,117,140,119,120,121,122,124,125,130,132,134,135,137,138,139,144,149,154,157,160,161,162,166,177,179,181,182,101,106,142] then 1
 else if f∈[37,48,49,76,78,79,80,93,126,127,128,129,133,158,159,39,40,41,42,43,44,45,86,87,88,89,90,91,131,155,156,178,74,75,118] then 3 else if f∈[33,104,136,141,100,143,105,165] then 5 else if f∈[97,60] then 2 else 0
def Wz (f:FuncId):Bool:=!(Qcb f 8) && !(Qcb f 21) && !(Qcb f 123)
structure NB (base:Bs):Prop where
 nob:∀ f,Wz f=true->∀ args st,base.run f args st=.no
 purE:base.pur=ja4
theorem NB.pur {base:Bs}(h:NB base)(f m:Nat)(e:ja4 f=m):base.pur f=m:=by rw[h.purE];exact e
theorem NB.no {base:Bs}(h:NB base)(f:FuncId)(e:Wz f=true)(args:List AV)(st:St):base.run f args st=.no:=h.nob f e args st
theorem NB.at0 {base:Bs}(h:NB base)(f:FuncId)(e:Wz f=true)(e2:ja4 f=0)(args:List AV)(st:St):base.at0 f args st:=⟨h.nob f e args st,h.pur f 0 e2⟩
abbrev Ret (base:Bs)(f:FuncId)(xs:List AV)(o:Oc):Prop:=∀ st K Kp,XB θ base f xs st K Kp=XJ o K Kp st
abbrev Tot (base:Bs)(f:FuncId)(xs:List AV)(v:AV):Prop:=∀ st K Kp,XB θ base f xs st K Kp=K v st
theorem NB.tot {base:Bs}(hb:NB base){f:FuncId}{xs:List AV}{v:AV}(h:PX θ base f xs (.ok v))(hp:xs.all pa=true)(e:Wz f=true):Tot base f xs v:=λst K Kp=>h.xb hp (hb.no f e _) st K Kp
theorem NB.ret {base:Bs}(hb:NB base){f:FuncId}{xs:List AV}{o:Oc}(h:PX θ base f xs o)(hp:xs.all pa=true)(e:Wz f=true):Ret base f xs o:=λst K Kp=>h.xb hp (hb.no f e _) st K Kp
inductive Ex where
 |mk (op num:Int) (name:List Nat) (kids:List Ex) (line col:Int)
def Ex.op:Ex->Int | .mk o _ _ _ _ _=>o
def Ex.num:Ex->Int | .mk _ n _ _ _ _=>n
def Ex.name:Ex->List Nat | .mk _ _ n _ _ _=>n
def Ex.kids:Ex->List Ex | .mk _ _ _ k _ _=>k
def Ex.line:Ex->Int | .mk _ _ _ _ l _=>l
def Ex.col:Ex->Int | .mk _ _ _ _ _ c=>c
theorem Ex.ind {p:Ex->Prop}(h:∀ op num name kids l c,(∀ k∈kids,p k)->p (.mk op num name kids l c)):∀ x,p x
 |.mk op num name kids l c=>h op num name kids l c (inds h kids)
where inds {p:Ex->Prop} (h:∀ op num name kids l c,(∀ k∈kids,p k)->p (.mk op num name kids l c)):∀ (xs:List Ex),∀ k∈xs,p k
 |[],k,hk=>by cases hk
 |x :: xs,k,hk=>by
  rcases QaF.1 hk with e|e
  ·exact e▸Ex.ind h x
  ·exact inds h xs k e
theorem Ex.indk {p:Ex->Prop}(h:∀ x:Ex,(∀ k∈x.kids,p k)->p x):∀ x,p x:=Ex.ind λop num name ks l c ih=>h (.mk op num name ks l c) ih
mutual
def eE:Ex->List AV
 |.mk op num name kids l c=>[.int .i64 op,.int .i64 num,.str name,.lst kids.length (eEs kids),.int .i64 l,.int .i64 c]
def eEs:List Ex->List AV
 |[]=>[]
 |x :: xs=>eE x ++ eEs xs
end
theorem jdL:∀ xs,eEs xs=fl eE xs
 |[]=>rfl
 |x :: xs=>by rw[XN,<-jdL xs];rfl
theorem qO (x:Ex):eE x=[.int .i64 x.op,.int .i64 x.num,.str x.name,.lst x.kids.length (fl eE x.kids),.int .i64 x.line,.int .i64 x.col]:=by
 cases x;simp only[eE,jdL];rfl
theorem Jr (x:Ex):(eE x).length=6:=by rw[qO];rfl
theorem GG (x:Ex)(k:Nat):(eE x).getD k .bad=([.int .i64 x.op,.int .i64 x.num,.str x.name,.lst x.kids.length (fl eE x.kids),.int .i64 x.line,.int .i64 x.col]:List AV).getD k .bad:=by rw[qO]
theorem jjH (x:Ex)(k:Nat):(eE x).drop k=([.int .i64 x.op,.int .i64 x.num,.str x.name,.lst x.kids.length (fl eE x.kids),.int .i64 x.line,.int .i64 x.col]:List AV).drop k:=by rw[qO]
theorem Jc (x:Ex):(eE x).all pc=true:=by rw[qO];rfl
theorem UM (x:Ex):lall AV.cell (eE x)=true:=by rw[qO];rfl
theorem jjG {st:St}{K:AV->St->Prop}{xs:List Ex}{i:Nat}(h:i<xs.length):jl (Jb 6 (.lptr (fl eE xs) (i * 6)) st) K=K (.agg (eE xs[i])) st:=Yq Jr h
theorem jgQ {st:St}{K:AV->St->Prop}{xs:List Ex}{i:Nat}(h:i<xs.length){k:Nat}(hk:k<6):jl (zm (.lptr (fl eE xs) (i * 6+k)) st) K=K ((eE xs[i]).getD k .bad) st:=zB Jr h hk
theorem jgR {st:St}{K:AV->St->Prop}{xs:List Ex}{i:Nat}(h:i<xs.length):jl (zm (.lptr (fl eE xs) (i * 6)) st) K=K ((eE xs[i]).getD 0 .bad) st:=zB (k:=0) Jr h dc
theorem jj:type_of% (aI @Jr (aI @GG (aI @jjH (aI @UM (aI @jjG (aI @jgR @jgQ)))))):=aI @Jr (aI @GG (aI @jjH (aI @UM (aI @jjG (aI @jgR @jgQ)))))
theorem yc:type_of% (aI @Jr (aI @UM @GG)):=aI @Jr (aI @UM @GG)
theorem dzB {p:Prop}(h:p:=by first|assumption|decide|omega|(simp only[yc,rzN,χ,ψ];first|done|omega)|(apply Jh<;>first|omega|((simp(disch:=first|assumption|omega|(simp only[yc,rzN,χ,ψ];first|done|omega)) only[rzL,χ,ψ,Qab,γ,yc ])<;>first|done|omega))|(simp(disch:=first|assumption|omega|(simp only[yc,rzN,χ,ψ];first|done|omega)) only[yc,rzG,τ,υ,δ,QaH,χ,ψ,Qay,QaG];first|done|omega|decide)):p:=h
theorem cyB {p:Prop}(h:p:=by apply Jh<;>first|omega|((simp(disch:=first|assumption|omega|(simp only[yc,rzN,χ,ψ];first|done|omega)) only[rzL,χ,ψ,Qab,γ,yc])<;>first|done|rfl|omega|(simp;done)|(simp;omega))):p:=h
theorem jfu {p:Prop}(h:p:=by first|assumption|decide|omega|(simp only[yc,zz,rzN,χ,ψ];first|done|omega)|(apply Jh<;>first|omega|((simp(disch:=first|assumption|omega|(simp only[yc,zz,rzN,χ,ψ];first|done|omega)) only[rzL,χ,ψ,Qab,γ,yc,zz ])<;>first|done|omega))|(simp(disch:=first|assumption|omega|(simp only[yc,zz,rzN,χ,ψ];first|done|omega)) only[yc,zz,rzG,τ,υ,δ,QaH,χ,ψ,Qay,QaG];first|done|omega|decide)):p:=h
set_option maxRecDepth 100000
def z14:XC:=(T0 [TR 1 0,T9 2] [T9 3] (Lt [oU 6 3 1,Ll 7 6,TS 8 7,T9 9] 0 [Lg 10 9 8] 10 0 1 (oF [Tj 11 6 7 9,LJ 12 11,LX 5 oR oR oW oR oR,IU 6 5 12] (.ops [oK 13 3,LJ 14 5,TN 15 14 14,oD 16 (.bi .max #[3,3] [13,15]),oL 3 16])) 17 9 1 9 17) (Oe [oK 18 3,Tv 19 18 1,L8 19]))
def y14:XF:=⟨[0],z14,[(.t 2)]⟩
theorem x14:jF θ 14=some y14:=by kernel_rfl
def z47:XC:=(LM [TR 2 0,LG] (Tw [LA 7 2,o5 8 7,oK 9 1,oI 10 (.bin .eql 8 9)] 10 [oL 4 O5]) (Lt [oU 11 3 2,Ll 12 11,TS 13 12,T9 14] 0 [Lg 15 14 13] 15 0 1 (oF [Tj 16 6 12 14,LJ 17 16,LX 6 oR oR oW oR oR,IU 6 6 17] (Tw [LJ 18 6,oK 19 1,oV 20 true none (o9 47 []) [18,19]] 20 [oL 4 O5])) 21 14 1 14 21) (Oe [LG]))
def y47:XF:=⟨[0,1],z47,[(.t 4)]⟩
def jej:XC:=(LM [T9 2] (Tw [Tb 3,OW 4 .geq 3 1,Pe 5,TM 6 5 0,TA 7 5 (I0 .leq 6 4),Tu 8 5 7 IZ] 8 [T9 2]) (Tw [Tb 9,OW 10 .geq 9 5,oK 11 10,TM 12 11 0,TA 13 11 (I0 .leq 12 13),Tu 14 11 13 IZ] 14 [Lj 2 1]) (.seq (Tw [Tb 15,OW 16 .geq 15 14,oK 17 16,TM 18 17 0,TA 19 17 (I0 .leq 18 30),Tu 20 17 19 IZ] 20 [Lj 2 2]) (Oe [Lj 2 (-(0+1))])))
def jih:XF:=⟨[0],jej,[(.t 2)]⟩
theorem jk5:jF θ 132=some jih:=by kernel_rfl
def z52:XC:=(Py [Oo 2 oW] (Tw [Tb 3,OW 4 .lss 3 5,Pe 5,TO 6 5 0,Pm 7 5 .gtr 6 30,Tu 8 5 O5 7] 8 [Oo 2 oW]) [Tp 9 26 1 [oW] [T6 0 45,T6 1 33,T6 2 88,T6 3 70,T6 4 71,T6 5 89,T6 6 90,T6 7 79,T6 8 72,T6 9 42,T6 10 43,T6 11 45,T6 12 61,TG 13 [33,61],T6 14 60,TG 15 [60,61],T6 16 62,TG 17 [62,61],T6 18 85,T6 19 82,T6 20 83,T6 21 84,T6 22 38,T6 23 124,TG 24 [45,62],TG 25 [60,45,62]],Tb 10,OW 11 .sub 10 5,Tj 12 1 9 11,o5 13 12,L8 13])
def y52:XF:=⟨[0],z52,[(.t 2)]⟩
theorem x52:jF θ 52=some y52:=by kernel_rfl
def z92:XC:=(LM [TR 1 0,Pa] (Lq [TK 5 0 1,Lc 6 5 5 3 [],(LE 7 132 6 0 [],some [L5 7 0,OO (oU 8 3 1) 0,O6 (o5 9 8) 8 35 [(1,0)],OO (Lu 10 9) 0,OO (Oo 11 Ty) 0]),TK 8 3 1,Lc 9 8 8 35 [(1,0)],TC (Lu 10 9),TC (oI 11 (Li 7 10))] (Pb 11 [Pa] .skip)) (Lt [oU 12 3 1,Ll 13 12,TS 14 13,T9 15] 0 [Lg 16 15 14] 16 0 1 (oF [Tj 17 6 13 15,LJ 18 17,LX 4 oR oR oW oR oR,IU 6 4 18] (Tw [LJ 19 4,TN 20 92 19,LH 21 20] 21 [Pa])) 22 15 1 15 22) (.seq (Tw [LA 23 1,o5 24 23,OW 25 .neq 24 3,oK 26 25,LP 27 26 2 1,LQ 28 26 27,TA 29 26 (.strb .neq 28 (.c oW)),Tu 30 26 29 IZ] 30 [Pa]) (.seq (oF [LA 31 1,Ll 32 31] (.block 2 (Ie (Lb (LB 34 32 1) 33 34) 33 (Oe [La 35 1,o5 36 35,oD 37 (oZ .geq 36 oR),oK 38 37,LP 39 38 1 1,LQ 40 38 39,TA 41 38 (I0 .leq 40 1000000),Tl 42 38 41 IZ,L8 42]) (Ie (Lb (LB 44 32 2) 43 44) 43 (Oe [La 45 1,o5 46 45,oD 47 (oZ .eql 46 oR),oK 48 47,Tm 49 48 1 1,Tq 50 48 49,Pm 51 48 .eql 50 1,Pl 52 48 51,L8 52]) (Ie (Lb (LB 54 32 3) 53 54) 53 (Oe [La 55 1,o5 56 55,oD 57 (oZ .eql 56 oR),oK 58 57,LP 59 58 2 1,LQ 60 58 59,Pn 61 58 56 [60],Tl 62 58 61 IZ,L8 62]) (Tw (Lb (LB 64 32 4) 63 64) 63 [L8 O5])))))) (Oe [La 65 1,o5 66 65,oD 67 (oZ .eql 66 oR),L8 67]))))
def y92:XF:=⟨[0],z92,[(.t 2)]⟩
theorem x92:jF θ 92=some y92:=by kernel_rfl
def z46:XC:=(T4 [TR 1 0,Pa] [LJ 3 1,TN 4 14 3,OW 5 .leq 4 60,oK 6 5,TA 7 6 (.ldA 6 1),Pn 8 6 92 [7],Tl 9 6 8 IZ,L8 9])
def y46:XF:=⟨[0],z46,[(.t 2)]⟩
theorem x46:jF θ 46=some y46:=by kernel_rfl
def z17:XC:=(LM [TR 2 0,TR 3 1,LG] (Tw [LA 6 2,o5 7 6,LA 8 3,o5 9 8,oD 10 (Li 7 9),oK 11 10,Tm 12 11 1 2,Tq 13 11 12,Tm 14 11 1 3,Tq 15 11 14,Ok 16 11 (Li 13 15),Pl 17 11 16,oK 18 17,Tm 19 18 2 2,Tq 20 18 19,Tm 21 18 2 3,Tq 22 18 21,Ok 23 18 (.strb .neq 20 22),Pl 24 18 23,oK 25 24,Tm 26 25 3 2,Tq 27 25 26,Lz 28 25 27,Tm 29 25 3 3,Tq 30 25 29,Lz 31 25 30,Ok 32 25 (Li 28 31),Tu 33 25 O5 32] 33 [LG]) (Lt [oU 34 3 2,o5 35 34,TS 36 35,T9 37] 0 [Lg 38 37 36] 38 0 1 (Ob (Pg 39 37 5 39) (.cops [Tr (oU 40 3 2),LC 41 40,Pz 42 5,Tr (Tj 43 6 41 42),Tr (LJ 44 43),Tr (oU 45 3 3),LC 46 45,Pz 47 5,Tr (Tj 48 6 46 47),Tr (LJ 49 48),(Ls 50 17 44 49,TZ),Tr (LH 51 50)]) (Pb 51 [LG] .skip)) 52 37 1 37 52) (Oe [oL 4 O5]))
def y17:XF:=⟨[0,1],z17,[(.t 4)]⟩
theorem x17:jF θ 17=some y17:=by kernel_rfl
variable {base:Bs}
def w4 (op:Int):Int:=if 1<=op/\op<=4 then 0 else if 5<=op/\op<=13 then 1 else if 14<=op/\op<=30 then 2 else -1
theorem jj2 (hb:NB base)(op:Int):Tot base 132 [.int .i64 op] (.int .i64 (w4 op)):=by
 refine hb.tot ?_ rfl rfl;refine jT jk5 (by rfl) (hb.pur 132 1 dc) ?_;simp only[jih,jn,ν,ξ,τ,υ];rw[(by unfold jej;simp only[qq];rfl:jej=_)];repeat'(first|apply jd<;>intro _|simp(disch:=first|exact dzB|fail) only[jj,rzZ,γ,δ,ε,ζ,η])
 all_goals(refine G0.v ?_ rfl;unfold w4;repeat' split)<;>first|rfl|(exfalso;omega)|(simp_all;done)|(simp;omega)|(simp_all;omega)
mutual
def szE:Ex->Nat
 |.mk _ _ nm ks _ _=>JR ks+nm.length+1
def JR:List Ex->Nat
 |[]=>0
 |x :: xs=>szE x+JR xs
end
mutual
def YG:Ex->Nat
 |.mk _ _ _ ks _ _=>ym ks+1
def ym:List Ex->Nat
 |[]=>0
 |x :: xs=>max (YG x) (ym xs)
end
mutual
def W4:Ex->Nat
 |.mk _ _ _ ks _ _=>Z7 ks+1
def Z7:List Ex->Nat
 |[]=>0
 |x :: xs=>W4 x+Z7 xs
end
theorem Y8 (x:Ex):szE x=JR x.kids+x.name.length+1:=by cases x;rfl
theorem WJ (x:Ex):YG x=ym x.kids+1:=by cases x;rfl
theorem Xt:∀ {xs:List Ex} {k:Nat} (h:k<xs.length),szE xs[k]<=JR xs
 |x :: xs,0,h=>by simp[JR]
 |x :: xs,k+1,h=>by
  have:=Xt (xs:=xs) (k:=k) (by simpa using h);simp[JR];omega
theorem QM:∀ xs:List Ex,xs.length<=JR xs
 |[]=>by simp
 |x :: xs=>by
  have:=QM xs;have:=Y8 x;simp[JR];omega
theorem VN:∀ xs ys,ym (xs ++ ys)=max (ym xs) (ym ys)
 |[],ys=>by simp[ym]
 |x :: xs,ys=>by rw[Qay,ym,ym,VN,Nat.max_assoc]
theorem WZ {α:Type}{xs:List α}{k:Nat}(h:k<xs.length):xs.take (k+1)=xs.take k ++ [xs[k]]:=by rw[List.take_add_one,Qaj h];rfl
mutual
theorem jfw:∀ x,YG x<=W4 x
 |.mk _ _ _ ks _ _=>by have:=ue ks;simp only[YG,W4];omega
theorem ue:∀ xs,ym xs<=Z7 xs
 |[]=>φ _
 |x :: xs=>by have:=jfw x;have:=ue xs;simp only[ym,Z7];omega
end
mutual
theorem jeQ:∀ x,W4 x<=szE x
 |.mk _ _ _ ks _ _=>by have:=vC ks;simp only[szE,W4];omega
theorem vC:∀ xs,Z7 xs<=JR xs
 |[]=>φ _
 |x :: xs=>by have:=jeQ x;have:=vC xs;simp only[JR,Z7];omega
end
def BIG:Nat:=1099511627776
theorem h12:type_of%(aI @κ (aI @μ (aI @z0 (aI @z1 (aI @jc (aI @jb (aI @and_true @true_and))))))):=aI @κ (aI @μ (aI @z0 (aI @z1 (aI @jc (aI @jb (aI @and_true @true_and))))))
theorem jj7 (hb:NB base):∀ x:Ex,szE x<=BIG->Tot base 14 [.agg (eE x)] (.int .i64 (YG x)):=by
 refine Ex.indk λx ih hx=>?_;refine hb.tot ?_ (by first|rfl|simp[pa,pc,Jc]) rfl;have hd:=WJ x;have hz:=Y8 x;generalize hks:x.kids=ks at *;have hlen:=QM ks;unfold BIG at *;have hle:=ue ks;have hle2:=vC ks;refine jT x14 (by rfl) (hb.pur 14 1 dc) ?_;simp only[y14,jn,ν,ξ,τ,υ];rw[(by unfold z14;simp only[qq];rfl:z14=_)];repeat'(first|apply jd<;>intro _|simp(disch:=first|exact dzB|fail) only[hks,jj,rzZ,γ,δ,ε,ζ,η])
 refine qZ ks.length (λk L s=>Has L 3 (.int .i64 (ym (ks.take k):Nat))/\Has L 7 (.lst ks.length (fl eE ks))) (by first|assumption|omega) dc (by simp(disch:=decide) only[jc,jb]) (by simp(disch:=decide) only[jc,jb]) ?_ (λk L s v h=>by simp(disch:=decide) only[jb];exact h) (λk L s v h=>by simp(disch:=decide) only[jb];exact h) (λk L s hk hI hi hn=>?_) (λL s hI=>?_)
 ·simp(disch:=decide) only[h12,Qbf,ym]
 ·obtain⟨i3,i7⟩:=hI;have hk2:=Xt hk;have e:=ih ks[k] (Qam hk) om;repeat'(first|apply jd<;>intro _|simp(disch:=first|exact dzB|fail) only[ja i3,ja i7,ja hi,ja hn,e,jj,rzZ,γ,δ,ε,ζ,η])
  have e2:((ym (ks.take (k+1)):Nat):Int)=max (ym (ks.take k):Int) (YG ks[k]):=by rw[WZ hk,VN];simp only[ym];omega
  simp(disch:=decide) only[h12,e2,i7,hi,hn]
 ·rw[Qaw] at hI;repeat'(first|apply jd<;>intro _|simp(disch:=first|exact dzB|fail) only[ja hI.1,ja hI.2,jj,rzZ,γ,δ,ε,ζ,η])
  (refine G0.v ?_ rfl;repeat' split)<;>first|rfl|(exfalso;omega)|(simp_all;done)|(simp;omega)|(simp_all;omega)
def qg (c:Nat):Bool:=(decide (97<=c) && decide (c<=122)) ||(decide (65<=c) && decide (c<=90))
def jy (c:Nat):Bool:=decide (48<=c) && decide (c<=57)
def qE (c:Nat):Bool:=qg c ||jy c ||decide (c=95)
def j7 (p:Nat->Bool):List Nat->Nat
 |[]=>0
 |c :: l=>if p c then j7 p l+1 else 0
theorem Qk (p:Nat->Bool):∀ l,j7 p l<=l.length
 |[]=>φ _
 |c :: l=>by simp only[j7,χ];have:=Qk p l;split<;>omega
theorem QZ {p:Nat->Bool}:∀ {l:List Nat} {k:Nat},k<=l.length->(∀ j,j<k->p (l.getD j 0)=true)->(k=l.length\/p (l.getD k 0)=false)->j7 p l=k
 |[],k,h,_,_=>by simp at h;simp[j7,h]
 |c :: l,0,h,h1,h2=>by
  simp only[j7];rcases h2 with h2|h2
  ·simp at h2
  ·simp at h2;simp[h2]
 |c :: l,k+1,h,h1,h2=>by
  have h0:=h1 0 om;simp at h0;simp only[j7,h0,if_true];have:=QZ (l:=l) (k:=k) (by simpa using h) (λj hj=>by simpa using h1 (j+1) om) (by simpa using h2);omega
def uM:List (List Nat):=[[101,110,117,109],[118,97,114],[98,111,111,108],[112,114,111,99,101,115,115],[119,104,101,110],[100,111],[116,114,117,101],[102,97,108,115,101],[88],[70],[71],[85],[82],[89],[90],[79],[72],[83],[84]]
def w5 (l:List Nat):Bool:=decide (l∈uM)
def begins (p l:List Nat):Bool:=decide (l.take p.length=p)
theorem VU {p l:List Nat}(h:l.length<p.length):begins p l=false:=by
 unfold begins;refine decide_eq_false λe=>?_;have:=congrArg List.length e;rw[Qav] at this;omega
def qK (c:Nat):Bool:=decide (c=32) ||decide (c=9) ||decide (c=10)
def Jm (c:Nat):Bool:=decide (c≠10)
def JW (p:Nat×Nat)(x:Nat):Nat×Nat:=if x=10 then(p.1+1,1) else(p.1,p.2+1)
def jD (p:Nat×Nat)(l:List Nat):Nat×Nat:=l.foldl JW p
theorem Y4 (l:List Nat):∀ p:Nat×Nat,1<=p.2->(jD p l).1<=p.1+l.length/\(jD p l).2<=p.2+l.length/\1<=(jD p l).2:=by
 induction l with
 |nil=>exact λp h=>⟨φ _,φ _,h⟩
 |cons x l ih=>
  intro p h;have hs:(JW p x).1<=p.1+1/\(JW p x).2<=p.2+1/\1<=(JW p x).2:=by
   unfold JW;split<;>simp<;>omega
  have:=ih (JW p x) hs.2.2;show(jD (JW p x) l).1<=p.1+(l.length+1)/\(jD (JW p x) l).2<=p.2+(l.length+1)/\_;exact⟨om,om,this.2.2⟩
theorem QT (p:Nat×Nat)(l k:List Nat):jD p (l ++ k)=jD (jD p l) k:=QbR ..
theorem Un {l:List Nat}{k:Nat}(h:k<l.length):l.take (k+1)=l.take k ++ [l.getD k 0]:=by
 rw[List.take_add_one,Qaj h,Qap,Qaj h];rfl
def gap (r:List Nat):Nat:=if j7 qK r=0/\begins [47,47] r=true then j7 Jm r else j7 qK r
theorem vW (r:List Nat):gap r<=r.length:=by
 unfold gap;split
 ·exact Qk _ _
 ·exact Qk _ _
def jH (r:List Nat):Nat:=if h:gap r=0 then 0 else gap r+jH (r.drop (gap r))
termination_by r.length
decreasing_by
 rw[Qan];have:=vW r;omega
theorem Gs {r:List Nat}(h:gap r=0):jH r=0:=by rw[jH,dif_pos h]
theorem Gr {r:List Nat}(h:gap r≠0):jH r=gap r+jH (r.drop (gap r)):=by rw[jH,dif_neg h]
theorem YY (r:List Nat):jH r<=r.length:=by
 by_cases h:gap r=0
 ·rw[Gs h];exact Qaf _
 ·have e:=vW r;have ih:=YY (r.drop (gap r));rw[Qan] at ih;rw[Gr h];omega
termination_by r.length
decreasing_by
 rw[Qan];have:=vW r;omega
def yH:List (List Nat):=[[60,45,62],[46,46],[58,61],[33,61],[60,61],[62,61],[45,62],[123],[125],[40],[41],[58],[44],[59],[61],[60],[62],[43],[45],[42],[33],[38],[124]]
def Jq (r:List Nat):List (List Nat)->Nat
 |[]=>0
 |x :: xs=>if begins x r=true then x.length else Jq r xs
def Qg (r:List Nat):Nat:=Jq r yH
structure Tk where
 kind:Nat
 text:List Nat
 num:Nat
 line:Nat
 col:Nat
def Tk.cells (t:Tk):List AV:=[.int .i64 (t.kind:Int),.str t.text,.int .i64 (t.num:Int),.int .i64 (t.line:Int),.int .i64 (t.col:Int)]
def yG (s:List Nat):Nat:=s.foldl (λv c=>10 * v+(c - 48)) 0
def qu (r:List Nat)(p:Nat×Nat):Nat×Tk×Nat:=
 match r with
 |[]=>(0,⟨5,[],0,p.1,p.2⟩,0)
 |x :: r'=>
  if qg x=true then
   let n:=j7 qE (x :: r')
   if 32<n then(132,⟨1,[],0,p.1,p.2⟩,0) else(0,⟨if w5 ((x :: r').take n)=true then 4 else 1,(x :: r').take n,0,p.1,p.2⟩,n)
  else if jy x=true then
   let n:=j7 jy (x :: r')
   if 7<n\/1000000<yG ((x :: r').take n) then(132,⟨2,[],0,p.1,p.2⟩,0) else(0,⟨2,(x :: r').take n,yG ((x :: r').take n),p.1,p.2⟩,n)
  else
   let n:=Qg (x :: r')
   if n=0 then(131,⟨3,[],0,p.1,p.2⟩,0) else(0,⟨3,(x :: r').take n,0,p.1,p.2⟩,n)
def wt (s:List Nat):Prop:=s≠[]/\∀ c∈s,jy c=true
theorem WD (p:Nat->Bool):∀ l:List Nat,∀ c∈l.take (j7 p l),p c=true
 |[],c,h=>by simp at h
 |y :: l,c,h=>by
  simp only[j7] at h;by_cases hy:p y=true
  ·rw[if_pos hy,QbG] at h;rcases QaF.1 h with h|h
   ·rw[h];exact hy
   ·exact WD p l c h
  ·rw[if_neg hy] at h;simp at h
theorem Hk {x:Nat}{r:List Nat}(h:jy x=true):wt ((x :: r).take (j7 jy (x :: r))):=by
 refine⟨?_,WD jy _⟩;have:j7 jy (x :: r)=j7 jy r+1:=by simp only[j7,if_pos h]
 rw[this,QbG];simp
theorem gw (s:List Nat):∀ v,(∀ c∈s,jy c=true)->s.foldl (λv c=>10 * v+(c - 48)) v+1<=(v+1) * 10 ^ s.length:=by
 induction s with
 |nil=>exact λv _=>by simp
 |cons c s ih=>
  intro v h;have hc:=h c (by simp);have hc9:c - 48<=9:=by
   unfold jy at hc;simp at hc;omega
  have:=ih (10 * v+(c - 48)) λd hd=>h d (by simp[hd]);refine ω this ?_;rw[χ,Nat.pow_succ,<-Nat.mul_assoc,Nat.mul_right_comm];exact QaT _ om
theorem jg8 {s:List Nat}{n:Nat}(hn:s.length=n)(h7:n<=7)(h:∀ c∈s,jy c=true):yG s<=99999999:=by
 have:=gw s 0 h;have e:10 ^ s.length<=10 ^ 7:=QbX dc om;have e7:10 ^ 7=10000000:=dc
 unfold yG;omega
theorem kH (r:List Nat):∀ xs,Jq r xs<=r.length
 |[]=>Qaf _
 |y :: xs=>by
  show(if begins y r=true then y.length else Jq r xs)<=r.length;by_cases h:begins y r=true
  ·rw[if_pos h];rcases Qar r.length y.length with h2|h2
   ·rw[VU h2] at h;exact absurd h dc
   ·exact h2
  ·rw[if_neg h];exact kH r xs
theorem Wu (r:List Nat):Qg r<=r.length:=kH r _
theorem Zd {r:List Nat}{p:Nat×Nat}{e n:Nat}{t:Tk}(h:qu r p=(e,t,n)):n<=r.length:=by
 cases r with
 |nil=>simp[qu] at h;omega
 |cons x r'=>
  unfold qu at h;simp only at h;have h1:=Qk qE (x :: r');have h2:=Qk jy (x :: r');have h3:=Wu (x :: r');split at h
  ·split at h<;>simp only[Prod.mk.injEq] at h<;>omega
  ·split at h
   ·split at h<;>simp only[Prod.mk.injEq] at h<;>omega
   ·split at h<;>simp only[Prod.mk.injEq] at h<;>omega
theorem Zi {p:Nat->Bool}{x:Nat}{r:List Nat}(h:p x=true):0<j7 p (x :: r):=by
 simp only[j7,if_pos h];omega
theorem wT {r:List Nat}{p:Nat×Nat}{t:Tk}{n:Nat}(h:qu r p=(0,t,n)):(t.kind=5↔n=0)/\(n=0↔r=[]):=by
 cases r with
 |nil=>simp[qu] at h;obtain⟨h1,h2⟩:=h;subst h1 h2;simp
 |cons x r'=>
  unfold qu at h;simp only at h;split at h
  ·rename_i hL;have hp:=Zi (p:=qE) (r:=r') (show qE x=true by unfold qE;rw[hL];rfl);split at h
   ·simp at h
   ·simp only[Prod.mk.injEq] at h;obtain⟨_,h1,h2⟩:=h;subst h1 h2;refine⟨?_,?_⟩
    ·show((if _ then 4 else 1)=5↔_);split<;>constructor<;>intro h<;>omega
    ·constructor
     ·intro h;omega
     ·intro h;simp at h
  ·split at h
   ·rename_i hD;have hp:=Zi (p:=jy) (r:=r') hD;split at h
    ·simp at h
    ·simp only[Prod.mk.injEq] at h;obtain⟨_,h1,h2⟩:=h;subst h1 h2;refine⟨?_,?_⟩
     ·show(2=5↔_);constructor<;>intro h<;>omega
     ·constructor
      ·intro h;omega
      ·intro h;simp at h
   ·split at h
    ·simp at h
    ·rename_i hz;simp only[Prod.mk.injEq] at h;obtain⟨_,h1,h2⟩:=h;subst h1 h2;refine⟨?_,?_⟩
     ·show(3=5↔_);constructor<;>intro h<;>omega
     ·constructor
      ·intro h;exact absurd h hz
      ·intro h;simp at h
def qG (r:List Nat)(p:Nat×Nat):List Tk×(Nat×Nat×Nat):=
 match h:qu (r.drop (jH r)) (jD p (r.take (jH r))) with
 |(e,t,n)=>
  if e≠0 then([],(e,t.line,t.col))
  else if hn:n=0 then([t],(0,0,0))
  else
   let q:=qG ((r.drop (jH r)).drop n) (jD (jD p (r.take (jH r))) ((r.drop (jH r)).take n))
   if q.2.1≠0 then([],q.2) else(t :: q.1,q.2)
termination_by r.length
decreasing_by
 have h1:=Zd h;have h2:=YY r;rw[Qan] at h1;rw[Qan,Qan];omega
theorem XQ (r:List Nat)(p:Nat×Nat){e n:Nat}{t:Tk}(h:qu (r.drop (jH r)) (jD p (r.take (jH r)))=(e,t,n)):qG r p=if e≠0 then([],(e,t.line,t.col)) else if n=0 then([t],(0,0,0)) else if(qG ((r.drop (jH r)).drop n) (jD (jD p (r.take (jH r))) ((r.drop (jH r)).take n))).2.1≠0 then([],(qG ((r.drop (jH r)).drop n) (jD (jD p (r.take (jH r))) ((r.drop (jH r)).take n))).2) else(t :: (qG ((r.drop (jH r)).drop n) (jD (jD p (r.take (jH r))) ((r.drop (jH r)).take n))).1,(qG ((r.drop (jH r)).drop n) (jD (jD p (r.take (jH r))) ((r.drop (jH r)).take n))).2):=by
 rw[qG];split
 rename_i e' t' n' h';rw[h] at h';simp only[Prod.mk.injEq] at h';obtain⟨rfl,rfl,rfl⟩:=h';split
 ·rfl
 ·split<;>rfl
def ahead (acc:List Tk)(q:List Tk×(Nat×Nat×Nat)):List Tk×(Nat×Nat×Nat):=if q.2.1≠0 then([],q.2) else(acc ++ q.1,q.2)
def qc (l:List Nat):List Tk×(Nat×Nat×Nat):=if 65536<l.length then([],(132,1,1)) else qG l (1,1)
theorem kY (r:List Nat)(p:Nat×Nat):ahead [] (qG r p)=qG r p:=by
 unfold ahead;generalize hx:qu (r.drop (jH r)) (jD p (r.take (jH r)))=x;obtain⟨e,t,n⟩:=x;rw[XQ r p hx];by_cases he:e≠0
 ·rw[if_pos he];simp[he]
 ·rw[if_neg he];by_cases hn:n=0
  ·rw[if_pos hn];simp
  ·rw[if_neg hn];generalize qG _ _=q;by_cases hq:q.2.1≠0
   ·rw[if_pos hq];simp[hq]
   ·rw[if_neg hq];show(if q.2.1≠0 then _ else _)=_;rw[if_neg hq];rfl
theorem kZ {acc:List Tk}{r:List Nat}{p:Nat×Nat}{e n:Nat}{t:Tk}(h:qu (r.drop (jH r)) (jD p (r.take (jH r)))=(e,t,n))(he:e≠0):ahead acc (qG r p)=([],(e,t.line,t.col)):=by
 rw[XQ r p h,if_pos he];unfold ahead;rw[if_pos he]
theorem k7 {acc:List Tk}{r:List Nat}{p:Nat×Nat}{t:Tk}(h:qu (r.drop (jH r)) (jD p (r.take (jH r)))=(0,t,0)):ahead acc (qG r p)=(acc ++ [t],(0,0,0)):=by
 rw[XQ r p h,if_neg dc,if_pos rfl];rfl
theorem V7 {acc:List Tk}{r:List Nat}{p:Nat×Nat}{n:Nat}{t:Tk}(h:qu (r.drop (jH r)) (jD p (r.take (jH r)))=(0,t,n))(hn:n≠0):ahead acc (qG r p)=ahead (acc ++ [t]) (qG ((r.drop (jH r)).drop n) (jD (jD p (r.take (jH r))) ((r.drop (jH r)).take n))):=by
 rw[XQ r p h,if_neg dc,if_neg hn];generalize qG _ _=q;unfold ahead;by_cases hq:q.2.1≠0
 ·rw[if_pos hq,if_pos hq];simp[hq]
 ·rw[if_neg hq,if_neg hq];show _=(if q.2.1≠0 then _ else _);rw[if_neg hq];simp
def jer:XC:=(T4 [Pa] [Tb 3,Pf 4 .leq (.c (.int .u8 97)) 3,Pe 5,TM 6 5 0,TA 7 5 (Pp .leq 6 122),Tl 8 5 7 IZ,oK 9 8,TO 10 9 0,Ok 11 9 (.bin .leq (.c (.int .u8 65)) 10),TO 12 9 11,TM 13 12 0,TA 14 12 (Pp .leq 13 90),Ok 15 9 (.pick 12 14 IZ),Pl 16 9 15,L8 16])
def jip:XF:=⟨[0],jer,[(.t 2)]⟩
theorem jld:jF θ 119=some jip:=by kernel_rfl
def jeo:XC:=(T4 [Pa] [Tb 3,Pf 4 .leq (.c (.int .u8 48)) 3,Pe 5,TM 6 5 0,TA 7 5 (Pp .leq 6 57),Tl 8 5 7 IZ,L8 8])
def jim:XF:=⟨[0],jeo,[(.t 2)]⟩
theorem jla:jF θ 122=some jim:=by kernel_rfl
def jeq:XC:=(T4 [Pa] [Tb 3,TN 4 119 3,Pe 5,TO 6 5 0,Ph 7 (Og 5) 122 [6],Pl 8 5 7,oK 9 8,TO 10 9 0,Ok 11 9 (Pp .eql 10 95),Pl 12 9 11,L8 12])
def jio:XF:=⟨[0],jeq,[(.t 2)]⟩
theorem jlc:jF θ 120=some jio:=by kernel_rfl
def jep:XC:=(Py [Pa] (oF [oL 3 0] (.block 0 (.seq (LI (Pk 5 3 [101,110,117,109]) 4 5 4 (LI (Pk 6 3 [118,97,114]) 4 6 4 (LI (Pk 7 3 [98,111,111,108]) 4 7 4 (LI (Pk 8 3 [112,114,111,99,101,115,115]) 4 8 4 (LI (Pk 9 3 [119,104,101,110]) 4 9 4 (LI (Pk 10 3 [100,111]) 4 10 4 (LI (Pk 11 3 [116,114,117,101]) 4 11 4 (LI (Pk 12 3 [102,97,108,115,101]) 4 12 4 (LI (Pk 13 3 [88]) 4 13 4 (LI (Pk 14 3 [70]) 4 14 4 (LI (Pk 15 3 [71]) 4 15 4 (LI (Pk 16 3 [85]) 4 16 4 (LI (Pk 17 3 [82]) 4 17 4 (LI (Pk 18 3 [89]) 4 18 4 (LI (Pk 19 3 [90]) 4 19 4 (LI (Pk 20 3 [79]) 4 20 4 (LI (Pk 21 3 [72]) 4 21 4 (LI (Pk 22 3 [83]) 4 22 4 (.ops (Lb (Pk 23 3 [84]) 4 23)))))))))))))))))))) (Pb 4 [L8 O5] .skip)))) [Pa])
def jin:XF:=⟨[0],jep,[(.t 2)]⟩
theorem jlb:jF θ 121=some jin:=by kernel_rfl
def jev:XC:=(T4 [Pa] [Tb 3,oD 4 (Pp .eql 3 32),Pe 5,TO 6 5 0,Ok 7 5 (Pp .eql 6 9),Pl 8 5 7,oK 9 8,TO 10 9 0,Ok 11 9 (Pp .eql 10 10),Pl 12 9 11,L8 12])
def jit:XF:=⟨[0],jev,[(.t 2)]⟩
theorem jlh:jF θ 115=some jit:=by kernel_rfl
def jet:XC:=(T4 [Pa] [Tb 3,oD 4 (Pp .neq 3 10),L8 4])
def jir:XF:=⟨[0],jet,[(.t 2)]⟩
theorem jlf:jF θ 117=some jir:=by kernel_rfl
def jew:XC:=(Py [T9 4] (Lt [Tb 6,oI 7 (.lenS 6),T9 8] 0 [Lg 9 8 7] 9 0 1 (oF (Pg 10 8 5 10) (Tw [oK 11 1,Tb 12,oK 13 5,oD 14 (.ixStr 12 13),Ig 15 none 11 [14],LH 16 15] 16 (Pg 17 5 4 17))) 18 8 1 8 18) [Tb 19,Pc 20 19,oL 4 20])
def jiu:XF:=⟨[0,1],jew,[(.t 4)]⟩
theorem jli:jF θ 114=some jiu:=by kernel_rfl
def jeh:XC:=(T4 [LG] [Tb 5,Pc 6 5,oK 7 1,Pc 8 7,Pf 9 .geq 6 8,oK 10 9,TM 11 10 0,TM 12 10 1,TA 13 10 (.lenS 12),TA 14 10 (Pd 11 none 13),TM 15 10 1,TA 16 10 (Pq 14 15),Tl 17 10 16 IZ,oL 4 17])
def jif:XF:=⟨[0,1],jeh,[(.t 4)]⟩
theorem jk3:jF θ 149=some jif:=by kernel_rfl
def jeu:XC:=(T4 [LG] (Pr 5 (oK 6 1) (Ls 7 149 5 6) (oL 4 7)))
def jis:XF:=⟨[0,1],jeu,[(.t 4)]⟩
theorem jlg:jF θ 116=some jis:=by kernel_rfl
def jef:XC:=(T4 [TV 3] [o5 4 1,Tb 5,Ls 6 116 4 5,oL 3 6])
def jid:XF:=⟨[0,1],jef,[(.t 3)]⟩
theorem jk1:jF θ 153=some jid:=by kernel_rfl
def jeg:XC:=(Py [T9 4] (Lt [Tb 6,TS 7 6,T9 8] 0 [Lg 9 8 7] 9 0 1 (oF (Pg 10 8 5 10) (Tw [oK 11 1,Tb 12,oK 13 5,Tj 14 1 12 13,o5 15 14,oV 16 true none 11 [15]] 16 (Pg 17 5 4 17))) 18 8 1 8 18) [Lj 4 (-(0+1))])
def jie:XF:=⟨[0,1],jeg,[(.t 4)]⟩
theorem jk2:jF θ 152=some jie:=by kernel_rfl
def jen:XC:=(oF [TR 1 0,T9 2] (T0 [To 5 [oW,oW,oW,oW,oW,oW,oW,oW,oW,oW,oW,oW,oW,oW,oW,oW,oW,oW,oW,oW,oW,oW,oW] [TG 0 [60,45,62],TG 1 [46,46],TG 2 [58,61],TG 3 [33,61],TG 4 [60,61],TG 5 [62,61],TG 6 [45,62],T6 7 123,T6 8 125,T6 9 40,T6 10 41,T6 11 58,T6 12 44,T6 13 59,T6 14 61,T6 15 60,T6 16 62,T6 17 43,T6 18 45,T6 19 42,T6 20 33,T6 21 38,T6 22 124],IY 3 [oW,oW,oW,oW,oW,oW,oW,oW,oW,oW,oW,oW,oW,oW,oW,oW,oW,oW,oW,oW,oW,oW,oW],IU 23 3 5] [oD 6 (.slA 23 1 3 none none),oD 7 (.fn 153 [1]),Ls 8 152 6 7,oL 4 8] (Tw [Pe 9,oI 10 (oZ .lss 9 oR)] 10 [T9 2]) (Oe [Pe 11,oD 12 (.idxA 23 1 3 11),o5 13 12,Pc 14 13,L8 14])))
def jil:XF:=⟨[0],jen,[(.t 2)]⟩
theorem jk9:jF θ 124=some jil:=by kernel_rfl
def jes:XC:=(.seq (.seq (.cops [Tr (Tb 6),Tr (O0 7 6),Tr (LA 8 7),LC 9 8,Tr (Tb 10),Tr (O0 11 10),Tr (La 12 11),LC 13 12,Tr (Tb 14),Tr (O0 15 14),Tr (La 16 15),LC 17 16,Pz 18 1,Tr (Pf 19 .add 17 18),Tr (oD 20 (Pd 9 (some 13) 19)),Tr (oI 21 (.conv 9 203 20)),Tr (TS 22 21),Tr (T9 23)]) (OH 0 (Lp [Lg 24 23 22] 24 0 1 (Po [Tj 25 1 21 23,o5 26 25,oL 5 26] [Tb 27,O0 28 27,oU 29 3 28,o5 30 29,Tv 31 30 1,O0 32 27,oU 33 3 32,L9 33 31] (Lf [oK 34 5,oI 35 (Pp .eql 34 10)] 35 [Tb 36,Tb 37,Tb 38,O0 39 38,oU 40 2 39,o5 41 40,Tv 42 41 1,O0 43 36,oU 44 2 43,L9 44 42,O0 45 37,oU 46 3 45,L9 46 (TW 1)])) 47 23 1 23 47))) (.ops [Tb 48,O0 49 48,La 50 49,o5 51 50,oK 52 1,Pf 53 .add 51 52,O0 54 48,La 55 54,L9 55 53]))
def jiq:XF:=⟨[0,1],jes,[]⟩
theorem jle:jF θ 118=some jiq:=by kernel_rfl
def z74:XC:=(OH 0 (.block 1 (.seq (.cops [Tr (Tb 4),Tr (O0 5 4),Tr (LA 6 5),LC 7 6,Tr (Tb 8),Tr (O0 9 8),Tr (La 10 9),LC 11 10,Tr (oD 12 (.slStr 7 (some 11) none)),Tr (L8 12)]) (LM [oK 13 2,Ls 14 114 13 (o9 115 []),oL 3 14] (Lf [oK 15 3,oD 16 (oZ .eql 15 oR),oK 17 16,TM 18 17 2,Pn 19 17 116 [18,If [47,47]],Tu 20 17 19 IZ] 20 [oK 21 2,Ls 22 114 21 (o9 117 []),oL 3 22]) (Om [oK 23 3,oI 24 (oZ .eql 23 oR)] 24 .ret) (.ops [Tb 25,oK 26 3,Ls 27 118 25 26])))))
def y74:XF:=⟨[0],z74,[]⟩
theorem x74:jF θ 74=some y74:=by kernel_rfl
def z75:XC:=(LM [IY 2 [oR,oW,oR,oR,oR],T9 3] (.cops [Tr (Tb 9),Tr (O0 10 9),Tr (LA 11 10),LC 12 11,Tr (Tb 13),Tr (O0 14 13),Tr (La 15 14),LC 16 15,Tr (oD 17 (.slStr 12 (some 16) none)),Tr (oL 4 17)]) (.cops [Tr (Tb 18),Tr (O0 19 18),Tr (oU 20 2 19),LC 21 20,Tr (Tb 22),Tr (O0 23 22),Tr (oU 24 3 23),LC 25 24,Tr (To 26 [oR,oW,oR,oR,oR] [((0,1),TW 5),((3,1),21),((4,1),25)]),Tr (IY 5 [oR,oW,oR,oR,oR]),Tr (IU 5 5 26)]) (Ob [T9 6] (.block 0 (Ie [Pe 34,LR 35 34 (.c oW),oL 33 35] 33 (Oe [IX 36 5 5,IU 5 2 36,T9 3]) (Ie [Pe 38,oD 39 (.ixStr 38 (.c oR)),TN 40 119 39,oL 37 40] 37 (Ob [Pe 41,Ls 42 114 41 (o9 120 []),oL 6 42,LA 43 5,L9 43 (TW 1)] (Tw [oK 44 6,Lk 45 .gtr 44 32] 45 [IX 46 5 5,IU 5 2 46,Lj 3 132]) (Lf [Pe 47,oK 48 6,oD 49 (Pd 47 none 48),oV 50 true none (o9 121 []) [49]] 50 [LA 51 5,L9 51 (TW 4)])) (Ie [Pe 53,oD 54 (.ixStr 53 (.c oR)),TN 55 122 54,oL 52 55] 52 (T0 [Pe 56,Ls 57 114 56 (o9 122 []),oL 6 57,LA 58 5,L9 58 (TW 2)] [Pe 60,oK 61 6,oD 62 (Pd 60 none 61),OE 63 123 [62,TW 10,TW 64],oK 59 63,TI 64 59 0,TI 65 59 1,oL 7 64,oL 8 65] (Tw [oK 66 6,OW 67 .gtr 66 7,oK 68 67,TO 69 68 8,Ok 70 68 (.gen .neq 177 true 69 (.c .nilif)),Pl 71 68 70,oK 72 71,TO 73 72 7,Pm 74 72 .gtr 73 1000000,Tu 75 72 O5 74] 75 [IX 76 5 5,IU 5 2 76,Lj 3 132]) (.ops [oK 77 7,oU 78 2 5,L9 78 77])) (oF [Pe 27,TN 28 124 27,oL 6 28,LA 29 5,L9 29 (TW 3)] (Tw [oK 30 6,oI 31 (oZ .eql 30 oR)] 31 [IX 32 5 5,IU 5 2 32,Lj 3 131])))))) (oF [Pe 79,oK 80 6,oD 81 (Pd 79 none 80),La 82 5,L9 82 81] (T4 [Tb 83,oK 84 6,Ls 85 118 83 84] [IX 86 5 5,IU 5 2 86,T9 3]))))
def y75:XF:=⟨[0],z75,[(.cA 2 5),(.t 3)]⟩
theorem x75:jF θ 75=some y75:=by kernel_rfl
def z35:XC:=(Ob [Oo 2 .nils,IY 3 [oR,oR,oR]] (Tw [Tb 8,Pc 9 8,Lk 10 .gtr 9 65536] 10 [To 11 [oR,oR,oR] [((0,1),TW 132),((1,1),TW 1),((2,1),TW 1)],Oo 2 .nils,IU 3 3 11]) (oF (Pr 12 (To 13 [oW,oR,oR,oR] [((0,1),12),((2,1),TW 1),((3,1),TW 1)]) (oD 14 (.box 13)) (oL 4 14)) (TT [Oo 5 .nils] 0 (.block 1 (T0 [Pe 15,TN 16 74 15] [Pe 18,TN 19 75 18,oK 17 19,TI 20 17 0,TI 21 17 1,IY 6 [oR,oW,oR,oR,oR],IU 5 6 20,oL 7 21] (Om [oK 22 7,oI 23 (oZ .neq 22 oR)] 23 (.seq (.cops [Pz 24 7,Tr (oU 25 3 6),LC 26 25,Tr (oU 27 4 6),LC 28 27,Tr (To 29 [oR,oR,oR] [((0,1),24),((1,1),26),((2,1),28)]),Tr (Oo 2 .nils),Tr (IU 3 3 29)]) .ret)) (oF [oK 30 5,IX 31 5 6,Tp 32 1 5 [oR,oW,oR,oR,oR] [((0,5),31)],Pj 33 5 48 30 32,oL 5 33] (Tw [LA 34 6,o5 35 34,Lk 36 .eql 35 5] 36 [oK 37 5,To 38 [oR,oR,oR] [],L8 37,IU 3 3 38])))))))
def y35:XF:=⟨[0],z35,[(.t 2),(.cA 3 3)]⟩
theorem x35:jF θ 35=some y35:=by kernel_rfl
theorem WC (hb:NB base)(c:Nat):Tot base 119 [.int .u8 (c:Int)] (.bool (qg c)):=by
 refine hb.tot ?_ rfl rfl;refine jT jld (by rfl) (hb.pur 119 1 dc) ?_;simp only[jip,jn,ν,ξ,τ,υ];rw[(by unfold jer;simp only[qq];rfl:jer=_)];repeat'(first|apply jd<;>intro _|simp(disch:=first|exact dzA|fail) only[rzZ,γ,δ,ε,ζ,η])
 all_goals(refine G0.v (congrArg AV.bool ?_) rfl;rw[Qax];simp only[qg,QaE,Qad,decide_eq_true_eq,QaI,Qby,QaL,decide_eq_false_iff_not,true_iff,false_iff,iff_true,iff_false,not_true_eq_false,not_false_eq_true,ne_eq,eq_self]<;>omega)
theorem jal (hb:NB base)(c:Nat):Tot base 122 [.int .u8 (c:Int)] (.bool (jy c)):=by
 refine hb.tot ?_ rfl rfl;refine jT jla (by rfl) (hb.pur 122 1 dc) ?_;simp only[jim,jn,ν,ξ,τ,υ];rw[(by unfold jeo;simp only[qq];rfl:jeo=_)];repeat'(first|apply jd<;>intro _|simp(disch:=first|exact dzA|fail) only[rzZ,γ,δ,ε,ζ,η])
 all_goals(refine G0.v (congrArg AV.bool ?_) rfl;rw[Qax];simp only[jy,QaE,Qad,decide_eq_true_eq,QaI,Qby,QaL,decide_eq_false_iff_not,true_iff,false_iff,iff_true,iff_false,not_true_eq_false,not_false_eq_true,ne_eq,eq_self]<;>omega)
theorem H4 (hb:NB base)(c:Nat):Tot base 120 [.int .u8 (c:Int)] (.bool (qE c)):=by
 refine hb.tot ?_ rfl rfl;refine jT jlc (by rfl) (hb.pur 120 1 dc) ?_;simp only[jio,jn,ν,ξ,τ,υ];rw[(by unfold jeq;simp only[qq];rfl:jeq=_)];repeat'(first|apply jd<;>intro _|simp(disch:=first|exact dzA|fail) only[WC hb,jal hb,rzZ,γ,δ,ε,ζ,η])
 all_goals(refine G0.v (congrArg AV.bool ?_) rfl;unfold qE;simp_all;try omega)
theorem jhO (hb:NB base)(c:Nat):Tot base 115 [.int .u8 (c:Int)] (.bool (qK c)):=by
 refine hb.tot ?_ rfl rfl;refine jT jlh (by rfl) (hb.pur 115 1 dc) ?_;simp only[jit,jn,ν,ξ,τ,υ];rw[(by unfold jev;simp only[qq];rfl:jev=_)];repeat'(first|apply jd<;>intro _|simp(disch:=first|exact dzA|fail) only[rzZ,γ,δ,ε,ζ,η])
 all_goals(refine G0.v (congrArg AV.bool ?_) rfl;rw[Qax];simp only[qK,QaE,Qad,decide_eq_true_eq,QaI,Qby,QaL,decide_eq_false_iff_not,true_iff,false_iff,iff_true,iff_false,not_true_eq_false,not_false_eq_true,ne_eq,eq_self]<;>omega)
theorem je8 (hb:NB base)(c:Nat):Tot base 117 [.int .u8 (c:Int)] (.bool (Jm c)):=by
 refine hb.tot ?_ rfl rfl;refine jT jlf (by rfl) (hb.pur 117 1 dc) ?_;simp only[jir,jn,ν,ξ,τ,υ];rw[(by unfold jet;simp only[qq];rfl:jet=_)];repeat'(first|apply jd<;>intro _|simp(disch:=first|exact dzA|fail) only[rzZ,γ,δ,ε,ζ,η])
 all_goals(refine G0.v (congrArg AV.bool ?_) rfl;rw[Qax];simp only[Jm,QaE,Qad,decide_eq_true_eq,QaI,Qby,QaL,decide_eq_false_iff_not,true_iff,false_iff,iff_true,iff_false,not_true_eq_false,not_false_eq_true,ne_eq,eq_self]<;>omega)
theorem jd2 (hb:NB base)(l:List Nat):Tot base 121 [.str l] (.bool (w5 l)):=by
 refine hb.tot ?_ rfl rfl;refine jT jlb (by rfl) (hb.pur 121 1 dc) ?_;simp only[jin,jn,ν,ξ,τ,υ];rw[(by unfold jep;simp only[qq];rfl:jep=_)];repeat'(first|apply jd<;>intro _|simp(disch:=first|exact dzA|fail) only[rzZ,γ,δ,ε,ζ,η])
 all_goals(refine G0.v ?_ rfl;unfold w5 uM;simp[*])
def Pt (base:Bs)(f:FuncId)(p:Nat->Bool):Prop:=∀ c:Nat,Tot base f [.int .u8 (c:Int)] (.bool (p c))
theorem Va (hb:NB base)(l:List Nat)(hl:l.length<=4611686018427387904){f:FuncId}{p:Nat->Bool}(hf:Pt base f p):Tot base 114 [.str l,.fn f []] (.int .i64 (j7 p l)):=by
 refine hb.tot ?_ rfl rfl;refine jT jli (by rfl) (hb.pur 114 1 dc) ?_;simp only[jiu,jn,ν,ξ,τ,υ];rw[(by unfold jew;simp only[qq];rfl:jew=_)];repeat'(first|apply jd<;>intro _|simp(disch:=first|exact dzA|fail) only[rzZ,γ,δ,ε,ζ,η])
 refine qZ l.length (λk L s=>(∀ j,j<k->p (l.getD j 0)=true)/\Has L 0 (.str l)/\Has L 1 (.fn f [])) (by first|assumption|omega) dc (by simp(disch:=decide) only[jc,jb]) (by simp(disch:=decide) only[jc,jb]) ?_ (λk L s v h=>by simp(disch:=decide) only[jb];exact h) (λk L s v h=>by simp(disch:=decide) only[jb];exact h) (λk L s hk hI hi hn=>?_) (λL s hI=>?_)
 ·refine⟨λj hj=>absurd hj (QaM _),?_⟩;simp(disch:=decide) only[h12]
 ·obtain⟨h0,i0,i1⟩:=hI;repeat'(first|apply jd<;>intro _|simp(disch:=first|exact dzA|fail) only[ja i0,ja i1,ja hi,hf (l.getD k 0),rzZ,γ,δ,ε,ζ,η])
  ·exact G0.v (by rw[QZ (Qbl hk) h0 (.inr ‹_›)]) rfl
  ·refine⟨⟨λj hj=>?_,?_⟩,?_⟩
   ·rcases Qar j k with h|h
    ·exact h0 j h
    ·rw[show j=k by omega];simpa using ‹¬ p (l.getD k 0)=false›
   ·simp(disch:=decide) only[h12,i0,i1]
   ·simp(disch:=decide) only[h12,hi,hn]
 ·obtain⟨h0,i0,i1⟩:=hI;repeat'(first|apply jd<;>intro _|simp(disch:=first|exact dzA|fail) only[ja i0,rzZ,γ,δ,ε,ζ,η])
  exact G0.v (by rw[QZ (φ _) h0 (.inl rfl)]) rfl
theorem jj6 (hb:NB base)(l q:List Nat)(hl:l.length<=4611686018427387904):Tot base 149 [.str l,.str q] (.bool (begins q l)):=by
 refine hb.tot ?_ rfl rfl;refine jT jk3 (by rfl) (hb.pur 149 1 dc) ?_;simp only[jif,jn,ν,ξ,τ,υ];rw[(by unfold jeh;simp only[qq];rfl:jeh=_)];repeat'(first|apply jd<;>intro _|simp(disch:=first|exact dzA|fail) only[rzZ,γ,δ,ε,ζ,η])
 ·exact G0.v rfl rfl
 ·exact G0.v (by rw[VU om]) rfl
theorem Wk (hb:NB base)(l q:List Nat)(hl:l.length<=4611686018427387904):Tot base 116 [.str l,.str q] (.bool (begins q l)):=by
 refine hb.tot ?_ rfl rfl;refine jT jlg (by rfl) (hb.pur 116 1 dc) ?_;simp only[jis,jn,ν,ξ,τ,υ];rw[(by unfold jeu;simp only[qq];rfl:jeu=_)];repeat'(first|apply jd<;>intro _|simp(disch:=first|exact dzA|fail) only[jj6 hb l q hl,rzZ,γ,δ,ε,ζ,η])
 exact G0.v rfl rfl
theorem Cl.bar {s:St}{b:Nat}{cs:List AV}(h:Cl s b cs):Cl s.bare b cs:=⟨h.lt,h.row,h.len,h.cell⟩
theorem jcD (hb:NB base)(r x:List Nat)(hr:r.length<=4611686018427387904){st:St}{b:Nat}(C:Cl st b [.str r])(K Kp:AV->St->Prop):XB θ base 153 [.str x,.ptr b 0] st K Kp=K (.bool (begins x r)) st:=by
 refine jaG (λK Kp hK=>?_) K Kp;refine Q3 jk1 (by rfl) (hb.at0 153 dc dc _ _) ?_;simp only[jid,jn,ν,ξ,τ,υ];rw[(by unfold jef;simp only[qq];rfl:jef=_)];have C:=C.bar;have hbk:bk st st.bare=st:=rfl;have hbc:back st st.bare=st:=rfl;have hbb:st.bare.bare=st.bare:=rfl;generalize st.bare=s0 at *
 (have zz:=C.r;(repeat'(first|apply jd<;>intro _|simp(disch:=first|exact Zo|fail) only[Wk hb r x hr,hbk,hbc,hbb,C.q,C.r,rzZ,γ,δ,ε,ζ,η]));all_goals clear zz)
 exact hK
theorem jh0 (hb:NB base){xs:List (List Nat)}(hn:xs.length<=1000000)(f:FuncId)(caps:List AV)(q:List Nat->Bool){st:St}{b c:Nat}{x:Bool}(C:Cl st b (xs.map .str))
  (hq:∀ y K Kp,XB θ base f (.str y :: caps) st.bare K Kp=K (.bool (q y)) st.bare) (K Kp:AV->St->Prop):XB θ base 152 [.slice b 0 xs.length c 1 x,.fn f caps] st K Kp=K (.int .i64 (fi q xs)) st:=by
 refine jaG (λK Kp hK=>?_) K Kp;refine Q3 jk2 (by rfl) (hb.at0 152 dc dc _ _) ?_;simp only[jie,jn,ν,ξ,τ,υ];rw[(by unfold jeg;simp only[qq];rfl:jeg=_)];have C:=C.bar;have hbk:bk st st.bare=st:=rfl;have hbc:back st st.bare=st:=rfl;have hbb:st.bare.bare=st.bare:=rfl;generalize st.bare=s0 at *;have hl:(xs.map AV.str).length=xs.length:=QaN ..;repeat'(first|apply jd<;>intro _|simp(disch:=first|exact dzA|fail) only[rzZ,γ,δ,ε,ζ,η])
 refine qZ xs.length (λk L s=>s=s0/\(∀ j (h1:j<xs.length),j<k->q xs[j]=false)/\Has L 0 (.slice b 0 xs.length c 1 x)/\Has L 1 (.fn f caps)) (by first|assumption|omega) dc (by simp(disch:=decide) only[jc,jb]) (by simp(disch:=decide) only[jc,jb]) ?_ (λk L s v h=>by simp(disch:=decide) only[jb];exact h) (λk L s v h=>by simp(disch:=decide) only[jb];exact h) (λk L s hk hI hi hn=>?_) (λL s hI=>?_)
 ·refine⟨rfl,λj _ hj=>absurd hj (QaM _),?_⟩;simp(disch:=decide) only[h12]
 ·obtain⟨rfl,h0,i0,i1⟩:=hI;have e:(xs.map AV.str).getD k .bad=.str xs[k]:=by simp[Qac,hk]
  (have zz:=C.r;(repeat'(first|apply jd<;>intro _|simp(disch:=first|exact Zo|fail) only[ja i0,ja i1,ja hi,hq,hl,e,hbk,hbc,hbb,C.q,C.r,rzZ,γ,δ,ε,ζ,η]));all_goals clear zz)
  ·rw[KN hk (λj hj=>h0 j om hj) ‹_›] at hK;exact hK
  ·refine⟨⟨λj h1 hj=>?_,?_⟩,?_⟩
   ·rcases Qar j k with h|h
    ·exact h0 j h1 h
    ·have:j=k:=om
     subst this;simpa using ‹¬ q xs[j]=true›
   ·simp(disch:=decide) only[h12,i0,i1]
   ·simp(disch:=decide) only[h12,hi,hn]
 ·obtain⟨rfl,h0,i0,i1⟩:=hI;repeat'(first|apply jd<;>intro _|simp(disch:=first|exact dzA|fail) only[hbk,hbc,hbb,rzZ,γ,δ,ε,ζ,η])
  rw[KM λj hj=>h0 j hj hj] at hK;exact hK
theorem kI (r:List Nat):∀ xs:List (List Nat),(fi (λx=>begins x r) xs<0/\Jq r xs=0)\/∃ k,∃ h:k<xs.length,fi (λx=>begins x r) xs=k/\Jq r xs=xs[k].length
 |[]=>.inl ⟨by show(-1:Int)<0;decide,rfl⟩
 |y :: xs=>by
  by_cases h:begins y r=true
  ·exact .inr ⟨0,by simp,by simp[fi,h],by simp[Jq,h]⟩
  ·rcases kI r xs with ⟨h1,h2⟩|⟨k,hk,h1,h2⟩
   ·exact .inl ⟨by simp[fi,h,h1],by simp[Jq,h,h2]⟩
   ·exact .inr ⟨k+1,by simpa using hk,by simp[fi,h,h1];omega,by simp[Jq,h,h2]⟩
theorem jeR {k:Nat}(h:k<yH.length):(yH.map AV.str).getD k .bad=.str yH[k]:=by simp[Qac,h]
theorem jiX (hb:NB base)(r:List Nat)(hr:r.length<=4611686018427387904):Tot base 124 [.str r] (.int .i64 (Qg r)):=by
 refine hb.tot ?_ rfl rfl;refine jT jk9 (by rfl) (hb.pur 124 1 dc) ?_;simp only[jil,jn,ν,ξ,τ,υ];rw[(by unfold jen;simp only[qq];rfl:jen=_)];repeat'(first|apply jd<;>intro _|simp(disch:=first|exact dzA|fail) only[rzZ,γ,δ,ε,ζ,η])
 refine XB.gen λu hu=>?_;have C0:Cl u 0 [.str r]:=by rw[hu];exact((Cl.new st0 [.str r]).nw _).wrO dc _ _
 have C1:Cl u 1 (yH.map .str):=by rw[hu];exact(Cl.new (nw st0 _) _).wr0 rfl
 clear hu;rw[show(23:Nat)=yH.length from rfl,jh0 hb (xs:=yH) dc 153 [.ptr 0 0] (λx=>begins x r) C1 λy K Kp=>jcD hb r y hr C0.bar K Kp];unfold Qg;rcases kI r yH with ⟨h1,h2⟩|⟨k,hk,h1,h2⟩
 ·repeat'(first|apply jd<;>intro _|simp(disch:=first|exact dzA|fail) only[rzZ,γ,δ,ε,ζ,η])
  exact G0.v (by rw[h2];rfl) rfl
 ·have hk':k<23:=hk;have e:=jeR hk;have e2:qz u.h 1=23:=C1.len;have e3:rat u.h 1 k=.str yH[k]:=(C1.cell k (by rw[QaN];exact hk)).trans e;repeat'(first|apply jd<;>intro _|simp(disch:=first|exact dzA|fail) only[h1,e2,e3,rzZ,γ,δ,ε,ζ,η])
  refine G0.v ?_ rfl;rw[h2]<;>rfl
def cC (l:List Nat)(a:Nat)(p:Nat×Nat):List AV:=[.str l,.int .i64 (a:Int),.int .i64 (p.1:Int),.int .i64 (p.2:Int)]
theorem u9:Tryz.prog.underlying 9=some .string:=by kernel_rfl
theorem jlk:Tryz.prog.underlying 203=some (.slice 5):=by kernel_rfl
theorem u5:Tryz.prog.underlying 5=some (.int .u8):=by kernel_rfl
theorem jcC (hb:NB base){l:List Nat}{a n:Nat}{p:Nat×Nat}(hn:a+n<=l.length)(hl:l.length<=1073741824)(h1:p.1<=1073741824)(h2:p.2<=1073741824)(hc:1<=p.2) :
  Met θ base 118 (cC l a p) [.int .i64 (n:Int)] (.ok (.tup [])) (cC l (a+n) (jD p ((l.drop a).take n))):=by
 refine PM.met ?_ rfl λp st=>hb.no 118 dc _ _;refine jC jle (by rfl) (hb.pur 118 3 dc) rfl ?_;simp only[jiq,jn,ν,ξ,τ,υ];rw[(by unfold jes;simp only[qq];rfl:jes=_)];have hbs:((l.drop a).take n).length=n:=by rw[Qav,Qan];omega
 have e1:((a:Int)+(n:Int) - (a:Int)).toNat=n:=om
 unfold cC at *;repeat'(first|apply jd<;>intro _|simp(disch:=first|exact dzA|fail) only[jhV u9 jlk u5,e1,hbs,rzZ,γ,δ,ε,ζ,η])
 generalize (l.drop a).take n=bs at *;refine qZ n (λk L s=>Cl s 0 (cC l a (jD p (bs.take k)))/\Cl s 1 (bs.map λ(c:Nat)=>.int .u8 (c:Int))/\Has L 0 (.ptr 0 0)/\Has L 1 (.int .i64 (n:Int))/\Has L 21 (.slice 1 0 n n 1 false)) (by first|assumption|omega) dc (by simp(disch:=decide) only[jc,jb]) (by simp(disch:=decide) only[jc,jb]) ?_ (λk L s v h=>by simp(disch:=decide) only[jb];exact h) (λk L s v h=>by simp(disch:=decide) only[jb];exact h) (λk L s hk hI hi hn=>?_) (λL s hI=>?_)
 ·refine⟨(Cl.new st0 (cC l a p)).nw _,Cl.new (nw st0 _) _,?_⟩;simp(disch:=decide) only[h12]
 ·obtain⟨C0,C1,i0,i1,i21⟩:=hI;have hk':k<bs.length:=om
  have e2:rat s.h 1 k=.int .u8 ((bs[k]:Nat):Int):=(C1.cell k (by rw[QaN];exact hk')).trans (by simp[Qac,hk']);have e3:qz s.h 1=n:=by rw[C1.len,QaN];exact hbs
  have hw:=Y4 (bs.take k) p hc;have e4:jD p (bs.take (k+1))=JW (jD p (bs.take k)) bs[k]:=by rw[WZ hk',QT];rfl
  rw[Qav] at hw;generalize jD p (bs.take k)=q at *;rw[e4];have L0:=C0.lt;have L1:=C1.lt;unfold cC at *
  (have zz:=C0.r;(repeat'(first|apply jd<;>intro _|simp(disch:=first|exact Zo|fail) only[ja i0,ja i1,ja i21,ja hi,e2,e3,C0.q,C0.r,rzZ,γ,δ,ε,ζ,η]));all_goals clear zz)
  ·refine⟨⟨?_,?_,?_⟩,?_⟩
   ·have e5:bs[k]=10:=om
    rw[show JW q bs[k]=(q.1+1,1) from if_pos e5]
    (apply Cl.cv;(· (repeat'(first|exact C0|apply Cl.wr|apply Cl.nw)));(· (simp only[Xr,Q7,XV,Ys,Yr,ν]<;>first|rfl|(simp;done)|(simp;omega))))
   ·simp(disch:=first|assumption|decide|omega|(simp only[jf,je,jh,jg,ji,qW,χ,ψ];first|done|omega)) only[jv,jA,jz];exact C1
   ·simp(disch:=decide) only[h12,i0,i1,i21]
   ·simp(disch:=decide) only[h12,hi,hn]
  ·refine⟨⟨?_,?_,?_⟩,?_⟩
   ·have e5:¬ bs[k]=10:=om
    rw[show JW q bs[k]=(q.1,q.2+1) from if_neg e5]
    (apply Cl.cv;(· (repeat'(first|exact C0|apply Cl.wr|apply Cl.nw)));(· (simp only[Xr,Q7,XV,Ys,Yr,ν]<;>first|rfl|(simp;done)|(simp;omega))))
   ·simp(disch:=first|assumption|decide|omega|(simp only[jf,je,jh,jg,ji,qW,χ,ψ];first|done|omega)) only[jv,jA,jz];exact C1
   ·simp(disch:=decide) only[h12,i0,i1,i21]
   ·simp(disch:=decide) only[h12,hi,hn]
 ·obtain⟨C0,C1,i0,i1,i21⟩:=hI;rw[<-hbs,Qaw] at C0;have L0:=C0.lt;unfold cC at *
  (have zz:=C0.r;(repeat'(first|apply jd<;>intro _|simp(disch:=first|exact Zo|fail) only[ja i0,ja i1,C0.q,C0.r,rzZ,γ,δ,ε,ζ,η]));all_goals clear zz)
  refine G1.done ?_ rfl rfl FzD.u;simp(disch:=first|assumption|decide|omega|(simp only[jf,je,jh,jg,ji,qW,χ,ψ];first|done|omega)) only[jv,jA,jz]
  (apply Cl.cv;(· (repeat'(first|exact C0|apply Cl.wr|apply Cl.nw)));(· (simp only[Xr,Q7,XV,Ys,Yr,ν]<;>first|rfl|(simp;done)|(simp;omega))))
theorem jfA (hb:NB base){l:List Nat}{a:Nat}{p:Nat×Nat}(ha:a<=l.length)(hl:l.length<=1048576)(hp1:p.1+(l.length - a)<=1073741824)(hp2:1<=p.2)(hp3:p.2+(l.length - a)<=1073741824) :
  Met θ base 74 (cC l a p) [] (.ok (.tup [])) (cC l (a+jH (l.drop a)) (jD p ((l.drop a).take (jH (l.drop a))))):=by
 refine PM.met ?_ rfl λp st=>hb.no 74 dc _ _;refine jC x74 (by rfl) (hb.pur 74 3 dc) rfl ?_;simp only[y74,jn,ν,ξ,τ,υ];rw[(by unfold z74;simp only[qq];rfl:z74=_)];rw[ut];refine qB (λmm L s=>∃ d:Nat,a+d<=l.length/\mm=l.length - (a+d)/\Cl s 0 (cC l (a+d) (jD p ((l.drop a).take d)))/\jH (l.drop a)=d+jH (l.drop (a+d))/\Has L 0 (.ptr 0 0)) ?_ (l.length - a) ?_
 ·rintro mm L s ⟨d,hd,rfl,C,hg,i0⟩;have W:=Y4 ((l.drop a).take d) p hp2;have hlt:((l.drop a).take d).length=d:=by rw[Qav,Qan];omega
  rw[hlt] at W;have hrl:(l.drop (a+d)).length=l.length - (a+d):=Qan;have hgap:gap (l.drop (a+d))=if j7 qK (l.drop (a+d))=0/\begins [47,47] (l.drop (a+d))=true then j7 Jm (l.drop (a+d)) else j7 qK (l.drop (a+d)):=rfl
  have hgl:=vW (l.drop (a+d));have hwalk:jD (jD p ((l.drop a).take d)) ((l.drop (a+d)).take (gap (l.drop (a+d))))=jD p ((l.drop a).take (d+gap (l.drop (a+d)))):=by
   rw[<-QT,List.take_add,QaX]
  have hg1:=λ(h:gap (l.drop (a+d))≠0)=>Gr h;have hg0:=λ(h:gap (l.drop (a+d))=0)=>Gs h;have hdrop:(l.drop (a+d)).drop (gap (l.drop (a+d)))=l.drop (a+(d+gap (l.drop (a+d)))):=by rw[QaX,Qbt]
  have S:=@jcC base hb l (a+d) (gap (l.drop (a+d))) (jD p ((l.drop a).take d)) om om om om om;have S1:=λK Kp=>S C K Kp;have L0:=C.lt;rw[hwalk] at S1;have R1:=Va hb (l.drop (a+d)) om (jhO hb);have R2:=Va hb (l.drop (a+d)) om (je8 hb);have R3:=Wk hb (l.drop (a+d)) [47,47] om;have fin:gap (l.drop (a+d))=0->G1 4 (cC l (a+jH (l.drop a)) (jD p ((l.drop a).take (jH (l.drop a))))) (.tup []) (.tup []) s.bare:=λh=>by
   rw[hg,hg0 h,QaV];exact G1.done (jz.symm▸C) rfl rfl FzD.u
  have go:gap (l.drop (a+d))≠0->∀ L,Has L 0 (.ptr 0 0)->∃ k',k'<l.length - (a+d)/\∃ d2:Nat,a+d2<=l.length/\k'=l.length - (a+d2)/\Cl (wr s 0 0 (cC l (a+d+gap (l.drop (a+d))) (jD p ((l.drop a).take (d+gap (l.drop (a+d))))))) 0 (cC l (a+d2) (jD p ((l.drop a).take d2)))/\jH (l.drop a)=d2+jH (l.drop (a+d2))/\Has L 0 (.ptr 0 0):=λh L i=>by
   refine⟨l.length - (a+(d+gap (l.drop (a+d)))),om,d+gap (l.drop (a+d)),om,rfl,?_,by rw[hg,hg1 h,hdrop,Qbt],i⟩;rw[Qbt];exact C.wr0 rfl
  generalize hJ:(λ(L:Sl) (st':St)=>∃ k',k'<l.length - (a+d)/\∃ d2:Nat,a+d2<=l.length/\k'=l.length - (a+d2)/\Cl st' 0 (cC l (a+d2) (jD p ((l.drop a).take d2)))/\jH (l.drop a)=d2+jH (l.drop (a+d2))/\Has L 0 (.ptr 0 0))=J at *;have go2:gap (l.drop (a+d))≠0->∀ L,Has L 0 (.ptr 0 0)->J L (wr s 0 0 (cC l (a+d+gap (l.drop (a+d))) (jD p ((l.drop a).take (d+gap (l.drop (a+d))))))):=λh L i=>by rw[<-hJ];exact go h L i
  clear go;unfold cC at *;by_cases h1:j7 qK (l.drop (a+d))=0
  ·cases h2:begins [47,47] (l.drop (a+d)) with
   |true=>
    rw[if_pos ⟨h1,h2⟩] at hgap;rw[<-hgap] at R2;by_cases hz:gap (l.drop (a+d))=0
    ·(have zz:=C.r;(repeat'(first|apply jd<;>intro _|simp(disch:=first|exact Zo|fail) only[ja i0,R1,R2,R3,h1,h2,hz,C.q,C.r,rzZ,γ,δ,ε,ζ,η]));all_goals clear zz)
     exact fin hz
    ·(have zz:=C.r;(repeat'(first|apply jd<;>intro _|simp(disch:=first|exact Zo|fail) only[ja i0,R1,R2,R3,S1,h1,h2,hz,C.q,C.r,rzZ,γ,δ,ε,ζ,η]));all_goals clear zz)
     exact go2 hz _ (by simp(disch:=decide) only[h12,i0])
   |false=>
    have hz:gap (l.drop (a+d))=0:=by rw[hgap,if_neg (λh=>by rw[h2] at h;exact absurd h.2 dc)];exact h1
    (have zz:=C.r;(repeat'(first|apply jd<;>intro _|simp(disch:=first|exact Zo|fail) only[ja i0,R1,R2,R3,h1,h2,C.q,C.r,rzZ,γ,δ,ε,ζ,η]));all_goals clear zz)
    exact fin hz
  ·have hz:gap (l.drop (a+d))=j7 qK (l.drop (a+d)):=by rw[hgap,if_neg (λh=>h1 h.1)]
   rw[<-hz] at h1 R1
   (have zz:=C.r;(repeat'(first|apply jd<;>intro _|simp(disch:=first|exact Zo|fail) only[ja i0,R1,R2,R3,S1,h1,C.q,C.r,rzZ,γ,δ,ε,ζ,η]));all_goals clear zz)
   exact go2 h1 _ (by simp(disch:=decide) only[h12,i0])
 ·refine⟨0,om,rfl,?_,by rw[Qab,QaV],?_⟩
  ·exact Cl.new st0 (cC l a p)
  ·simp(disch:=decide) only[h12]
def PI (base:Bs):Prop:=∀ (s:List Nat) (st:St),wt s->s.length<=281474976710656->(s.length<=7->base.run 123 [.str s,.int .i64 10,.int .i64 64] st=.ok (.tup [.int .i64 (yG s:Int),.nilif]) st)/\(7<s.length->base.run 123 [.str s,.int .i64 10,.int .i64 64] st=.ok (.tup [.bad,.bad]) st)
theorem jjf (s:St)(K:AV->St->Prop):jl (Zl θ .neq 177 true .nilif .nilif s) K=K (.bool false) s:=by
 have:Zl θ .neq 177 true .nilif .nilif s=.ok (.bool false) s:=by kernel_rfl
 rw[this];rfl
theorem FzD.nx {s:St}{t:Tk}{e e':Int}{cs:List AV}(h1:cs=t.cells)(h2:e'=e):FzD 1 9000009 s (.tup [.agg cs,.int .i64 e']) (.tup [.agg t.cells,.int .i64 e]):=by
 subst h1 h2;exact FzD.tup (.cons (.agg (.pc rfl)) (.pc rfl))
theorem jje (hb:NB base)(hP:PI base){l:List Nat}{a e n:Nat}{t:Tk}{p:Nat×Nat}(ha:a<=l.length)(hl:l.length<=1048576)(hp1:p.1<=1073741824)(hp2:p.2<=1073741824)(hp3:1<=p.2)(h:qu (l.drop a) p=(e,t,n)) :
  Met θ base 75 (cC l a p) [] (.ok (.tup [.agg t.cells,.int .i64 (e:Int)])) (cC l (a+n) (jD p ((l.drop a).take n))):=by
 refine PM.met ?_ rfl λp st=>hb.no 75 dc _ _;refine jC x75 (by rfl) (hb.pur 75 3 dc) rfl ?_;simp only[y75,jn,ν,ξ,τ,υ];rw[(by unfold z75;simp only[qq];rfl:z75=_)];have hrl:(l.drop a).length=l.length - a:=Qan;have S:=λ(n:Nat) (h:a+n<=l.length)=>@jcC base hb l a n p h om hp1 hp2 hp3;have C0:Cl (nw st0 (cC l a p)) 0 (cC l a p):=Cl.new st0 _;unfold cC at *;generalize hr:l.drop a=r at *;have hL:=WC hb;have hD:=jal hb;have hI:=H4 hb;have hR:=Va hb r om hI;have hR2:=Va hb r om hD;have hK:=jd2 hb;have hS:=jiX hb r om;have l1:=Qk qE r;have l2:=Qk jy r;have l3:=Wu r;have S1:=λst q=>@S (j7 qE r) om st q;have S2:=λst q=>@S (j7 jy r) om st q;have S3:=λst q=>@S (Qg r) om st q;clear S;rcases r with _|⟨x,r'⟩
 ·simp only[qu,Prod.mk.injEq] at h;repeat'(first|apply jd<;>intro _|simp(disch:=first|exact dzA|fail) only[hr,rzZ,γ,δ,ε,ζ,η])
  obtain⟨rfl,rfl,rfl⟩:=h;refine G1.done (c':=[_,_,_,_]) ?_ rfl rfl (FzD.tup (.cons (.agg (.pc rfl)) (.pc rfl)));simp(disch:=first|assumption|decide|omega|(simp only[jf,je,jh,jg,ji,qW,χ,ψ];first|done|omega)) only[jv,jA,jz];exact C0
 ·have e0:x :: r'≠[]:=by simp
  have e1:(0:Int)<((x :: r').length:Int):=by simp
  have P0:jy x=true->wt ((x :: r').take (j7 jy (x :: r'))):=λh=>Hk h;have P1:jy x=true->j7 jy (x :: r')<=7->∀ st K Kp,XB θ base 123 [.str ((x :: r').take (j7 jy (x :: r'))),.int .i64 10,.int .i64 64] st K Kp=K (.tup [.int .i64 (yG ((x :: r').take (j7 jy (x :: r'))):Int),.nilif]) st:=λh h7 st K Kp=>by
   have e:((x :: r').take (j7 jy (x :: r'))).length<=7:=by rw[Qav];omega
   exact Ue ((hP _ st (P0 h) om).1 e) K Kp
  have P2:jy x=true->7<j7 jy (x :: r')->∀ st K Kp,XB θ base 123 [.str ((x :: r').take (j7 jy (x :: r'))),.int .i64 10,.int .i64 64] st K Kp=K (.tup [.bad,.bad]) st:=λh h7 st K Kp=>by
   have e:((x :: r').take (j7 jy (x :: r'))).length=j7 jy (x :: r'):=by rw[Qav];omega
   exact Ue ((hP _ st (P0 h) om).2 om) K Kp
  unfold qu at h;simp only at h;generalize j7 qE (x :: r')=n1 at *;generalize j7 jy (x :: r')=n2 at *;generalize Qg (x :: r')=n3 at *;by_cases c1:qg x=true
  ·rw[if_pos c1] at h
   (have zz:=aI @jv (aI @jA @C0);(repeat'(first|apply jd<;>intro _|simp(disch:=first|exact Zo|fail) only[hr,e0,e1,hL,hR,hK,S1,jv,jA,c1,jv,jA,C0,rzZ,γ,δ,ε,ζ,η]));all_goals clear zz)
   all_goals((first|rw[if_pos om] at h|rw[if_neg om] at h);(first|rw[if_pos (by assumption)] at h|rw[if_neg (by assumption)] at h|skip);simp only[Prod.mk.injEq] at h;obtain⟨rfl,rfl,rfl⟩:=h;refine G1.done (c':=[_,_,_,_]) ?_ rfl rfl (FzD.nx rfl rfl);simp(disch:=first|assumption|decide|omega|(simp only[jf,je,jh,jg,ji,qW,χ,ψ];first|done|omega)) only[jv,jA,jz];first|exact C0|(refine Cl.wr0 (c:=[.str l,.int .i64 (a:Int),.int .i64 (p.1:Int),.int .i64 (p.2:Int)]) ?_ rfl;simp(disch:=first|assumption|decide|omega|(simp only[jf,je,jh,jg,ji,qW,χ,ψ];first|done|omega)) only[jv,jA,jz];exact C0))
  ·rw[if_neg c1] at h;by_cases c2:jy x=true
   ·rw[if_pos c2] at h;by_cases h7:7<n2
    ·repeat'(first|apply jd<;>intro _|simp(disch:=first|exact dzA|fail) only[hr,e0,e1,hL,hD,hR2,P2,c1,c2,rzZ,γ,δ,ε,ζ,η])
     all_goals((first|rw[if_pos om] at h|rw[if_neg om] at h);(first|rw[if_pos (by assumption)] at h|rw[if_neg (by assumption)] at h|skip);simp only[Prod.mk.injEq] at h;obtain⟨rfl,rfl,rfl⟩:=h;refine G1.done (c':=[_,_,_,_]) ?_ rfl rfl (FzD.nx rfl rfl);simp(disch:=first|assumption|decide|omega|(simp only[jf,je,jh,jg,ji,qW,χ,ψ];first|done|omega)) only[jv,jA,jz];first|exact C0|(refine Cl.wr0 (c:=[.str l,.int .i64 (a:Int),.int .i64 (p.1:Int),.int .i64 (p.2:Int)]) ?_ rfl;simp(disch:=first|assumption|decide|omega|(simp only[jf,je,jh,jg,ji,qW,χ,ψ];first|done|omega)) only[jv,jA,jz];exact C0))
    ·(have zz:=aI @jv (aI @jA @C0);(repeat'(first|apply jd<;>intro _|simp(disch:=first|exact Zo|fail) only[hr,e0,e1,hL,hD,hR2,P1,S2,c1,c2,jjf,jv,jA,C0,rzZ,γ,δ,ε,ζ,η]));all_goals clear zz)
     all_goals((first|rw[if_pos om] at h|rw[if_neg om] at h);(first|rw[if_pos (by assumption)] at h|rw[if_neg (by assumption)] at h|skip);simp only[Prod.mk.injEq] at h;obtain⟨rfl,rfl,rfl⟩:=h;refine G1.done (c':=[_,_,_,_]) ?_ rfl rfl (FzD.nx rfl rfl);simp(disch:=first|assumption|decide|omega|(simp only[jf,je,jh,jg,ji,qW,χ,ψ];first|done|omega)) only[jv,jA,jz];first|exact C0|(refine Cl.wr0 (c:=[.str l,.int .i64 (a:Int),.int .i64 (p.1:Int),.int .i64 (p.2:Int)]) ?_ rfl;simp(disch:=first|assumption|decide|omega|(simp only[jf,je,jh,jg,ji,qW,χ,ψ];first|done|omega)) only[jv,jA,jz];exact C0))
   ·rw[if_neg c2] at h
    (have zz:=aI @jv (aI @jA @C0);(repeat'(first|apply jd<;>intro _|simp(disch:=first|exact Zo|fail) only[hr,e0,e1,hL,hD,hS,S3,c1,c2,jv,jA,C0,rzZ,γ,δ,ε,ζ,η]));all_goals clear zz)
    all_goals((first|rw[if_pos om] at h|rw[if_neg om] at h);(first|rw[if_pos (by assumption)] at h|rw[if_neg (by assumption)] at h|skip);simp only[Prod.mk.injEq] at h;obtain⟨rfl,rfl,rfl⟩:=h;refine G1.done (c':=[_,_,_,_]) ?_ rfl rfl (FzD.nx rfl rfl);simp(disch:=first|assumption|decide|omega|(simp only[jf,je,jh,jg,ji,qW,χ,ψ];first|done|omega)) only[jv,jA,jz];first|exact C0|(refine Cl.wr0 (c:=[.str l,.int .i64 (a:Int),.int .i64 (p.1:Int),.int .i64 (p.2:Int)]) ?_ rfl;simp(disch:=first|assumption|decide|omega|(simp only[jf,je,jh,jg,ji,qW,χ,ψ];first|done|omega)) only[jv,jA,jz];exact C0))
theorem Tk.cells_l (t:Tk):t.cells.length=5:=nr rfl
theorem Tk.cells_g (t:Tk)(k:Nat):t.cells.getD k .bad=([.int .i64 (t.kind:Int),.str t.text,.int .i64 (t.num:Int),.int .i64 (t.line:Int),.int .i64 (t.col:Int)]:List AV).getD k .bad:=nr rfl
theorem Tk.cells_d (t:Tk)(k:Nat):t.cells.drop k=([.int .i64 (t.kind:Int),.str t.text,.int .i64 (t.num:Int),.int .i64 (t.line:Int),.int .i64 (t.col:Int)]:List AV).drop k:=nr rfl
theorem Tk.cells_p (t:Tk):t.cells.all pc=true:=rfl
theorem Tk.cells_c (t:Tk):lall AV.cell t.cells=true:=nr rfl
theorem Tk.cells_f {st:St}{K:AV->St->Prop}{xs:List Tk}{i:Nat}(h:i<xs.length):jl (Jb 5 (.lptr (fl Tk.cells xs) (i * 5)) st) K=K (.agg (Tk.cells xs[i])) st:=Yq Tk.cells_l h
theorem Tk.cells_f1 {st:St}{K:AV->St->Prop}{xs:List Tk}{i:Nat}(h:i<xs.length){k:Nat}(hk:k<5):jl (zm (.lptr (fl Tk.cells xs) (i * 5+k)) st) K=K ((Tk.cells xs[i]).getD k .bad) st:=zB Tk.cells_l h hk
theorem Tk.cells_f0 {st:St}{K:AV->St->Prop}{xs:List Tk}{i:Nat}(h:i<xs.length):jl (zm (.lptr (fl Tk.cells xs) (i * 5)) st) K=K ((Tk.cells xs[i]).getD 0 .bad) st:=zB (k:=0) Tk.cells_l h dc
theorem Tk.cells_R:type_of% (aI @Tk.cells_l (aI @Tk.cells_g (aI @Tk.cells_d (aI @Tk.cells_c (aI @Tk.cells_f (aI @Tk.cells_f0 @Tk.cells_f1)))))):=aI @Tk.cells_l (aI @Tk.cells_g (aI @Tk.cells_d (aI @Tk.cells_c (aI @Tk.cells_f (aI @Tk.cells_f0 @Tk.cells_f1)))))
theorem Tk.cells_E:type_of% (aI @Tk.cells_l (aI @Tk.cells_c @Tk.cells_g)):=aI @Tk.cells_l (aI @Tk.cells_c @Tk.cells_g)
theorem dzC {p:Prop}(h:p:=by first|assumption|decide|omega|(simp only[Tk.cells_E,rzN,χ,ψ];first|done|omega)|(apply Jh<;>first|omega|((simp(disch:=first|assumption|omega|(simp only[Tk.cells_E,rzN,χ,ψ];first|done|omega)) only[rzL,χ,ψ,Qab,γ,Tk.cells_E ])<;>first|done|omega))|(simp(disch:=first|assumption|omega|(simp only[Tk.cells_E,rzN,χ,ψ];first|done|omega)) only[Tk.cells_E,rzG,τ,υ,δ,QaH,χ,ψ,Qay,QaG];first|done|omega|decide)):p:=h
theorem cyC {p:Prop}(h:p:=by apply Jh<;>first|omega|((simp(disch:=first|assumption|omega|(simp only[Tk.cells_E,rzN,χ,ψ];first|done|omega)) only[rzL,χ,ψ,Qab,γ,Tk.cells_E])<;>first|done|rfl|omega|(simp;done)|(simp;omega))):p:=h
theorem Js {p:Prop}(h:p:=by first|assumption|decide|omega|(simp only[Tk.cells_E,zz,rzN,χ,ψ];first|done|omega)|(apply Jh<;>first|omega|((simp(disch:=first|assumption|omega|(simp only[Tk.cells_E,zz,rzN,χ,ψ];first|done|omega)) only[rzL,χ,ψ,Qab,γ,Tk.cells_E,zz ])<;>first|done|omega))|(simp(disch:=first|assumption|omega|(simp only[Tk.cells_E,zz,rzN,χ,ψ];first|done|omega)) only[Tk.cells_E,zz,rzG,τ,υ,δ,QaH,χ,ψ,Qay,QaG];first|done|omega|decide)):p:=h
theorem jbG {p:Prop}(h:p:=by apply Jh<;>first|omega|((simp(disch:=first|assumption|omega|(simp only[Tk.cells_E,zz,rzN,χ,ψ];first|done|omega)) only[rzL,χ,ψ,Qab,γ,Tk.cells_E,zz])<;>first|done|rfl|omega|(simp;done)|(simp;omega))):p:=h
def zg (q:Nat×Nat×Nat):List AV:=[.int .i64 (q.1:Int),.int .i64 (q.2.1:Int),.int .i64 (q.2.2:Int)]
theorem je9 {r:List Nat}{p:Nat×Nat}{e n:Nat}{t:Tk}(h:qu r p=(e,t,n)):t.line=p.1/\t.col=p.2:=by
 cases r with
 |nil=>simp[qu] at h;rw[<-h.2.1];exact⟨rfl,rfl⟩
 |cons x r'=>
  unfold qu at h;simp only at h;split at h
  ·split at h<;>(simp only[Prod.mk.injEq] at h;rw[<-h.2.1];exact⟨rfl,rfl⟩)
  ·split at h
   ·split at h<;>(simp only[Prod.mk.injEq] at h;rw[<-h.2.1];exact⟨rfl,rfl⟩)
   ·split at h<;>(simp only[Prod.mk.injEq] at h;rw[<-h.2.1];exact⟨rfl,rfl⟩)
theorem jkP (hb:NB base)(hP:PI base)(l:List Nat)(hl:l.length<=9223372036854775807):Tot base 35 [.str l] (.tup [.lst (qc l).1.length (fl Tk.cells (qc l).1),.agg (zg (qc l).2)]):=by
 refine hb.tot ?_ rfl rfl;refine jT x35 (by rfl) (hb.pur 35 1 dc) ?_;simp only[y35,jn,ν,ξ,τ,υ];rw[(by unfold z35;simp only[qq];rfl:z35=_)];repeat'(first|apply jd<;>intro _|simp(disch:=first|exact dzC|fail) only[Tk.cells_R,rzZ,γ,δ,ε,ζ,η])
 ·rw[show qc l=([],(132,1,1)) from if_pos om];exact FzD.tup (.cons .nils (.cons (.agg (.pc (by rfl))) .nil))
 ·have hl:l.length<=65536:=om
  rw[show qc l=qG l (1,1) from if_neg om];refine qB (λmm L s=>∃ (a:Nat) (p:Nat×Nat) (acc:List Tk) (v:AV),a<=l.length/\mm=l.length - a/\p.1+(l.length - a)<=l.length+1/\p.2+(l.length - a)<=l.length+1/\1<=p.2/\acc.length<=a/\ahead acc (qG (l.drop a) p)=qG l (1,1)/\2<=s.nx/\Cl s 0 [.int .i64 0,.int .i64 0,.int .i64 0]/\Cl s 1 (cC l a p)/\Lv 2 s.nx s v acc.length (fl Tk.cells acc) 5/\Has L 3 (.ptr 0 0)/\Has L 4 (.ptr 1 0)/\Has L 5 v) ?_ l.length ?_
  ·rintro mm L s ⟨a,p,acc,v,ha,rfl,h1,h2,h3,h4,h5,h6,C0,C1,V,i3,i4,i5⟩;obtain⟨m,hm⟩:∃ m,m=s.nx:=⟨_,rfl⟩;rw[<-hm] at V;have hm':m<=s.nx:=QaA hm;have hgl:=YY (l.drop a);rw[Qan] at hgl;have W:=Y4 ((l.drop a).take (jH (l.drop a))) p h3;have hlt:((l.drop a).take (jH (l.drop a))).length=jH (l.drop a):=by rw[Qav,Qan];omega
   rw[hlt] at W;have B:=λst q=>@jfA base hb l a p ha om om h3 om st q;rcases hx:qu ((l.drop a).drop (jH (l.drop a))) (jD p ((l.drop a).take (jH (l.drop a)))) with ⟨e,t,n⟩
   have hN:=hx;rw[QaX] at hN;have hnl:=Zd hN;rw[Qan] at hnl;have N:=λst q=>@jje base hb hP l (a+jH (l.drop a)) e n t (jD p ((l.drop a).take (jH (l.drop a)))) om om om om W.2.2 hN st q;have B1:=λK Kp=>B s 1 C1 K Kp;have N1:=λK Kp=>N (wr s 1 0 (cC l (a+jH (l.drop a)) (jD p ((l.drop a).take (jH (l.drop a)))))) 1 (C1.wr0 rfl) K Kp;clear B N;have hT:t.line=(jD p ((l.drop a).take (jH (l.drop a)))).1/\t.col=(jD p ((l.drop a).take (jH (l.drop a)))).2:=je9 hN;generalize hq:jD p ((l.drop a).take (jH (l.drop a)))=q at *;generalize hg:jH (l.drop a)=g at *;have aE:=λ(he:e≠0)=>kZ (acc:=acc) (by rw[hg,hq];exact hx) he;have W2:=Y4 ((l.drop (a+g)).take n) q W.2.2;have hlt2:((l.drop (a+g)).take n).length=n:=by rw[Qav,Qan];omega
   rw[hlt2] at W2;have A:=λst bv xc xx K h hv=>@Qr 2 m acc.length 5 st v (fl Tk.cells acc) K 48 bv xc xx h dc om om hv;have V2:∀ st m',Lv 2 m st v acc.length (fl Tk.cells acc) 5->2<=st.nx->m'=st.nx+1->Lv 2 m' (aps v st t.cells) (apv 5 v st) (acc ++ [t]).length (fl Tk.cells (acc ++ [t])) 5:=λst m' h h2 h3=>by
    rw[Qag,Jp,zu];exact h.put (Tk.cells_l t) h2 h3
   unfold cC at *;by_cases he:e=0
   ·subst he;have hk:=wT hN;by_cases hn:n=0
    ·subst hn;have k5:t.kind=5:=hk.1.2 rfl
     (have zz:=aI V.ln (aI @jp (aI @jt (aI @V (aI C0.r C1.r))));(repeat'(first|apply jd<;>intro _|simp(disch:=first|exact Js|fail) only[ja i3,ja i4,ja i5,B1,N1,A,V.at,C0.q,C1.q,V.ln,jp,jt,V,C0.r,C1.r,Tk.cells_R,rzZ,γ,δ,ε,ζ,η]));all_goals clear zz)
     rw[<-h5,k7 (by rw[hg,hq];exact hx)];refine FzD.tup (.cons ((?_:Lv 2 (s.nx+3) _ _ _ _ 5).fz (Qaf _) (JH Tk.cells_p _)) (.cons (.agg (.pc (by rfl))) .nil));simp(disch:=first|decide|omega) only[jE,jp];refine V2 _ _ ?_ (by simp only[jf,je];omega) (by simp only[jf,je]);simp(disch:=first|decide|omega|(simp only[jf,je];omega)) only[jE,jp,jt];exact V
    ·have k5:¬ (t.kind:Int)=5:=λh=>hn (hk.1.1 om)
     (have zz:=aI V.ln (aI @jp (aI @jt (aI @V (aI C0.r C1.r))));(repeat'(first|apply jd<;>intro _|simp(disch:=first|exact Js|fail) only[ja i3,ja i4,ja i5,B1,N1,A,V.at,C0.q,C1.q,V.ln,jp,jt,V,C0.r,C1.r,Tk.cells_R,rzZ,γ,δ,ε,ζ,η]));all_goals clear zz)
     have hA:=V7 (acc:=acc) (show qu ((l.drop a).drop (jH (l.drop a))) (jD p ((l.drop a).take (jH (l.drop a))))=(0,t,n) by rw[hg,hq];exact hx) hn;rw[hg,hq] at hA;simp only[QaX,<-Qbt] at hA;refine⟨l.length - (a+g+n),om,a+g+n,jD q ((l.drop (a+g)).take n),acc ++ [t],?_,om,rfl,om,om,W2.2.2,by rw[Qag,List.length_singleton];omega,by rw[<-h5,hA],om,?_,?_,?_,?_,?_,?_⟩;rotate_left
     ·simp(disch:=first|decide|omega|(simp only[jf,je];omega)) only[V.cl,jv,jA];exact C0
     ·simp(disch:=first|decide|omega|(simp only[jf,je];omega)) only[V.cl,jv,jA];exact(C1.wr0 (by rfl)).wr0 (by rfl)
     ·refine V2 _ _ ?_ ?_ ?_;all_goals first|(simp only[jf,je];done)|(simp only[jf,je];omega)|(simp(disch:=first|decide|omega|(simp only[jf,je];omega)) only[jE,jp,jt];exact V)
     ·simp(disch:=decide) only[h12,i3]
     ·simp(disch:=decide) only[h12,i4]
     ·simp(disch:=decide) only[h12]
   ·(have zz:=aI V.ln (aI @jp (aI @jt (aI @V (aI C0.r C1.r))));(repeat'(first|apply jd<;>intro _|simp(disch:=first|exact Js|fail) only[ja i3,ja i4,ja i5,B1,N1,A,V.at,C0.q,C1.q,V.ln,jp,jt,V,C0.r,C1.r,Tk.cells_R,rzZ,γ,δ,ε,ζ,η]));all_goals clear zz)
    rw[<-h5,aE he];exact FzD.tup (.cons .nils (.cons (.agg (.pc (by rfl))) .nil))
  ·refine⟨0,(1,1),[],.nils,om,rfl,om,om,φ _,Qaf _,kY _ _,φ _,?_,?_,Lv.nil,?_⟩
   ·simp(disch:=first|assumption|decide|omega|(simp only[jf,je,jh,jg,ji,qW,χ,ψ];first|done|omega)) only[jv,jA,jz];exact Cl.new st0 _
   ·exact Cl.new (nw st0 _) _
   ·simp(disch:=decide) only[h12]
def jem:XC:=(T4 [TR 2 0,LG] [LA 5 2,o5 6 5,LB 7 6 3,oK 8 7,Tm 9 8 0 2,Tq 10 8 9,Pm 11 8 .eql 10 4,Pl 12 8 11,oK 13 12,TM 14 13 1,LP 15 13 1 2,LQ 16 13 15,Pn 17 13 154 [14,16],Tl 18 13 17 IZ,oL 4 18])
def jik:XF:=⟨[0,1],jem,[(.t 4)]⟩
theorem jk8:jF θ 125=some jik:=by kernel_rfl
def jei:XC:=(Py [TR 3 0,TR 4 1,TR 5 2,LX 6 oR oR oW oR oR] (TT [Lj 7 14] 0 (Pi [oK 8 7,Lk 9 .lss 8 31] 9 0 (TJ 1 (Lq [TC (oK 12 7),(LE 13 160 12 0 [],some [L5 13 0,OO (La 14 3) 0,O6 (o5 15 14) 14 9 [(1,0)],OO (Oo 16 Ty) 0]),TK 14 1 3,Lc 15 14 14 9 [(1,0)],TC (oI 16 (Pq 13 15))] (Pb 16 [oK 17 7,LJ 18 4,LJ 19 5,Tp 20 2 6 (LV oR oR oW oR oR) [((0,6),18),((6,6),19)],oU 21 3 3,o5 22 21,oU 23 4 3,o5 24 23,To 25 (LV oR oR oW oR oR) [((0,1),17),((3,1),20),((4,1),22),((5,1),24)],IU 6 6 25] .skip)) [oK 10 7,Tv 11 10 1,oL 7 11]))) [To 26 (LV oR oR oW oR oR) [],IU 6 6 26])
def jig:XF:=⟨[0,1,2],jei,[(.cA 6 6)]⟩
theorem jk4:jF θ 134=some jig:=by kernel_rfl
def z94:XC:=(T4 [Oo 0 .nils] [Tp 1 1 1 [oW] [TG 0 [60,45,62]],To 2 [.nils,oR] [((0,1),1),((1,1),.c oR)],Tp 3 1 1 [oW] [TG 0 [45,62]],To 4 [.nils,oR] [((0,1),3),((1,1),TW 1)],Tp 5 1 1 [oW] [T6 0 124],To 6 [.nils,oR] [((0,1),5),((1,1),.c oR)],Tp 7 1 1 [oW] [T6 0 38],To 8 [.nils,oR] [((0,1),7),((1,1),.c oR)],Tp 9 4 1 [oW] [T6 0 85,T6 1 82,T6 2 83,T6 3 84],To 10 [.nils,oR] [((0,1),9),((1,1),TW 1)],Tp 11 6 1 [oW] [T6 0 61,TG 1 [33,61],T6 2 60,TG 3 [60,61],T6 4 62,TG 5 [62,61]],To 12 [.nils,oR] [((0,1),11),((1,1),TW 2)],Tp 13 2 1 [oW] [T6 0 43,T6 1 45],To 14 [.nils,oR] [((0,1),13),((1,1),.c oR)],Tp 15 1 1 [oW] [T6 0 42],To 16 [.nils,oR] [((0,1),15),((1,1),.c oR)],Tp 17 8 2 [.nils,oR] [((0,2),2),((2,2),4),((4,2),6),((6,2),8),((8,2),10),((10,2),12),((12,2),14),((14,2),16)],oL 0 17])
def y94:XF:=⟨[],z94,[(.t 0)]⟩
theorem x94:jF θ 94=some y94:=by kernel_rfl
def z77:XC:=(oF [TR 3 1] (Lf [Tb 4,Lk 5 .geq 4 32] 5 [IX 6 5 3,TN 7 50 6]))
def y77:XF:=⟨[0,1],z77,[]⟩
theorem x77:jF θ 77=some y77:=by kernel_rfl
def z50:XC:=(oF [TR 1 0] (.ops [oU 2 3 1,o5 3 2,oU 4 4 1,o5 5 4,To 6 [oR,oR,oR] [((0,1),TW 151),((1,1),3),((2,1),5)],oD 7 (.iface 30 6),II (.pan 7)]))
def y50:XF:=⟨[0],z50,[]⟩
theorem x50:jF θ 50=some y50:=by kernel_rfl
def z49:XC:=(Ob [IY 2 [oR,oW,oR,oR,oR]] (.cops [Tr (Tb 3),Tr (O0 4 3),Tr (LA 5 4),LC 6 5,Tr (Tb 7),Tr (O0 8 7),Tr (La 9 8),LC 10 9,Tr (Tj 11 5 6 10),Tr (IX 12 5 11),Tr (IU 5 2 12)]) .ret)
def y49:XF:=⟨[0],z49,[(.cA 2 5)]⟩
theorem x49:jF θ 49=some y49:=by kernel_rfl
def z76:XC:=(T0 [IY 4 [oR,oW,oR,oR,oR],TV 5] (Px 7 8 49 7 6 [oR,oW,oR,oR,oR] 5 6 8) (Tw [IX 9 5 6,oK 10 1,Ls 11 125 9 10,LH 12 11] 12 [IX 13 5 6,IU 5 4 13,TV 5]) (T4 [Tb 14,O0 15 14,La 16 15,o5 17 16,Tv 18 17 1,O0 19 14,La 20 19,L9 20 18] [IX 21 5 6,IU 5 4 21,oL 5 O5]))
def y76:XF:=⟨[0,1],z76,[(.cA 4 5),(.t 5)]⟩
theorem x76:jF θ 76=some y76:=by kernel_rfl
def V9:XC:=(oF [Tb 7,oK 8 1,Tp 9 1 1 [oW] [((0,1),8)],Ls 10 76 7 9,oK 6 10,TI 11 6 0,TI 12 6 1,IY 4 [oR,oW,oR,oR,oR],IU 5 4 11,oL 5 12] (Lf [oK 13 5,LH 14 13] 14 [IX 15 5 4,TN 16 50 15]))
def jeC:XF:=⟨[0,1],V9,[]⟩
theorem jiA:jF θ 127=some jeC:=by kernel_rfl
def ga:XC:=(T0 [IY 2 [oR,oW,oR,oR,oR]] (Px 4 5 49 4 3 [oR,oW,oR,oR,oR] 5 3 5) (Lf [LA 6 3,o5 7 6,Lk 8 .neq 7 1] 8 [IX 9 5 3,TN 10 50 9]) (T4 [Tb 11,O0 12 11,La 13 12,o5 14 13,Tv 15 14 1,O0 16 11,La 17 16,L9 17 15] [IX 18 5 3,IU 5 2 18]))
def jeD:XF:=⟨[0],ga,[(.cA 2 5)]⟩
theorem jiB:jF θ 126=some jeD:=by kernel_rfl
def wy:XC:=(oF [T9 2] (T0 [Tb 7,Tp 8 1 1 [oW] [T6 0 45],Ls 9 76 7 8,oK 6 9,TI 10 6 0,TI 11 6 1,oD 3 (.alloc [oR,oW,oR,oR,oR]),IU 5 3 10,oL 4 11] (Px 12 13 49 12 5 [oR,oW,oR,oR,oR] 5 5 13) (Lf [LA 14 5,o5 15 14,Lk 16 .neq 15 2] 16 [IX 17 5 5,TN 18 50 17]) (Py [Tb 19,O0 20 19,La 21 20,o5 22 21,Tv 23 22 1,O0 24 19,La 25 24,L9 25 23] (Tw [oL 26 4] 26 [oU 27 2 5,o5 28 27,oD 29 (.un .neg 28),L8 29]) [oU 30 2 5,o5 31 30,L8 31])))
def gb:XF:=⟨[0],wy,[(.t 2)]⟩
theorem jaK:jF θ 128=some gb:=by kernel_rfl
def K7:XC:=(oF [Tb 2,O0 3 2,oU 4 2 3,o5 5 4,Tv 6 5 1,O0 7 2,oU 8 2 7,L9 8 6] (Lf [Tb 9,O0 10 9,oU 11 2 10,o5 12 11,Lk 13 .gtr 12 60] 13 [Tb 14,TN 15 49 14,TN 16 50 15]))
def jez:XF:=⟨[0],K7,[]⟩
theorem jix:jF θ 159=some jez:=by kernel_rfl
def Jz:XC:=(oF [LX 2 oR oR oW oR oR] (T0 (Px 5 6 49 5 3 [oR,oW,oR,oR,oR] 5 3 6) [oU 7 3 3,o5 8 7,oU 9 4 3,o5 10 9,To 11 (LV oR oR oW oR oR) [((4,1),8),((5,1),10)],LX 4 oR oR oW oR oR,IU 6 4 11] (.block 0 (Ie [LA 15 3,o5 16 15,LB 17 16 2,oL 14 17] 14 (.dops [TK 18 2 3,Lc 19 18 18 2 [],TK 20 0 4,LD 1 20 (TW 1) 0 [(1,2)],TK 21 1 4,LD 1 21 19 0 []]) (Ie [LA 23 3,o5 24 23,LB 25 24 1,oL 22 25] 22 (.dops [TK 26 1 3,Lc 27 26 26 9 [],TK 28 0 4,LD 1 28 (TW 3) 0 [(1,9)],TK 29 2 4,LD 1 29 27 0 []]) (Ie [IX 31 5 3,Tp 32 1 1 [oW] [TG 0 [116,114,117,101]],Ls 33 125 31 32,oL 30 33] 30 (.ops [LA 34 4,L9 34 (TW 2),La 35 4,L9 35 (TW 1)]) (Ie [IX 37 5 3,Tp 38 1 1 [oW] [TG 0 [102,97,108,115,101]],Ls 39 125 37 38,oL 36 39] 36 (.ops [LA 40 4,L9 40 (TW 2)]) (Ie [IX 42 5 3,Tp 43 1 1 [oW] [T6 0 40],Ls 44 125 42 43,oL 41 44] 41 (Po [Tb 45,O0 46 45,La 47 46,o5 48 47,Tv 49 48 1,O0 50 45,La 51 50,L9 51 49] [Tb 52,TN 53 159 52] (Po (Pr 54 (OE 55 94 []) (Ls 56 93 54 55) (IU 6 4 56)) [Tb 57,O0 58 57,oU 59 2 58,o5 60 59,OW 61 .sub 60 1,O0 62 57,oU 63 2 62,L9 63 61] (T4 [Tb 64,LK 65 127 64 [41]] [LJ 66 4,IU 6 2 66]))) (.ops [IX 12 5 3,TN 13 50 12]))))))) (T4 [Tb 67,O0 68 67,La 69 68,o5 70 69,Tv 71 70 1,O0 72 67,La 73 72,L9 73 71] [LJ 74 4,IU 6 2 74])))
def ZR:XF:=⟨[0],Jz,[(.cA 2 6)]⟩
theorem wz:jF θ 158=some ZR:=by kernel_rfl
def Y0:XC:=(T0 [LX 2 oR oR oW oR oR] [Tb 8,Tp 9 9 1 [oW] [T6 0 45,T6 1 33,T6 2 88,T6 3 70,T6 4 71,T6 5 89,T6 6 90,T6 7 79,T6 8 72],Ls 10 76 8 9,oK 7 10,TI 11 7 0,TI 12 7 1,IY 3 [oR,oW,oR,oR,oR],IU 5 3 11,oL 4 12] (Tw [Pe 13,LH 14 13] 14 [Tb 15,TN 16 158 15,IU 6 2 16]) (Po [Tb 17,TN 18 159 17] (Pw 19 20 133 19 (LX 5 oR oR oW oR oR) 6 5 20) (T0 [Tb 21,O0 22 21,oU 23 2 22,o5 24 23,OW 25 .sub 24 1,O0 26 21,oU 27 2 26,L9 27 25] [Lj 6 5] (OH 0 (.seq (Lq [TC (oK 28 6),(LE 29 160 28 0 [],some [L5 29 0,OO (La 30 3) 0,O6 (o5 31 30) 30 9 [(1,0)],OO (Oo 32 Ty) 0]),TK 30 1 3,Lc 31 30 30 9 [(1,0)],TC (oI 32 (.strb .neq 29 31))] (T5 32 0)) (.block 1 (.ops [oK 33 6,Tv 34 33 1,oL 6 34])))) (Oe [oK 35 6,LJ 36 5,Tp 37 1 6 (LV oR oR oW oR oR) [((0,6),36)],oU 38 3 3,o5 39 38,oU 40 4 3,o5 41 40,To 42 (LV oR oR oW oR oR) [((0,1),35),((3,1),37),((4,1),39),((5,1),41)],IU 6 2 42]))))
def Ud:XF:=⟨[0],Y0,[(.cA 2 6)]⟩
theorem gp:jF θ 133=some Ud:=by kernel_rfl
def z93:XC:=(Ob [LX 4 oR oR oW oR oR] (Tw [oK 8 1,Lu 9 8,oI 10 (oZ .eql 9 oR)] 10 [Tb 11,TN 12 133 11,IU 6 4 12]) (TT [Tb 13,oK 14 1,oD 15 (.slS 2 14 (some (TW 1)) none),Ls 16 93 13 15,LX 5 oR oR oW oR oR,IU 6 5 16] 0 (.block 1 (LM [Tb 18,oK 19 1,Tj 20 2 19 (.c oR),LA 21 20,o5 22 21,Ls 23 76 18 22,oK 17 23,TI 24 17 0,TI 25 17 1,IY 6 [oR,oW,oR,oR,oR],IU 5 6 24,oL 7 25] (Tw [oK 26 7,LH 27 26] 27 [LJ 28 5,IU 6 4 28]) (Om [oK 29 1,Tj 30 2 29 (.c oR),La 31 30,o5 32 31,Lk 33 .eql 32 1] 33 (Lq [TB (IX 34 5 6) 6 88 [],TB (LJ 35 5) 5 37 [],TC (Tb 36),TC (oK 37 1),(Ts (Ls 38 93 36 37) 0 [(2,37),(3,88)],TZ),(Ts (OE 39 134 [34,35,38]) 0 [],TZ),LD 6 4 39 0 []] .ret)) (Lq [TB (IX 40 5 6) 6 88 [],TB (LJ 41 5) 5 37 [],TC (Tb 42),TC (oK 43 1),TC (oD 44 (.slS 2 43 (some (TW 1)) none)),(Ts (Ls 45 93 42 44) 0 [(3,37),(4,88)],TZ),(Ts (OE 46 134 [40,41,45]) 0 [],TZ),LD 6 5 46 0 []] (Tw [oK 47 1,Tj 48 2 47 (.c oR),La 49 48,o5 50 49,Lk 51 .eql 50 2] 51 [LJ 52 5,IU 6 4 52]))))))
def y93:XF:=⟨[0,1],z93,[(.cA 4 6)]⟩
theorem x93:jF θ 93=some y93:=by kernel_rfl
def z48:XC:=(oF [LX 2 oR oR oW oR oR] (T0 (Px 5 6 49 5 3 [oR,oW,oR,oR,oR] 5 3 6) [Tb 7,OE 8 94 [],Ls 9 93 7 8,LX 4 oR oR oW oR oR,IU 6 4 9] (Lf [LJ 10 4,TN 11 95 10,LH 12 11] 12 [IX 13 5 3,TN 14 50 13]) (Oe [LJ 15 4,IU 6 2 15])))
def y48:XF:=⟨[0],z48,[(.cA 2 6)]⟩
theorem x48:jF θ 48=some y48:=by kernel_rfl
def jeb:XC:=(T0 [Oo 2 oW] [To 4 [oW,oW,oW,oW,oW,oW,oW,oW,oW,oW,oW,oW,oW,oW,oW,oW,oW,oW,oW,oW,oW,oW,oW,oW,oW,oW] [T6 0 45,T6 1 33,T6 2 88,T6 3 70,T6 4 71,T6 5 89,T6 6 90,T6 7 79,T6 8 72,T6 9 42,T6 10 43,T6 11 45,T6 12 61,TG 13 [33,61],T6 14 60,TG 15 [60,61],T6 16 62,TG 17 [62,61],T6 18 85,T6 19 82,T6 20 83,T6 21 84,T6 22 38,T6 23 124,TG 24 [45,62],TG 25 [60,45,62]],IY 3 [oW,oW,oW,oW,oW,oW,oW,oW,oW,oW,oW,oW,oW,oW,oW,oW,oW,oW,oW,oW,oW,oW,oW,oW,oW,oW],IU 26 3 4] (Tw [Tb 5,OW 6 .lss 5 5,oK 7 6,TO 8 7 0,Pm 9 7 .geq 8 31,Tu 10 7 O5 9] 10 [Oo 2 oW]) (Oe [Tb 11,OW 12 .sub 11 5,oD 13 (.idxA 26 1 3 12),o5 14 13,L8 14]))
def jh9:XF:=⟨[0],jeb,[(.t 2)]⟩
theorem jkX:jF θ 160=some jh9:=by kernel_rfl
def jea:XC:=(Py [T9 2] (.block 0 (Ie [Tb 4,OW 5 .geq 4 5,oK 6 5,TM 7 6 0,TA 8 6 (I0 .leq 7 13),Tl 9 6 8 IZ,oL 3 9] 3 (Oe [Lj 2 1]) (Tw [Tb 11,OW 12 .geq 11 14,oK 13 12,TM 14 13 0,TA 15 13 (I0 .lss 14 31),Tl 16 13 15 IZ,oL 10 16] 10 [Lj 2 2]))) [T9 2])
def jh8:XF:=⟨[0],jea,[(.t 2)]⟩
theorem jkW:jF θ 161=some jh8:=by kernel_rfl
def jd9:XC:=(Py [TR 1 0,Pa] (oF [LA 3 1,Ll 4 3] (.block 0 (Ie (Lb (LB 6 4 1) 5 6) 5 (Oe [La 7 1,o5 8 7,oD 9 (oZ .geq 8 oR),oK 10 9,LP 11 10 1 1,LQ 12 10 11,TA 13 10 (I0 .leq 12 1000000),Tl 14 10 13 IZ,oK 15 14,LP 16 15 2 1,LQ 17 15 16,TA 18 15 (Pq 17 (.c oW)),Tl 19 15 18 IZ,L8 19]) (Ie (Lb (LB 21 4 2) 20 21) 20 (Oe [La 22 1,o5 23 22,oD 24 (oZ .eql 23 oR),oK 25 24,Tm 26 25 1 1,Tq 27 25 26,Pm 28 25 .eql 27 1,Pl 29 25 28,oK 30 29,LP 31 30 2 1,LQ 32 30 31,TA 33 30 (Pq 32 (.c oW)),Tl 34 30 33 IZ,L8 34]) (Ie (Lb (LB 36 4 3) 35 36) 35 (Oe [La 37 1,o5 38 37,oD 39 (oZ .eql 38 oR),oK 40 39,LP 41 40 2 1,LQ 42 40 41,Pn 43 40 179 [42],Tl 44 40 43 IZ,L8 44]) (Tw (Lb (LB 46 4 4) 45 46) 45 [oU 47 2 1,o5 48 47,LR 49 48 (.c oW),L8 49])))))) [La 50 1,o5 51 50,oD 52 (oZ .eql 51 oR),oK 53 52,LP 54 53 2 1,LQ 55 53 54,TA 56 53 (Pq 55 (.c oW)),Tl 57 53 56 IZ,L8 57])
def jh7:XF:=⟨[0],jd9,[(.t 2)]⟩
theorem jkV:jF θ 162=some jh7:=by kernel_rfl
def z95:XC:=(T4 [TR 1 0,Pa] [LJ 3 1,Ls 4 135 3 (TW 60),L8 4])
def y95:XF:=⟨[0],z95,[(.t 2)]⟩
theorem x95:jF θ 95=some y95:=by kernel_rfl
def K9:XC:=(Py [TR 2 0,TR 3 1,LG] (Lq [TK 5 0 2,Lc 6 5 5 3 [],TC (OW 7 .lss 6 1),TC (oK 8 7),TC (Tm 9 8 0 2),TB (Tq 10 8 9) 9 3 [],TC (Pm 11 8 .geq 10 31),TC (Pl 12 8 11),TC (oK 13 12),TB (Tq 14 13 3) 3 3 [],TC (Pm 15 13 .lss 14 1),TC (Pl 16 13 15),TC (oK 17 16),TC (Tm 18 17 3 2),TB (Tq 19 17 18) 18 35 [],TC (Lz 20 17 19),TC (Tm 21 17 0 2),TB (Tq 22 17 21) 21 3 [],(Ts (Ph 23 (Og 17) 161 [22]) 0 [(3,35)],TZ),TC (Ok 24 17 (Li 20 23)),TC (Pl 25 17 24),TC (oK 26 25),TB (Ok 27 26 (.ldA 6 2)) 2 37 [],(Ts (Ph 28 (Og 26) 162 [27]) 0 [],TZ),TC (Ok 29 26 (Tx 28)),TC (Tu 30 26 O5 29)] (Pb 30 [LG] .skip)) [oU 31 3 2,o5 32 31,oD 33 (.fn 164 [3]),Ls 34 163 32 33,oD 35 (Tx 34),oL 4 35])
def jeB:XF:=⟨[0,1],K9,[(.t 4)]⟩
theorem jiz:jF θ 135=some jeB:=by kernel_rfl
def jd7:XC:=(T4 [TR 2 0,TV 3] [LJ 4 2,o5 5 1,OW 6 .sub 5 1,Ls 7 135 4 6,oD 8 (Tx 7),oL 3 8])
def jh5:XF:=⟨[0,1],jd7,[(.t 3)]⟩
theorem jkT:jF θ 164=some jh5:=by kernel_rfl
def jd8:XC:=(T4 [LG] [Tb 5,oK 6 1,Ls 7 180 5 6,oD 8 (oZ .geq 7 oR),oL 4 8])
def jh6:XF:=⟨[0,1],jd8,[(.t 4)]⟩
theorem jkU:jF θ 163=some jh6:=by kernel_rfl
def jd4:XC:=(Py [T9 4] (Lt [Tb 6,TS 7 6,T9 8] 0 [Lg 9 8 7] 9 0 1 (oF (Pg 10 8 5 10) (Tw [oK 11 1,Tb 12,oK 13 5,Tj 14 6 12 13,LJ 15 14,oV 16 true none 11 [15]] 16 (Pg 17 5 4 17))) 18 8 1 8 18) [Lj 4 (-(0+1))])
def jh2:XF:=⟨[0,1],jd4,[(.t 4)]⟩
theorem jkQ:jF θ 180=some jh2:=by kernel_rfl
def jee:XC:=(T4 [LG] [Tb 5,oK 6 1,Ls 7 177 5 6,oD 8 (oZ .geq 7 oR),oL 4 8])
def jic:XF:=⟨[0,1],jee,[(.t 4)]⟩
theorem jk0:jF θ 154=some jic:=by kernel_rfl
def jd6:XC:=(Py [T9 4] (Lt [Tb 6,TS 7 6,T9 8] 0 [Lg 9 8 7] 9 0 1 (oF (Pg 10 8 5 10) (Tw [oK 11 1,Tb 12,oK 13 5,Tj 14 1 12 13,o5 15 14,oI 16 (Pq 11 15)] 16 (Pg 17 5 4 17))) 18 8 1 8 18) [Lj 4 (-(0+1))])
def jh4:XF:=⟨[0,1],jd6,[(.t 4)]⟩
theorem jkS:jF θ 177=some jh4:=by kernel_rfl
def jd5:XC:=(Py [Pa] (Tw [Tb 3,LR 4 3 (.c oW),Pe 5,TO 6 5 0,Ok 7 5 (.lenS 6),Pm 8 5 .gtr 7 32,Pl 9 5 8,oK 10 9,TO 11 10 0,Ok 12 10 (.ixStr 11 (.c oR)),Ph 13 (Og 10) 119 [12],Ok 14 10 (Tx 13),Pl 15 10 14,oK 16 15,TO 17 16 0,Ph 18 (Og 16) 121 [17],Tu 19 16 O5 18] 19 [Pa]) [Tb 20,Ls 21 114 20 (o9 120 []),Tb 22,Pc 23 22,Pf 24 .eql 21 23,L8 24])
def jh3:XF:=⟨[0],jd5,[(.t 2)]⟩
theorem jkR:jF θ 179=some jh3:=by kernel_rfl
theorem dzD {p:Prop}(h:p:=by first|assumption|decide|omega|(simp only[yc,Tk.cells_E,rzN,χ,ψ];first|done|omega)|(apply Jh<;>first|omega|((simp(disch:=first|assumption|omega|(simp only[yc,Tk.cells_E,rzN,χ,ψ];first|done|omega)) only[rzL,χ,ψ,Qab,γ,yc,Tk.cells_E ])<;>first|done|omega))|(simp(disch:=first|assumption|omega|(simp only[yc,Tk.cells_E,rzN,χ,ψ];first|done|omega)) only[yc,Tk.cells_E,rzG,τ,υ,δ,QaH,χ,ψ,Qay,QaG];first|done|omega|decide)):p:=h
theorem cyD {p:Prop}(h:p:=by apply Jh<;>first|omega|((simp(disch:=first|assumption|omega|(simp only[yc,Tk.cells_E,rzN,χ,ψ];first|done|omega)) only[rzL,χ,ψ,Qab,γ,yc,Tk.cells_E])<;>first|done|rfl|omega|(simp;done)|(simp;omega))):p:=h
theorem jK {p:Prop}(h:p:=by first|assumption|decide|omega|(simp only[yc,Tk.cells_E,zz,rzN,χ,ψ];first|done|omega)|(apply Jh<;>first|omega|((simp(disch:=first|assumption|omega|(simp only[yc,Tk.cells_E,zz,rzN,χ,ψ];first|done|omega)) only[rzL,χ,ψ,Qab,γ,yc,Tk.cells_E,zz ])<;>first|done|omega))|(simp(disch:=first|assumption|omega|(simp only[yc,Tk.cells_E,zz,rzN,χ,ψ];first|done|omega)) only[yc,Tk.cells_E,zz,rzG,τ,υ,δ,QaH,χ,ψ,Qay,QaG];first|done|omega|decide)):p:=h
theorem ju {p:Prop}(h:p:=by apply Jh<;>first|omega|((simp(disch:=first|assumption|omega|(simp only[yc,Tk.cells_E,zz,rzN,χ,ψ];first|done|omega)) only[rzL,χ,ψ,Qab,γ,yc,Tk.cells_E,zz])<;>first|done|rfl|omega|(simp;done)|(simp;omega))):p:=h
theorem vyD {p:Prop}(h:p:=by first|exact FzD.u|exact FzD.pa (by rfl)|exact FzD.agg (.pc (by rfl))|exact FzD.tup (.cons (FzD.agg (.pc (by rfl))) (.pc (by rfl)))|exact FzD.iface (FzD.agg (.pc (by rfl)))|exact Gc|(rw[<-qO];exact FzD.agg (.pc (Jc _)))|exact FzD.agg (.pc (by simp only[Jc,Tk.cells_p]))):p:=h
theorem vw {S:List (List Nat)}{k:Nat}(h:k<S.length):(S.map AV.str).getD k .bad=.str S[k]:=by simp[Qac,h]
theorem r6:type_of%(aI @jj (aI @Tk.cells_R @rzZ)):=aI @jj (aI @Tk.cells_R @rzZ)
theorem jkO (hb:NB base)(S:List (List Nat))(hn:S.length<=1000000)(x:List Nat):Tot base 177 [.lst S.length (S.map .str),.str x] (.int .i64 (fi (λy=>decide (x=y)) S)):=by
 refine hb.tot ?_ rfl rfl;refine jT jkS (by rfl) (hb.pur 177 1 dc) ?_;simp only[jh4,jn,ν,ξ,τ,υ];rw[(by unfold jd6;simp only[qq];rfl:jd6=_)];repeat'(first|apply jd<;>intro _|simp(disch:=first|exact dzD|fail) only[r6,γ,δ,ε,ζ,η])
 refine qZ S.length (λk L s=>(∀ j (h1:j<S.length),j<k->decide (x=S[j])=false)/\Has L 0 (.lst S.length (S.map .str))/\Has L 1 (.str x)) (by first|assumption|omega) dc (by simp(disch:=decide) only[jc,jb]) (by simp(disch:=decide) only[jc,jb]) ?_ (λk L s v h=>by simp(disch:=decide) only[jb];exact h) (λk L s v h=>by simp(disch:=decide) only[jb];exact h) (λk L s hk hI hi hn=>?_) (λL s hI=>?_)
 ·refine⟨λj _ hj=>absurd hj (QaM _),?_⟩;simp(disch:=decide) only[h12]
 ·obtain⟨h0,i0,i1⟩:=hI;have hl:(S.map AV.str).length=S.length:=QaN ..;have e:=vw hk
  (have zz:=@hl;(repeat'(first|apply jd<;>intro _|simp(disch:=first|exact jK|fail) only[ja i0,ja i1,ja hi,Z2,e,hl,r6,γ,δ,ε,ζ,η]));all_goals clear zz)
  ·exact G0.v (by rw[KN hk (λj hj=>h0 j om hj) (by simpa using ‹x=S[k]›)]) rfl
  ·refine⟨⟨λj h1 hj=>?_,?_⟩,?_⟩
   ·rcases Qar j k with h|h
    ·simpa using h0 j h1 h
    ·have:j=k:=om
     subst this;simpa using ‹¬ x=S[j]›
   ·simp(disch:=decide) only[h12,i0,i1]
   ·simp(disch:=decide) only[h12,hi,hn]
 ·obtain⟨h0,i0,i1⟩:=hI;repeat'(first|apply jd<;>intro _|simp(disch:=first|exact dzD|fail) only[r6,γ,δ,ε,ζ,η])
  exact G0.v (by rw[KM λj hj=>h0 j hj hj];rfl) rfl
theorem jbo {α:Type}(q:α->Bool):∀ xs:List α,decide (0<=fi q xs)=xs.any q
 |[]=>rfl
 |x :: xs=>by
  have ih:=jbo q xs;by_cases h:q x=true
  ·simp[fi,h]
  ·rw[List.any_cons,<-ih];simp only[fi,h,if_false,Bool.false_or];by_cases h2:fi q xs<0
   ·rw[if_pos h2];simp;omega
   ·rw[if_neg h2];simp;omega
theorem jhT (x:List Nat)(S:List (List Nat)):(S.any λy=>decide (x=y))=decide (x∈S):=by
 induction S with
 |nil=>rfl
 |cons y S ih=>rw[List.any_cons,ih];simp
theorem jj9 (hb:NB base)(S:List (List Nat))(hn:S.length<=1000000)(x:List Nat):Tot base 154 [.lst S.length (S.map .str),.str x] (.bool (decide (x∈S))):=by
 refine hb.tot ?_ rfl rfl;refine jT jk0 (by rfl) (hb.pur 154 1 dc) ?_;simp only[jic,jn,ν,ξ,τ,υ];rw[(by unfold jee;simp only[qq];rfl:jee=_)];repeat'(first|apply jd<;>intro _|simp(disch:=first|exact dzD|fail) only[jkO hb S hn x,r6,γ,δ,ε,ζ,η])
 exact G0.v (by rw[jbo,jhT]) rfl
def isM (t:Tk)(S:List (List Nat)):Bool:=decide (t.kind=3\/t.kind=4) && decide (t.text∈S)
theorem jj4 (hb:NB base)(t:Tk)(S:List (List Nat))(hn:S.length<=1000000):PX θ base 125 [.agg t.cells,.lst S.length (S.map .str)] (.ok (.bool (isM t S))):=by
 refine jT jk8 (by rfl) (hb.pur 125 1 dc) ?_;simp only[jik,jn,ν,ξ,τ,υ];rw[(by unfold jem;simp only[qq];rfl:jem=_)];repeat'(first|apply jd<;>intro _|simp(disch:=first|exact dzD|fail) only[jj9 hb S hn,r6,γ,δ,ε,ζ,η])
 all_goals(refine G0.v ?_ rfl;unfold isM;simp;try omega)
theorem jj3 (hb:NB base)(t:Tk)(S:List (List Nat))(hn:S.length<=1000000):Tot base 125 [.agg t.cells,.lst S.length (S.map .str)] (.bool (isM t S)):=hb.tot (jj4 hb t S hn) rfl rfl
def er (t:Tk):AV:=.iface 30 (.agg [.int .i64 151,.int .i64 (t.line:Int),.int .i64 (t.col:Int)])
theorem G0.er (t:Tk){s:St}:G0 (er t) (.iface 30 (.agg [.int .i64 151,.int .i64 (t.line:Int),.int .i64 (t.col:Int)])) s:=FzD.iface (FzD.agg (.pc rfl))
theorem JN (hb:NB base)(t:Tk):Ret base 50 [.agg t.cells] (.pn (er t)):=by
 refine hb.ret ?_ rfl rfl;refine jT x50 (by rfl) (hb.pur 50 1 dc) ?_;simp only[y50,jn,ν,ξ,τ,υ];rw[(by unfold z50;simp only[qq];rfl:z50=_)];repeat'(first|apply jd<;>intro _|simp(disch:=first|exact dzD|fail) only[r6,γ,δ,ε,ζ,η])
 exact G0.er t
theorem jjn (hb:NB base)(op:Int):Tot base 161 [.int .i64 op] (.int .i64 (if 5<=op/\op<=13 then 1 else if 14<=op/\op<31 then 2 else 0)):=by
 refine hb.tot ?_ rfl rfl;refine jT jkW (by rfl) (hb.pur 161 1 dc) ?_;simp only[jh8,jn,ν,ξ,τ,υ];rw[(by unfold jea;simp only[qq];rfl:jea=_)];repeat'(first|apply jd<;>intro _|simp(disch:=first|exact dzD|fail) only[r6,γ,δ,ε,ζ,η])
 all_goals(refine G0.v ?_ rfl;repeat' split)<;>first|rfl|(exfalso;omega)|(simp_all;done)|(simp;omega)|(simp_all;omega)
def Z8:List (List Nat):=[[45],[33],[88],[70],[71],[89],[90],[79],[72],[42],[43],[45],[61],[33,61],[60],[60,61],[62],[62,61],[85],[82],[83],[84],[38],[124],[45,62],[60,45,62]]
def sgn (op:Int):List Nat:=if 5<=op/\op<31 then Z8.getD (op - 5).toNat [] else []
theorem jd0 (hb:NB base)(op:Int):Tot base 160 [.int .i64 op] (.str (sgn op)):=by
 refine hb.tot ?_ rfl rfl;refine jT jkX (by rfl) (hb.pur 160 1 dc) ?_;simp only[jh9,jn,ν,ξ,τ,υ];rw[(by unfold jeb;simp only[qq];rfl:jeb=_)];repeat'(first|apply jd<;>intro _|simp(disch:=first|exact dzD|fail) only[r6,γ,δ,ε,ζ,η])
 ·exact G0.v (by rw[sgn,if_neg om]) rfl
 ·exact G0.v (by rw[sgn,if_neg om]) rfl
 ·have h26:(op - 5).toNat<Z8.length:=by show(op - 5).toNat<26;omega
  show G0 _ ((Z8.map AV.str).getD _ _) _;rw[QaH,vw h26];exact G0.v (by rw[sgn,if_pos om,Qap,Qaj h26];rfl) rfl
def nm (l:List Nat):Bool:=decide (l≠[]) && decide (l.length<=32) && qg (l.getD 0 0) && !w5 l && decide (j7 qE l=l.length)
theorem jj1 (hb:NB base)(l:List Nat)(hl:l.length<=4611686018427387904):Tot base 179 [.str l] (.bool (nm l)):=by
 refine hb.tot ?_ rfl rfl;have e0:¬ l=[]->0<l.length:=λh=>by cases l<;>simp_all
 refine jT jkR (by rfl) (hb.pur 179 1 dc) ?_;simp only[jh3,jn,ν,ξ,τ,υ];rw[(by unfold jd5;simp only[qq];rfl:jd5=_)];by_cases h:l=[]
 ·subst h;repeat'(first|apply jd<;>intro _|simp(disch:=first|exact dzD|fail) only[r6,γ,δ,ε,ζ,η])
  exact G0.v rfl rfl
 ·have e1:(0:Int)<(l.length:Int):=by have:=e0 h;omega
  repeat'(first|apply jd<;>intro _|simp(disch:=first|exact dzD|fail) only[WC hb,jd2 hb,Va hb l hl (H4 hb),h,e1,r6,γ,δ,ε,ζ,η])
  all_goals(refine G0.v (congrArg AV.bool ?_) rfl;rw[Qax];unfold nm;simp_all<;>omega)
def uL (x:Ex):Bool:=
 if x.op=1 then decide (0<=x.num) && decide (x.num<=1000000) && decide (x.name=[])
 else if x.op=2 then(decide (x.num=0) ||decide (x.num=1)) && decide (x.name=[])
 else if x.op=3 then decide (x.num=0) && nm x.name
 else if x.op=4 then decide (x.name=[])
 else decide (x.num=0) && decide (x.name=[])
theorem jjm (hb:NB base)(x:Ex)(hl:x.name.length<=4611686018427387904):Tot base 162 [.agg (eE x)] (.bool (uL x)):=by
 refine hb.tot ?_ (by first|rfl|simp[pa,pc,Jc,Tk.cells_p]) rfl;refine jT jkV (by rfl) (hb.pur 162 1 dc) ?_;simp only[jh7,jn,ν,ξ,τ,υ];rw[(by unfold jd9;simp only[qq];rfl:jd9=_)];repeat'(first|apply jd<;>intro _|simp(disch:=first|exact dzD|fail) only[jj1 hb _ hl,r6,γ,δ,ε,ζ,η])
 all_goals(refine G0.v ?_ rfl;simp only[uL];simp[*];try omega)
theorem jcI (hb:NB base)(n:Nat)(t:Tk):Ret base 77 [.int .i64 (n:Int),.agg t.cells] (if 32<=n then .pn (er t) else .ok (.tup [])):=by
 refine hb.ret ?_ rfl rfl;refine jT x77 (by rfl) (hb.pur 77 1 dc) ?_;simp only[y77,jn,ν,ξ,τ,υ];rw[(by unfold z77;simp only[qq];rfl:z77=_)];repeat'(first|apply jd<;>intro _|simp(disch:=first|exact dzD|fail) only[JN hb,r6,γ,δ,ε,ζ,η])
 ·rw[if_pos om];exact FzD.iface (FzD.agg (.pc rfl))
 ·rw[if_neg om];exact FzD.u
def J5 (v:List (List Nat)×Nat):List AV:=[.lst v.1.length (v.1.map .str),.int .i64 (v.2:Int)]
def jU:List (List (List Nat)×Nat):=[([[60,45,62]],0),([[45,62]],1),([[124]],0),([[38]],0),([[85],[82],[83],[84]],1),([[61],[33,61],[60],[60,61],[62],[62,61]],2),([[43],[45]],0),([[42]],0)]
theorem hY (hb:NB base):Tot base 94 [] (.lst 8 (fl J5 jU)):=by
 refine hb.tot ?_ rfl rfl;refine jT x94 (by rfl) (hb.pur 94 1 dc) ?_;simp only[y94,jn,ν,ξ,τ,υ];rw[(by unfold z94;simp only[qq];rfl:z94=_)];repeat'(first|apply jd<;>intro _|simp(disch:=first|exact dzD|fail) only[r6,γ,δ,ε,ζ,η])
 exact⟨[8,0,1,2,3,4,5,6,7],by kernel_rfl,λb _=>Qaf _⟩
theorem Ux {m d b cap:Nat}{s:St}{ks:List Ex}{op num l c:Int}{nm:List Nat}{ex:Bool}{cs:List AV}(C:Cl s b cs)(hc:cs=fl eE ks)(hm:m<=b) :
  FzD m (d+4) s (.agg [.int .i64 op,.int .i64 num,.str nm,.slice b 0 ks.length cap 6 ex,.int .i64 l,.int .i64 c]) (.agg (eE (.mk op num nm ks l c))):=by
 subst hc;rw[qO];have hl:=Yh Jr ks;refine FzD.agg (.cons (.pc rfl) (.cons (.pc rfl) (.cons (.pc rfl) (.cons (FzD.slice C.rw_ (QaA hl.symm) hm ?_) (.pc rfl)))));rw[<-hl,Qaw];exact .pc (JH Jc ks)
theorem Gc {m d:Nat}{s:St}{op num l c:Int}{nm:List Nat}:FzD m (d+2) s (.agg [.int .i64 op,.int .i64 num,.str nm,.nils,.int .i64 l,.int .i64 c]) (.agg (eE (.mk op num nm [] l c))):=by
 rw[qO];exact FzD.agg (.cons (.pc rfl) (.cons (.pc rfl) (.cons (.pc rfl) (.cons .nils (.pc rfl)))))
theorem jeK:Go.Ev.isAgg θ 9=some false:=by kernel_rfl
theorem jeJ:Go.Ev.sizeOf θ 9=some 1:=by kernel_rfl
theorem W6 {t:TypeId}{b i:Nat}{cs:List AV}{v:AV}{s:St}(h1:Go.Ev.isAgg θ t=some false)(h2:Go.Ev.sizeOf θ t=some 1)(C:Cl s b cs)(hi:i<cs.length)(hv:cs.getD i .bad=v)(hc:eqs v=true):jW θ t (.ptr b i) v s.h=true:=
 J2 h1 h2 (by rw[C.len];exact hi) ((C.cell i hi).trans hv) hc
section
variable {st:St} {K:AV->St->Prop}
theorem jiN {z vs:List AV}{o:Nat}{a:List AV}(ha:z.take o=a)(h:o+vs.length=z.length):upd z o vs=a ++ vs:=by
 rw[<-Z5 z o vs om,ha,h];simp
theorem uq {cx cy:List AV}{z0 z1 z2 z3 z4 z5:AV}(hx:cx.length=6)(hy:cy.length=6)(hlx:lall AV.cell cx=true)(hly:lall AV.cell cy=true) :
  jl (UQ 2 6 [z0,z1,z2,z3,z4,z5] [((0,6),.agg cx),((6,6),.agg cy)] st) K=K (.slice st.nx 0 2 2 6 true) (nw st (cx ++ cy)):=by
 have e1:upd ([z0,z1,z2,z3,z4,z5] ++ [z0,z1,z2,z3,z4,z5]) 0 cx=cx ++ [z0,z1,z2,z3,z4,z5]:=by
  rw[<-Z5 _ 0 cx (by rw[hx];exact Nat.le_add_left _ _),hx];rfl
 have e2:upd (cx ++ [z0,z1,z2,z3,z4,z5]) 6 cy=cx ++ cy:=jiN (by rw[<-hx,List.take_left]) (by rw[Qag,hx,hy];rfl);rw[jfJ,uB,uB,Vg,Qbj,KZ (v:=.agg cx) rfl hx (Nat.le_add_left 6 6),Q4,e1,KZ (v:=.agg cy) rfl hy (by rw[Qag,hx];exact φ 12),Q4,e2,jbV (by rw[jfg _ _ hlx,hly])]
end
def Jg (text:List Nat):Option Nat:=(Qae 17).find? λi=>decide (sgn ((14+i:Nat):Int)=text)
def yp (t:Tk)(x y:Ex):Ex:=match Jg t.text with
 |some i=>.mk ((14+i:Nat):Int) 0 [] [x,y] t.line t.col
 |none=>.mk 0 0 [] [] 0 0
theorem je6 {text:List Nat}{i:Nat}(hi:i<17)(h:sgn ((14+i:Nat):Int)=text)(hj:∀ j,j<i->sgn ((14+j:Nat):Int)≠text):Jg text=some i:=by
 unfold Jg;rw[List.find?_range_eq_some];exact⟨by simpa using h,by simpa using hi,λj hj'=>by simpa using hj j hj'⟩
theorem je5 {text:List Nat}(hj:∀ j,j<17->sgn ((14+j:Nat):Int)≠text):Jg text=none:=by
 unfold Jg;rw[List.find?_range_eq_none];exact λj hj'=>by simpa using hj j hj'
def zE:List AV:=[.int .i64 0,.int .i64 0,.str [],.nils,.int .i64 0,.int .i64 0]
theorem jku (hb:NB base)(t:Tk)(x y:Ex):Tot base 134 [.agg t.cells,.agg (eE x),.agg (eE y)] (.agg (eE (yp t x y))):=by
 refine hb.tot ?_ (by first|rfl|simp[pa,pc,Jc,Tk.cells_p]) rfl;refine jT jk4 (by rfl) (hb.pur 134 1 dc) ?_;simp only[jig,jn,ν,ξ,τ,υ];rw[(by unfold jei;simp only[qq];rfl:jei=_)];repeat'(first|apply jd<;>intro _|simp(disch:=first|exact dzD|fail) only[r6,γ,δ,ε,ζ,η])
 have hC:=Cl.new st0 t.cells;have hs:jW θ 9 (.ptr 0 1) (.str t.text) (nw (nw (nw (nw st0 t.cells) (eE x)) (eE y)) zE).h=true:=W6 jeK jeJ (((hC.nw _).nw _).nw _) (Qbc (QaR 3)) rfl rfl;unfold zE at hs;refine qB (λmm L s=>∃ i:Nat,i<=17/\mm=17 - i/\s=nw (nw (nw (nw st0 t.cells) (eE x)) (eE y)) zE/\(∀ j,j<i->sgn ((14+j:Nat):Int)≠t.text)/\Has L 3 (.ptr 0 0)/\Has L 4 (.ptr 1 0)/\Has L 5 (.ptr 2 0)/\Has L 6 (.ptr 3 0)/\Has L 7 (.int .i64 ((14+i:Nat):Int))) ?_ 17 ?_
 ·rintro mm L s ⟨i,hi,rfl,rfl,hj,i3,i4,i5,i6,i7⟩;unfold zE;have hS:=jd0 hb ((14+i:Nat):Int);repeat'(first|apply jd<;>intro _|simp(disch:=first|exact dzD|fail) only[ja i3,ja i4,ja i5,ja i6,ja i7,hS,hs,↓uq,r6,γ,δ,ε,ζ,η])
  ·have e:yp t x y=.mk ((14+i:Nat):Int) 0 [] [x,y] t.line t.col:=by unfold yp;rw[je6 om ‹_› hj]
   rw[e];refine Ux (ks:=[x,y]) (cs:=eE x ++ eE y) ?_ (by simp[fl]) (Qaf _);simp(disch:=first|assumption|decide|omega|(simp only[jf,je,jh,jg,ji,qW,χ,ψ];first|done|omega)) only[jv,jA,jz];exact Cl.new _ _
  ·refine⟨17 - (i+1),om,i+1,om,rfl,λj hj'=>?_,?_⟩
   ·by_cases h:j=i
    ·rw[h];assumption
    ·exact hj j om
   ·rw[show((14+(i+1):Nat):Int)=((14+i:Nat):Int)+1 by omega];simp(disch:=decide) only[h12,i3,i4,i5,i6]
  ·have e:yp t x y=.mk 0 0 [] [] 0 0:=by unfold yp;rw[je5 λj hj'=>hj j om]
   rw[e];exact Gc
 ·refine⟨0,om,rfl,rfl,λj hj=>absurd hj (QaM _),?_⟩;rw[show((14+0:Nat):Int)=14 from rfl];simp(disch:=decide) only[h12]
theorem jfP {P:Program}{f:FuncId}{xs:List AV}{st:St}{v:AV}{R:St->Prop}(h:∀ K Kp:AV->St->Prop,(∀ s,R s->K v s)->XB P base f xs st K Kp):∃ s,R s/\∀ K Kp:AV->St->Prop,XB P base f xs st K Kp=K v s:=by
 obtain⟨r,⟨N,D,h1⟩,h4⟩:=h (λv' s'=>v'=v/\R s') (λ_ _=>False) λs hs=>⟨rfl,hs⟩;cases r with
 |no=>exact h4.elim
 |pn v s=>exact h4.elim
 |ok v' s'=>
  obtain⟨rfl,hR⟩:=h4;exact⟨_,hR,λK Kp=>propext ⟨λ⟨r2,⟨N2,D2,h2⟩,h3⟩=>by
   have e1:=h1 (max N N2) (Qak ..) (max D D2) (Qak ..);have e2:=h2 (max N N2) (Qal ..) (max D D2) (Qal ..);rw[e1] at e2;subst e2;exact h3,λh=>⟨_,⟨N,D,h1⟩,h⟩⟩⟩
theorem jhF (hb:NB base)(xs:List Ex)(hn:xs.length<=4611686018427387904)(f:FuncId)(caps:List AV)(q:Ex->Bool){R:St->Prop}(hR:∀ s t:St,R s->R (bk t s))(hR2:∀ s:St,R s->R s.bare)
  (hq:∀ y∈xs,∀ s:St,R s->∃ s',R s'/\∀ K Kp:AV->St->Prop,XB θ base f (.agg (eE y) :: caps) s K Kp=K (.bool (q y)) s') {st:St} (h0:R st) :
  ∃ s',R s'/\∀ K Kp:AV->St->Prop,XB θ base 180 [.lst xs.length (fl eE xs),.fn f caps] st K Kp=K (.int .i64 (fi q xs)) s':=by
 refine jfP λK Kp hK=>?_;refine Q3 jkQ (by rfl) (hb.at0 180 dc dc _ _) ?_;simp only[jh2,jn,ν,ξ,τ,υ];rw[(by unfold jd4;simp only[qq];rfl:jd4=_)];have h0:=hR2 _ h0;have hK:∀ s,R s->K (.int .i64 (fi q xs)) (bk st s):=λs h=>hK _ (hR _ _ h);have hbk:bk st st.bare=st:=rfl;have hbc:back st st.bare=st:=rfl;have hbb:st.bare.bare=st.bare:=rfl;generalize st.bare=s0 at *;repeat'(first|apply jd<;>intro _|simp(disch:=first|exact dzD|fail) only[r6,γ,δ,ε,ζ,η])
 refine qZ xs.length (λk L s=>R s/\(∀ j (h1:j<xs.length),j<k->q xs[j]=false)/\Has L 0 (.lst xs.length (fl eE xs))/\Has L 1 (.fn f caps)) (by first|assumption|omega) dc (by simp(disch:=decide) only[jc,jb]) (by simp(disch:=decide) only[jc,jb]) ?_ (λk L s v h=>by simp(disch:=decide) only[jb];exact h) (λk L s v h=>by simp(disch:=decide) only[jb];exact h) (λk L s hk hI hi hn=>?_) (λL s hI=>?_)
 ·refine⟨h0,λj _ hj=>absurd hj (QaM _),?_⟩;simp(disch:=decide) only[h12]
 ·obtain⟨hs,h0,i0,i1⟩:=hI;obtain⟨s',hs',e⟩:=hq xs[k] (Qam hk) s hs;repeat'(first|apply jd<;>intro _|simp(disch:=first|exact dzD|fail) only[ja i0,ja i1,ja hi,e,r6,γ,δ,ε,ζ,η])
  ·have:=hK _ (hR2 _ hs');rw[KN hk (λj hj=>h0 j om hj) ‹_›] at this;exact this
  ·refine⟨⟨hs',λj h1 hj=>?_,?_⟩,?_⟩
   ·rcases Qar j k with h|h
    ·exact h0 j h1 h
    ·have:j=k:=om
     subst this;simpa using ‹¬ q xs[j]=true›
   ·simp(disch:=decide) only[h12,i0,i1]
   ·simp(disch:=decide) only[h12,hi,hn]
 ·obtain⟨hs,h0,i0,i1⟩:=hI;repeat'(first|apply jd<;>intro _|simp(disch:=first|exact dzD|fail) only[r6,γ,δ,ε,ζ,η])
  have:=hK _ (hR2 _ hs);rw[KM λj hj=>h0 j hj hj] at this;exact this
theorem jjX (hb:NB base)(xs:List Ex)(hn:xs.length<=4611686018427387904)(f:FuncId)(caps:List AV)(q:Ex->Bool){R:St->Prop}(hR:∀ s t:St,R s->R (bk t s))(hR2:∀ s:St,R s->R s.bare)
  (hq:∀ y∈xs,∀ s:St,R s->∃ s',R s'/\∀ K Kp:AV->St->Prop,XB θ base f (.agg (eE y) :: caps) s K Kp=K (.bool (q y)) s') {st:St} (h0:R st) :
  ∃ s',R s'/\∀ K Kp:AV->St->Prop,XB θ base 163 [.lst xs.length (fl eE xs),.fn f caps] st K Kp=K (.bool (xs.any q)) s':=by
 refine jfP λK Kp hK=>?_;refine Q3 jkU (by rfl) (hb.at0 163 dc dc _ _) ?_;simp only[jh6,jn,ν,ξ,τ,υ];rw[(by unfold jd8;simp only[qq];rfl:jd8=_)];have h0:=hR2 _ h0;have hK:∀ s,R s->K (.bool (xs.any q)) (bk st s):=λs h=>hK _ (hR _ _ h);have hbk:bk st st.bare=st:=rfl;have hbc:back st st.bare=st:=rfl;have hbb:st.bare.bare=st.bare:=rfl;generalize st.bare=s0 at *;obtain⟨s',hs',e⟩:=jhF hb xs hn f caps q hR hR2 hq h0;repeat'(first|apply jd<;>intro _|simp(disch:=first|exact dzD|fail) only[e,r6,γ,δ,ε,ζ,η])
 rw[jbo];exact hK _ hs'
def zC:Nat->Ex->Bool
 |0,_=>false
 |d+1,x=>decide (1<=x.op) && decide (x.op<31) && decide ((x.kids.length:Int)=if 5<=x.op/\x.op<=13 then 1 else if 14<=x.op/\x.op<31 then 2 else 0) && uL x && x.kids.all (zC d)
theorem jiQ:Go.Ev.isAgg θ 3=some false:=by kernel_rfl
theorem jiP:Go.Ev.sizeOf θ 3=some 1:=by kernel_rfl
theorem jga:Go.Ev.isAgg θ 35=some false:=by kernel_rfl
theorem jf9:Go.Ev.sizeOf θ 35=some 1:=by kernel_rfl
theorem jf8:Go.Ev.isAgg θ 37=some true:=by kernel_rfl
theorem jf7:Go.Ev.sizeOf θ 37=some 6:=by kernel_rfl
theorem jiY {t:TypeId}{b k:Nat}{cs:List AV}{s:St}(h1:Go.Ev.isAgg θ t=some true)(h2:Go.Ev.sizeOf θ t=some k)(C:Cl s b cs)(hi:cs.length=k)(hk:0<k)(hc:cs.all eqs=true):jW θ t (.ptr b 0) (.agg cs) s.h=true:=
 wa h1 h2 hk (by rw[C.len];omega) (by rw[C.ratsP k 0 om,QaO,<-hi,Qaw]) hc
theorem jlp (hb:NB base){y:Ex}{d b:Nat}{v:Bool}(hd:d<=60)(ih:Tot base 135 [.agg (eE y),.int .i64 (d:Int)] (.bool v)){st:St}(C:Cl st b [.int .i64 ((d+1:Nat):Int)])(K Kp:AV->St->Prop) :
  XB θ base 164 [.agg (eE y),.ptr b 0] st K Kp=K (.bool (!v)) (nw st (eE y)):=by
 refine jaG (λK Kp hK=>?_) K Kp;refine Q3 jkT (by rfl) (hb.at0 164 dc dc _ _) ?_;simp only[jh5,jn,ν,ξ,τ,υ];rw[(by unfold jd7;simp only[qq];rfl:jd7=_)];have hK:K (.bool (!v)) (bk st (nw st.bare (eE y))):=hK;have C:=C.bar;have hbk:bk st st.bare=st:=rfl;have hbc:back st st.bare=st:=rfl;have hbb:st.bare.bare=st.bare:=rfl;generalize st.bare=s0 at *;have L0:=C.lt;have e:((d+1:Nat):Int) - 1=(d:Int):=om
 (have zz:=C.r;(repeat'(first|apply jd<;>intro _|simp(disch:=first|exact jK|fail) only[ih,e,C.q,C.r,r6,γ,δ,ε,ζ,η]));all_goals clear zz)
 exact hK
theorem gI (d:Nat)(x:Ex):zC (d+1) x=(decide (1<=x.op) && decide (x.op<31) && decide ((x.kids.length:Int)=if 5<=x.op/\x.op<=13 then 1 else if 14<=x.op/\x.op<31 then 2 else 0) && uL x && x.kids.all (zC d)):=rfl
theorem jau {α:Type}(p:α->Bool):∀ xs:List α,xs.all p = !(xs.any λx=>!p x)
 |[]=>rfl
 |x :: xs=>by rw[Qaz,List.any_cons,jau p xs];cases p x<;>simp
theorem jhi (hb:NB base):∀ (d:Nat),d<=60->∀ x:Ex,szE x<=BIG->Tot base 135 [.agg (eE x),.int .i64 (d:Int)] (.bool (zC d x)):=by
 intro d;induction d with
 |zero=>
  intro _ x hx;refine hb.tot ?_ (by first|rfl|simp[pa,pc,Jc,Tk.cells_p]) rfl;refine jT jiz (by rfl) (hb.pur 135 1 dc) ?_;simp only[jeB,jn,ν,ξ,τ,υ];rw[(by unfold K9;simp only[qq];rfl:K9=_)];repeat'(first|apply jd<;>intro _|simp(disch:=first|exact dzD|fail) only[r6,γ,δ,ε,ζ,η])
  all_goals exact G0.v rfl rfl
 |succ d ih=>
  intro hd x hx;refine hb.tot ?_ (by first|rfl|simp[pa,pc,Jc,Tk.cells_p]) rfl;refine jT jiz (by rfl) (hb.pur 135 1 dc) ?_;simp only[jeB,jn,ν,ξ,τ,υ];rw[(by unfold K9;simp only[qq];rfl:K9=_)];have hs1:∀ k v,k<6->(eE x).getD k .bad=v->eqs v=true->jW θ 3 (.ptr 0 k) v (nw (nw st0 (eE x)) [.int .i64 ((d+1:Nat):Int)]).h=true:=λk v hk hv hc=>W6 jiQ jiP ((Cl.new st0 (eE x)).nw _) (by rw[Jr];exact hk) hv hc;have hs2:jW θ 35 (.ptr 0 3) (.lst x.kids.length (fl eE x.kids)) (nw (nw st0 (eE x)) [.int .i64 ((d+1:Nat):Int)]).h=true:=W6 jga jf9 ((Cl.new st0 (eE x)).nw _) (by rw[Jr];decide) (GG x 3) rfl;have hs3:jW θ 37 (.ptr 0 0) (.agg (eE x)) (nw (nw st0 (eE x)) [.int .i64 ((d+1:Nat):Int)]).h=true:=jiY jf8 jf7 ((Cl.new st0 (eE x)).nw _) (Jr x) dc (by rw[qO];rfl);have hkl:=QM x.kids;have hsz:=Y8 x;have hB:BIG=1099511627776:=rfl;have hs:=gI d x;obtain⟨s',_,e⟩:=jjX hb x.kids om 164 [.ptr 1 0] (λy=>!zC d y) (R:=λs=>Cl s 1 [.int .i64 ((d+1:Nat):Int)]) (λs t h=>⟨h.lt,h.row,h.len,h.cell⟩) (λs h=>h.bar)
   (λy hy s C=>⟨nw s (eE y),C.nw _,λK Kp=>jlp hb om (ih om y (by
    obtain⟨k,hk,rfl⟩:=List.getElem_of_mem hy;have:=Xt hk;omega)) C K Kp⟩) (Cl.new (nw st0 (eE x)) [.int .i64 ((d+1:Nat):Int)])
  repeat'(first|apply jd<;>intro _|simp(disch:=first|exact dzD|fail) only[jjn hb,jjm hb x om,hs1,hs2,hs3,e,r6,γ,δ,ε,ζ,η])
  ·refine G0.v ?_ rfl;rw[hs];simp;omega
  ·refine G0.v ?_ rfl;rw[hs];simp;omega
  ·refine G0.v ?_ rfl;rw[hs];simp[*]
  ·refine G0.v ?_ rfl;rw[hs];simp[*]
  ·refine G0.v ?_ rfl;rw[hs,jau];first|(simp[*];done)|(simp[*];omega)|(simp;intro _;refine⟨⟨⟨om,om⟩,by simp_all⟩,by simp_all⟩)
theorem jhX (hb:NB base)(x:Ex)(hx:szE x<=BIG):Tot base 95 [.agg (eE x)] (.bool (zC 60 x)):=by
 refine hb.tot ?_ (by first|rfl|simp[pa,pc,Jc,Tk.cells_p]) rfl;refine jT x95 (by rfl) (hb.pur 95 1 dc) ?_;simp only[y95,jn,ν,ξ,τ,υ];rw[(by unfold z95;simp only[qq];rfl:z95=_)];have:Tot base 135 [.agg (eE x),.int .i64 60] (.bool (zC 60 x)):=jhi hb 60 (φ _) x hx;repeat'(first|apply jd<;>intro _|simp(disch:=first|exact dzD|fail) only[this,r6,γ,δ,ε,ζ,η])
 exact G0.v rfl rfl
def tk (ts:List Tk)(i:Nat):Tk:=ts.getD i ⟨0,[],0,0,0⟩
theorem jaP {ts:List Tk}{i:Nat}(h:i<ts.length):ts[i]=tk ts i:=by simp[tk,Qac,h]
def pC (ts:List Tk)(i d:Nat):List AV:=[.lst ts.length (fl Tk.cells ts),.int .i64 (i:Int),.int .i64 (d:Int)]
theorem X4 (hb:NB base){ts:List Tk}{i d:Nat}(hi:i<ts.length):Met θ base 49 (pC ts i d) [] (.ok (.agg (tk ts i).cells)) (pC ts i d):=by
 refine PM.met ?_ rfl λp st=>hb.no 49 dc _ _;refine jC x49 (by rfl) (hb.pur 49 3 dc) rfl ?_;simp only[y49,jn,ν,ξ,τ,υ];rw[(by unfold z49;simp only[qq];rfl:z49=_)];unfold pC;repeat'(first|apply jd<;>intro _|simp(disch:=first|exact dzD|fail) only[hi,r6,γ,δ,ε,ζ,η])
 rw[jaP hi];refine G1.done ?_ rfl rfl (FzD.agg (.pc (by rfl)));simp(disch:=first|assumption|decide|omega|(simp only[jf,je,jh,jg,ji,qW,χ,ψ];first|done|omega)) only[jv,jA,jz];exact Cl.new _ _
theorem QU (S:List (List Nat)):(S.map AV.str).all pc=true:=by induction S with|nil=>rfl|cons x S ih=>simp[pc]
theorem jcy (hb:NB base){ts:List Tk}{i d:Nat}(hi:i<ts.length)(h2:i<=1000000)(S:List (List Nat))(hS:S.length<=1000000) :
  (isM (tk ts i) S=true->PM θ base 76 (pC ts i d) [.lst S.length (S.map .str)] (.ok (.tup [.agg (tk ts i).cells,.bool true])) (pC ts (i+1) d)) /\
  (isM (tk ts i) S=false->PM θ base 76 (pC ts i d) [.lst S.length (S.map .str)] (.ok (.tup [.agg (tk ts i).cells,.bool false])) (pC ts i d)):=by
 have N:=λst p=>@X4 base hb ts i d hi st p;unfold pC at *;constructor<;>intro h
 ·refine jC x76 (by rfl) (hb.pur 76 3 dc) rfl ?_;simp only[y76,jn,ν,ξ,τ,υ];rw[(by unfold z76;simp only[qq];rfl:z76=_)];repeat'(first|apply jd<;>intro _|simp(disch:=first|exact dzD|fail) only[N,jj3 hb (tk ts i) S hS,h,r6,γ,δ,ε,ζ,η])
  (refine G1.done ?_ (by rfl) (by rfl) ?_;(· (first|exact cyD|fail));(· first|exact vyD|skip))
 ·refine jC x76 (by rfl) (hb.pur 76 3 dc) rfl ?_;simp only[y76,jn,ν,ξ,τ,υ];rw[(by unfold z76;simp only[qq];rfl:z76=_)];repeat'(first|apply jd<;>intro _|simp(disch:=first|exact dzD|fail) only[N,jj3 hb (tk ts i) S hS,h,r6,γ,δ,ε,ζ,η])
  (refine G1.done ?_ (by rfl) (by rfl) ?_;(· (first|exact cyD|fail));(· first|exact vyD|skip))
theorem jiW (hb:NB base){ts:List Tk}{i d:Nat}(hi:i<ts.length)(h2:i<=1000000)(S:List (List Nat))(hS:S.length<=1000000){st:St}{p:Nat}(C:Cl st p (pC ts i d))(K Kp:AV->St->Prop) :
  XB θ base 76 [.ptr p 0,.lst S.length (S.map .str)] st K Kp=ifW (isM (tk ts i) S=true) (K (.tup [.agg (tk ts i).cells,.bool true]) (wr st p 0 (pC ts (i+1) d))) (K (.tup [.agg (tk ts i).cells,.bool false]) (wr st p 0 (pC ts i d))):=by
 have T:=jcy hb hi h2 (d:=d) S hS;cases h:isM (tk ts i) S with
 |true=>rw[X5 rfl];exact(T.1 h).xb C rfl (λst=>hb.no 76 dc _ _) K Kp
 |false=>rw[X6 dc];exact(T.2 h).xb C rfl (λst=>hb.no 76 dc _ _) K Kp
theorem Q8 (hb:NB base){ts:List Tk}{i d:Nat}(hi:i<ts.length)(h2:i<=1000000)(S:List (List Nat)){cs:List AV}{n:Nat}(hc:S.map .str=cs)(hn:S.length=n)(hS:n<=1000000)(st:St)(p b m:Nat)(x:Bool)(C:Cl st p (pC ts i d))(D:Cl st b cs)(hne:p≠b)(K Kp:AV->St->Prop) :
  XB θ base 76 [.ptr p 0,.slice b 0 n m 1 x] st K Kp=ifW (isM (tk ts i) S=true) (K (.tup [.agg (tk ts i).cells,.bool true]) (wr (kl b st) p 0 (pC ts (i+1) d))) (K (.tup [.agg (tk ts i).cells,.bool false]) (wr (kl b st) p 0 (pC ts i d))):=by
 subst hc hn;have T:=jcy hb hi h2 (d:=d) S hS;have F:Fza st [.slice b 0 S.length m 1 x] [.lst S.length (S.map .str)] [b]:=Fza.sl D (by simp) (QU S) .nil;have C':Cl (qQ [b] st) p (pC ts i d):=(jS hne).symm▸C;cases h:isM (tk ts i) S with
 |true=>rw[X5 rfl];exact(T.1 h).xbk C' F rfl (λst=>hb.no 76 dc _ _) K Kp
 |false=>rw[X6 dc];exact(T.2 h).xbk C' F rfl (λst=>hb.no 76 dc _ _) K Kp
theorem jfi (hb:NB base)(t:Tk)(S:List (List Nat)){cs:List AV}{n:Nat}(hc:S.map .str=cs)(hn:S.length=n)(hS:n<=1000000)(st:St)(b m:Nat)(x:Bool)(D:Cl st b cs)(K Kp:AV->St->Prop) :
  XB θ base 125 [.agg t.cells,.slice b 0 n m 1 x] st K Kp=K (.bool (isM t S)) (kl b st):=by
 subst hc hn;have F:Fza st [.agg t.cells,.slice b 0 S.length m 1 x] [.agg t.cells,.lst S.length (S.map .str)] [b]:=Fza.pa (by rfl) (Fza.sl D (by simp) (QU S) .nil);exact(jj4 hb t S hS).xf F (λst=>hb.no 125 dc _ _) K Kp
theorem jjh (hb:NB base){ts:List Tk}{i d:Nat}(hi:i<ts.length)(h2:i<=1000000)(c:List Nat) :
  (isM (tk ts i) [c]=true->PM θ base 127 (pC ts i d) [.str c] (.ok (.tup [])) (pC ts (i+1) d)) /\
  (isM (tk ts i) [c]=false->PM θ base 127 (pC ts i d) [.str c] (.pn (er (tk ts i))) (pC ts i d)):=by
 have T:=Q8 hb hi h2 (d:=d) [c] (cs:=[.str c]) (n:=1) rfl rfl dc;unfold pC at *;constructor<;>intro h
 ·refine jC jiA (by rfl) (hb.pur 127 3 dc) rfl ?_;simp only[jeC,jn,ν,ξ,τ,υ];rw[(by unfold V9;simp only[qq];rfl:V9=_)];repeat'(first|apply jd<;>intro _|simp(disch:=first|exact dzD|fail) only[T,h,JN hb,r6,γ,δ,ε,ζ,η])
  (refine G1.done ?_ (by rfl) (by rfl) ?_;(· (first|exact cyD|fail));(· first|exact vyD|skip))
 ·refine jC jiA (by rfl) (hb.pur 127 3 dc) rfl ?_;simp only[jeC,jn,ν,ξ,τ,υ];rw[(by unfold V9;simp only[qq];rfl:V9=_)];repeat'(first|apply jd<;>intro _|simp(disch:=first|exact dzD|fail) only[T,h,JN hb,r6,γ,δ,ε,ζ,η])
  (refine G1.done ?_ (by rfl) (by rfl) ?_;(· (first|exact cyD|fail));(· first|exact vyD|skip))
theorem PM.two {P:Program}{f:FuncId}{cs xs c1 c2:List AV}{o1 o2:Oc}{q:Bool}(h:(q=true->PM P base f cs xs o1 c1)/\(q=false->PM P base f cs xs o2 c2))(hp:xs.all pa=true)(hb:∀ p st,base.run f (.ptr p 0 :: xs) st=.no){st:St}{p:Nat}(C:Cl st p cs)(K Kp:AV->St->Prop) :
  XB P base f (.ptr p 0 :: xs) st K Kp=ifW (q=true) (XJ o1 K Kp (wr st p 0 c1)) (XJ o2 K Kp (wr st p 0 c2)):=by
 cases hq:q with
 |true=>rw[X5 rfl];exact(h.1 hq).xb C hp (hb p) K Kp
 |false=>rw[X6 dc];exact(h.2 hq).xb C hp (hb p) K Kp
theorem JL (hb:NB base){ts:List Tk}{i d:Nat}(hi:i<ts.length)(h2:i<=1000000)(c:List Nat){st:St}{p:Nat}(C:Cl st p (pC ts i d))(K Kp:AV->St->Prop) :
  XB θ base 127 [.ptr p 0,.str c] st K Kp=ifW (isM (tk ts i) [c]=true) (K (.tup []) (wr st p 0 (pC ts (i+1) d))) (Kp (er (tk ts i)) (wr st p 0 (pC ts i d))):=
 PM.two (o1:=.ok _) (o2:=.pn _) (jjh hb hi h2 c) rfl (λ_ _=>hb.no 127 dc _ _) C K Kp
theorem wi (hb:NB base){ts:List Tk}{i d:Nat}(hi:i<ts.length)(h2:i<=1000000){st:St}{p:Nat}(C:Cl st p (pC ts i d))(K Kp:AV->St->Prop) :
  XB θ base 126 [.ptr p 0] st K Kp=ifW (decide ((tk ts i).kind=1)=true) (K (.agg (tk ts i).cells) (wr st p 0 (pC ts (i+1) d))) (Kp (er (tk ts i)) (wr st p 0 (pC ts i d))):=by
 refine PM.two (o1:=.ok _) (o2:=.pn _) ?_ rfl (λ_ _=>hb.no 126 dc _ _) C K Kp;have N:=λst p=>@X4 base hb ts i d hi st p;unfold pC at *;clear C;constructor<;>intro h
 ·have h':((tk ts i).kind:Int)=1:=by simp at h;omega
  refine jC jiB (by rfl) (hb.pur 126 3 dc) rfl ?_;simp only[jeD,jn,ν,ξ,τ,υ];rw[(by unfold ga;simp only[qq];rfl:ga=_)];repeat'(first|apply jd<;>intro _|simp(disch:=first|exact dzD|fail) only[N,h',JN hb,r6,γ,δ,ε,ζ,η])
  (refine G1.done ?_ (by rfl) (by rfl) ?_;(· (first|exact cyD|fail));(· first|exact vyD|skip))
 ·have h':¬ ((tk ts i).kind:Int)=1:=by simp at h;omega
  refine jC jiB (by rfl) (hb.pur 126 3 dc) rfl ?_;simp only[jeD,jn,ν,ξ,τ,υ];rw[(by unfold ga;simp only[qq];rfl:ga=_)];repeat'(first|apply jd<;>intro _|simp(disch:=first|exact dzD|fail) only[N,h',JN hb,r6,γ,δ,ε,ζ,η])
  (refine G1.done ?_ (by rfl) (by rfl) ?_;(· (first|exact cyD|fail));(· first|exact vyD|skip))
theorem jcY (hb:NB base){ts:List Tk}{i d:Nat}(hi:i<ts.length)(h2:d<=1000000){st:St}{p:Nat}(C:Cl st p (pC ts i d))(K Kp:AV->St->Prop) :
  XB θ base 159 [.ptr p 0] st K Kp=ifW (decide (60<d+1)=true) (Kp (er (tk ts i)) (wr st p 0 (pC ts i (d+1)))) (K (.tup []) (wr st p 0 (pC ts i (d+1)))):=by
 refine PM.two (o1:=.pn _) (o2:=.ok _) ?_ rfl (λ_ _=>hb.no 159 dc _ _) C K Kp;have N:=λst p=>@X4 base hb ts i (d+1) hi st p;have e:((d:Int)+1)=((d+1:Nat):Int):=om
 unfold pC at *;clear C;constructor<;>intro h
 ·have h':(60:Int)<((d+1:Nat):Int):=by simp at h;omega
  refine jC jix (by rfl) (hb.pur 159 3 dc) rfl ?_;simp only[jez,jn,ν,ξ,τ,υ];rw[(by unfold K7;simp only[qq];rfl:K7=_)];repeat'(first|apply jd<;>intro _|simp(disch:=first|exact dzD|fail) only[N,h',JN hb,e,r6,γ,δ,ε,ζ,η])
  (refine G1.done ?_ (by rfl) (by rfl) ?_;(· (first|exact cyD|fail));(· first|exact vyD|skip))
 ·have h':¬ (60:Int)<((d+1:Nat):Int):=by simp at h;omega
  refine jC jix (by rfl) (hb.pur 159 3 dc) rfl ?_;simp only[jez,jn,ν,ξ,τ,υ];rw[(by unfold K7;simp only[qq];rfl:K7=_)];repeat'(first|apply jd<;>intro _|simp(disch:=first|exact dzD|fail) only[N,h',JN hb,e,r6,γ,δ,ε,ζ,η])
  (refine G1.done ?_ (by rfl) (by rfl) ?_;(· (first|exact cyD|fail));(· first|exact vyD|skip))
abbrev Lev:=List (List Nat)×Nat
def qT:List (List Nat):=[[45],[33],[88],[70],[71],[89],[90],[79],[72]]
def Yw (text:List Nat):Nat:=5+qT.idxOf text
inductive PR where
 |ok (x:Ex) (j:Nat)
 |er (t:Tk)
mutual
def qy (ts:List Tk):Nat->List Lev->Nat->Nat->Option PR
 |0,_,_,_=>none
 |n+1,[],i,d=>yL ts n i d
 |n+1,v :: l,i,d=>match qy ts n l i d with
  |some (.ok x j)=>yv ts n v l x j d
  |r=>r
def yv (ts:List Tk):Nat->Lev->List Lev->Ex->Nat->Nat->Option PR
 |0,_,_,_,_,_=>none
 |n+1,v,l,x,i,d=>
  if isM (tk ts i) v.1=true then
   (if v.2=1 then(match qy ts n (v :: l) (i+1) d with
    |some (.ok y j)=>some (.ok (yp (tk ts i) x y) j)
    |r=>r)
   else(match qy ts n l (i+1) d with
    |some (.ok y j)=>if v.2=2 then some (.ok (yp (tk ts i) x y) j) else yv ts n v l (yp (tk ts i) x y) j d
    |r=>r))
  else some (.ok x i)
def yL (ts:List Tk):Nat->Nat->Nat->Option PR
 |0,_,_=>none
 |n+1,i,d=>
  if isM (tk ts i) qT=true then
   (if 60<d+1 then some (.er (tk ts (i+1))) else(match yL ts n (i+1) (d+1) with
    |some (.ok x j)=>some (.ok (.mk (Yw (tk ts i).text:Nat) 0 [] [x] (tk ts i).line (tk ts i).col) j)
    |r=>r))
  else zr ts n i d
def zr (ts:List Tk):Nat->Nat->Nat->Option PR
 |0,_,_=>none
 |n+1,i,d=>
  if(tk ts i).kind=2 then some (.ok (.mk 1 (tk ts i).num [] [] (tk ts i).line (tk ts i).col) (i+1))
  else if(tk ts i).kind=1 then some (.ok (.mk 3 0 (tk ts i).text [] (tk ts i).line (tk ts i).col) (i+1))
  else if isM (tk ts i) [[116,114,117,101]]=true then some (.ok (.mk 2 1 [] [] (tk ts i).line (tk ts i).col) (i+1))
  else if isM (tk ts i) [[102,97,108,115,101]]=true then some (.ok (.mk 2 0 [] [] (tk ts i).line (tk ts i).col) (i+1))
  else if isM (tk ts i) [[40]]=true then
   (if 60<d+1 then some (.er (tk ts (i+1))) else(match qy ts n jU (i+1) (d+1) with
    |some (.ok x j)=>if isM (tk ts j) [[41]]=true then some (.ok x (j+1)) else some (.er (tk ts j))
    |r=>r))
  else some (.er (tk ts i))
end
structure Wds (ts:List Tk):Prop where
 len:ts.length<=1000000
 next:∀ i,i<ts.length->(tk ts i).kind≠5->i+1<ts.length
 txt:∀ i,(tk ts i).text.length<=65536
theorem q9 {t:Tk}{S:List (List Nat)}(h:isM t S=true):(t.kind=3\/t.kind=4)/\t.text∈S:=by
 simpa[isM] using h
theorem Wds.isM {ts:List Tk}(W:Wds ts){i:Nat}(hi:i<ts.length){S:List (List Nat)}(h:isM (tk ts i) S=true):i+1<ts.length:=W.next i hi (by have:=(q9 h).1;omega)
def Sz (ts:List Tk)(i:Nat)(a:Nat)(r:PR):Prop:=match r with | .ok x j=>i<=j/\j<ts.length/\szE x<=a+(j - i) * 65537 | .er _=>True
theorem Y7 (op num:Int)(nm:List Nat)(ks:List Ex)(l c:Int):szE (.mk op num nm ks l c)=JR ks+nm.length+1:=rfl
theorem jhb (t:Tk)(x y:Ex):szE (yp t x y)<=szE x+szE y+1:=by
 unfold yp;split
 ·rw[Y7];simp[JR]
 ·rw[Y7];simp[JR]
theorem wG {ts:List Tk}(W:Wds ts):∀ n,(∀ lv i d r,qy ts n lv i d=some r->i<ts.length->Sz ts i 0 r)/\(∀ v l x i d r,yv ts n v l x i d=some r->i<ts.length->Sz ts i (szE x) r)/\(∀ i d r,yL ts n i d=some r->i<ts.length->Sz ts i 0 r)/\(∀ i d r,zr ts n i d=some r->i<ts.length->Sz ts i 0 r):=by
 intro n;induction n with
 |zero=>exact⟨λ_ _ _ _ h=>(by simp[qy] at h),λ_ _ _ _ _ _ h=>(by simp[yv] at h),λ_ _ _ h=>(by simp[yL] at h),λ_ _ _ h=>(by simp[zr] at h)⟩
 |succ n ih=>
  obtain⟨iE,iL,iP,iV⟩:=ih;refine⟨λlv i d r h hi=>?_,λv l x i d r h hi=>?_,λi d r h hi=>?_,λi d r h hi=>?_⟩
  ·cases lv with
   |nil=>unfold qy at h;exact iP i d r h hi
   |cons v l=>
    unfold qy at h;cases hx:qy ts n l i d with
    |none=>rw[hx] at h;cases h
    |some q=>cases q with
     |er t=>rw[hx] at h;cases h;trivial
     |ok x j=>
      rw[hx] at h;have h1:=iE l i d _ hx hi;have h2:=iL v l x j d r h h1.2.1;cases r with
      |er t=>trivial
      |ok y k=>
       simp only[Sz] at h1 h2 ⊢;obtain⟨a1,a2,a3⟩:=h1;obtain⟨b1,b2,b3⟩:=h2;refine⟨om,b2,?_⟩;have:(k - i) * 65537=(k - j) * 65537+(j - i) * 65537:=by rw[<-QaC];congr 1;omega
       omega
  ·unfold yv at h;by_cases c:isM (tk ts i) v.1=true
   ·rw[if_pos c] at h;have hi1:=W.isM hi c;have key:∀ lv y j,qy ts n lv (i+1) d=some (.ok y j)->i<=j/\j<ts.length/\szE (yp (tk ts i) x y)<=szE x+(j - i) * 65537:=λlv y j he=>by
     have h1:=iE lv (i+1) d _ he hi1;simp only[Sz] at h1;obtain⟨a1,a2,a3⟩:=h1;have:=jhb (tk ts i) x y;have:(j - i) * 65537=(j - (i+1)) * 65537+65537:=by rw[<-Qbb];congr 1;omega
     exact⟨om,a2,om⟩
    by_cases w1:v.2=1
    ·rw[if_pos w1] at h;cases he:qy ts n (v :: l) (i+1) d with
     |none=>rw[he] at h;cases h
     |some q=>cases q with
      |er t=>rw[he] at h;cases h;trivial
      |ok y j=>rw[he] at h;cases h;exact key _ y j he
    ·rw[if_neg w1] at h;cases he:qy ts n l (i+1) d with
     |none=>rw[he] at h;cases h
     |some q=>cases q with
      |er t=>rw[he] at h;cases h;trivial
      |ok y j=>
       rw[he] at h;have hk:=key _ y j he;by_cases w2:v.2=2
       ·simp only[w2,if_true] at h;cases h;exact hk
       ·simp only[w2,if_false] at h;have h2:=iL v l _ j d r h hk.2.1;cases r with
        |er t=>trivial
        |ok z k=>
         simp only[Sz] at h2 ⊢;obtain⟨b1,b2,b3⟩:=h2;refine⟨om,b2,?_⟩;have:(k - i) * 65537=(k - j) * 65537+(j - i) * 65537:=by rw[<-QaC];congr 1;omega
         omega
   ·rw[if_neg c] at h;cases h;exact⟨φ _,hi,om⟩
  ·unfold yL at h;by_cases c:isM (tk ts i) qT=true
   ·rw[if_pos c] at h;have hi1:=W.isM hi c;by_cases hd:60<d+1
    ·rw[if_pos hd] at h;cases h;trivial
    ·rw[if_neg hd] at h;cases he:yL ts n (i+1) (d+1) with
     |none=>rw[he] at h;cases h
     |some q=>cases q with
      |er t=>rw[he] at h;cases h;trivial
      |ok y j=>
       rw[he] at h;cases h;have h1:=iP (i+1) (d+1) _ he hi1;simp only[Sz] at h1 ⊢;obtain⟨a1,a2,a3⟩:=h1;have:(j - i) * 65537=(j - (i+1)) * 65537+65537:=by rw[<-Qbb];congr 1;omega
       refine⟨om,a2,?_⟩;rw[Y7];simp[JR];omega
   ·rw[if_neg c] at h;exact iV i d r h hi
  ·unfold zr at h;have ht:=W.txt i;have leaf:∀ (x:Ex),szE x<=65537->i+1<ts.length->Sz ts i 0 (.ok x (i+1)):=λx hx h1=>⟨om,h1,om⟩;by_cases k2:(tk ts i).kind=2
   ·rw[if_pos k2] at h;cases h;exact leaf _ (by rw[Y7];simp[JR]) (W.next i hi om)
   rw[if_neg k2] at h;by_cases k1:(tk ts i).kind=1
   ·rw[if_pos k1] at h;cases h;exact leaf _ (by rw[Y7];simp[JR];omega) (W.next i hi om)
   rw[if_neg k1] at h;split at h
   ·cases h;exact leaf _ (by rw[Y7];simp[JR]) (W.isM hi ‹_›)
   split at h
   ·cases h;exact leaf _ (by rw[Y7];simp[JR]) (W.isM hi ‹_›)
   split at h
   ·rename_i c;have hi1:=W.isM hi c;by_cases hd:60<d+1
    ·rw[if_pos hd] at h;cases h;trivial
    ·rw[if_neg hd] at h;cases he:qy ts n jU (i+1) (d+1) with
     |none=>rw[he] at h;cases h
     |some q=>cases q with
      |er t=>rw[he] at h;cases h;trivial
      |ok y j=>
       rw[he] at h;have h1:=iE jU (i+1) (d+1) _ he hi1;simp only[Sz] at h1;obtain⟨a1,a2,a3⟩:=h1;dsimp only at h;by_cases c2:isM (tk ts j) [[41]]=true
       ·rw[if_pos c2] at h;cases h;have:=W.isM a2 c2;simp only[Sz];exact⟨om,this,ω a3 (Nat.add_le_add_left (QaT _ om) _)⟩
       ·rw[if_neg c2] at h;cases h;trivial
   ·cases h;trivial
def Ans (base:Bs)(f:FuncId)(c xs:List AV)(ts:List Tk)(d:Nat):PR->Prop
 |.ok x j=>PM θ base f c xs (.ok (.agg (eE x))) (pC ts j d)
 |.er t=>∃ i' d',PM θ base f c xs (.pn (er t)) (pC ts i' d')
def okL (lv:List Lev):Prop:=lv.length<=8/\∀ v∈lv,v.1.length<=6
def IsE (base:Bs)(ts:List Tk)(n:Nat):Prop:=∀ lv i d r,qy ts n lv i d=some r->i<ts.length->d<=60->okL lv->Ans base 93 (pC ts i d) [.lst lv.length (fl J5 lv)] ts d r
def IsP (base:Bs)(ts:List Tk)(n:Nat):Prop:=∀ i d r,yL ts n i d=some r->i<ts.length->d<=60->Ans base 133 (pC ts i d) [] ts d r
def IsV (base:Bs)(ts:List Tk)(n:Nat):Prop:=∀ i d r,zr ts n i d=some r->i<ts.length->d<=60->Ans base 158 (pC ts i d) [] ts d r
theorem jlm:Go.Ev.isAgg θ 2=some false:=by kernel_rfl
theorem jll:Go.Ev.sizeOf θ 2=some 1:=by kernel_rfl
theorem jkl:Go.Ev.isAgg θ 88=some true:=by kernel_rfl
theorem jkk:Go.Ev.sizeOf θ 88=some 5:=by kernel_rfl
theorem sm2 {b o:Nat}{v:AV}{h:T AO}(ho:o<qz h b)(hv:rat h b o=v)(hc:eqs v=true):(jW θ 2 (.ptr b o) v h=true)=True:=eq_true (J2 jlm jll ho hv hc)
theorem sm9 {b o:Nat}{v:AV}{h:T AO}(ho:o<qz h b)(hv:rat h b o=v)(hc:eqs v=true):(jW θ 9 (.ptr b o) v h=true)=True:=eq_true (J2 jeK jeJ ho hv hc)
theorem zx (k:IntKind)(n:Int):eqs (.int k n)=true:=nr rfl
theorem zY (l:List Nat):eqs (.str l)=true:=nr rfl
set_option maxHeartbeats 4000000 in
theorem jg7 (hb:NB base){ts:List Tk}(W:Wds ts){n:Nat}(ihE:IsE base ts n):IsV base ts (n+1):=by
 intro i d r h hi hd;have hN:=λst p=>@X4 base hb ts i d hi st p;have wl:=W.len;have hx:(i:Int)+1=((i+1:Nat):Int):=om
 unfold zr at h;by_cases k2:(tk ts i).kind=2
 ·rw[if_pos k2] at h;cases h;have k2':((tk ts i).kind:Int)=2:=om
  show PM _ _ _ _ _ _ _;unfold pC at *;refine jC wz (by rfl) (hb.pur 158 3 dc) rfl ?_;simp only[ZR,jn,ν,ξ,τ,υ];rw[(by unfold Jz;simp only[qq];rfl:Jz=_)]
  (have zz:=aI @zx @zY;(repeat'(first|apply jd<;>intro _|simp(disch:=first|exact jK|fail) only[hN,k2',sm2,zx,zY,r6,γ,δ,ε,ζ,η]));all_goals clear zz)
  (refine G1.done ?_ (by rfl) (by rfl) ?_;(· (first|exact cyD|fail));(· first|exact vyD|skip))
 rw[if_neg k2] at h;have k2':¬ ((tk ts i).kind:Int)=2:=om
 by_cases k1:(tk ts i).kind=1
 ·rw[if_pos k1] at h;cases h;have k1':((tk ts i).kind:Int)=1:=om
  show PM _ _ _ _ _ _ _;unfold pC at *;refine jC wz (by rfl) (hb.pur 158 3 dc) rfl ?_;simp only[ZR,jn,ν,ξ,τ,υ];rw[(by unfold Jz;simp only[qq];rfl:Jz=_)]
  (have zz:=aI @zx @zY;(repeat'(first|apply jd<;>intro _|simp(disch:=first|exact jK|fail) only[hN,k2',k1',sm9,zx,zY,r6,γ,δ,ε,ζ,η]));all_goals clear zz)
  (refine G1.done ?_ (by rfl) (by rfl) ?_;(· (first|exact cyD|fail));(· first|exact vyD|skip))
 rw[if_neg k1] at h;have k1':¬ ((tk ts i).kind:Int)=1:=om
 have T:=jfi hb (tk ts i) [[116,114,117,101]] (cs:=[.str [116,114,117,101]]) (n:=1) rfl rfl dc;have F:=jfi hb (tk ts i) [[102,97,108,115,101]] (cs:=[.str [102,97,108,115,101]]) (n:=1) rfl rfl dc;have B:=jfi hb (tk ts i) [[40]] (cs:=[.str [40]]) (n:=1) rfl rfl dc;by_cases c1:isM (tk ts i) [[116,114,117,101]]=true
 ·rw[if_pos c1] at h;cases h;show PM _ _ _ _ _ _ _;unfold pC at *;refine jC wz (by rfl) (hb.pur 158 3 dc) rfl ?_;simp only[ZR,jn,ν,ξ,τ,υ];rw[(by unfold Jz;simp only[qq];rfl:Jz=_)];repeat'(first|apply jd<;>intro _|simp(disch:=first|exact dzD|fail) only[hN,k2',k1',T,c1,r6,γ,δ,ε,ζ,η])
  (refine G1.done ?_ (by rfl) (by rfl) ?_;(· (first|exact cyD|fail));(· first|exact vyD|skip))
 rw[if_neg c1] at h;by_cases c2:isM (tk ts i) [[102,97,108,115,101]]=true
 ·rw[if_pos c2] at h;cases h;show PM _ _ _ _ _ _ _;unfold pC at *;refine jC wz (by rfl) (hb.pur 158 3 dc) rfl ?_;simp only[ZR,jn,ν,ξ,τ,υ];rw[(by unfold Jz;simp only[qq];rfl:Jz=_)];repeat'(first|apply jd<;>intro _|simp(disch:=first|exact dzD|fail) only[hN,k2',k1',T,F,c1,c2,r6,γ,δ,ε,ζ,η])
  (refine G1.done ?_ (by rfl) (by rfl) ?_;(· (first|exact cyD|fail));(· first|exact vyD|skip))
 rw[if_neg c2] at h;by_cases c3:isM (tk ts i) [[40]]=true
 ·rw[if_pos c3] at h;have hi1:=W.isM hi c3;have O:=λst p=>@jcY base hb ts (i+1) d hi1 om st p;by_cases hd2:60<d+1
  ·rw[if_pos hd2] at h;cases h;refine⟨i+1,d+1,?_⟩;unfold pC at *;refine jC wz (by rfl) (hb.pur 158 3 dc) rfl ?_;simp only[ZR,jn,ν,ξ,τ,υ];rw[(by unfold Jz;simp only[qq];rfl:Jz=_)];repeat'(first|apply jd<;>intro _|simp(disch:=first|exact dzD|fail) only[hN,k2',k1',T,F,B,c1,c2,c3,O,hx,hd2,r6,γ,δ,ε,ζ,η])
   (refine G1.done ?_ (by rfl) (by rfl) ?_;(· (first|exact cyD|fail));(· first|exact vyD|skip))
  ·rw[if_neg hd2] at h;cases he:qy ts n jU (i+1) (d+1) with
   |none=>rw[he] at h;cases h
   |some q=>
    have A:=ihE _ _ _ _ he hi1 om ⟨dc,dc⟩;have hL:=hY hb;have hz:=(wG W n).1 _ _ _ _ he hi1;cases q with
    |er t=>
     rw[he] at h;cases h;obtain⟨i',d',A⟩:=A;have E:∀ st p,Cl st p (pC ts (i+1) (d+1))->∀ K Kp,XB θ base 93 [.ptr p 0,.lst 8 (fl J5 jU)] st K Kp=_:=λst p C K Kp=>A.xb C rfl (λst=>hb.no 93 dc _ _) K Kp;refine⟨i',d',?_⟩;unfold pC at *;refine jC wz (by rfl) (hb.pur 158 3 dc) rfl ?_;simp only[ZR,jn,ν,ξ,τ,υ];rw[(by unfold Jz;simp only[qq];rfl:Jz=_)];repeat'(first|apply jd<;>intro _|simp(disch:=first|exact dzD|fail) only[hN,k2',k1',T,F,B,c1,c2,c3,O,hx,hd2,hL,E,r6,γ,δ,ε,ζ,η])
     (refine G1.done ?_ (by rfl) (by rfl) ?_;(· (first|exact cyD|fail));(· first|exact vyD|skip))
    |ok x j=>
     rw[he] at h;dsimp only at h;have A:PM _ _ _ _ _ _ _:=A;have E:∀ st p,Cl st p (pC ts (i+1) (d+1))->∀ K Kp,XB θ base 93 [.ptr p 0,.lst 8 (fl J5 jU)] st K Kp=_:=λst p C K Kp=>A.xb C rfl (λst=>hb.no 93 dc _ _) K Kp;have hj:j<ts.length:=hz.2.1;have M:=λst p=>@JL base hb ts j d hj om [41] st p;have e1:((d+1:Nat):Int) - 1=(d:Int):=om
     by_cases c4:isM (tk ts j) [[41]]=true
     ·rw[if_pos c4] at h;cases h;show PM _ _ _ _ _ _ _;unfold pC at *;refine jC wz (by rfl) (hb.pur 158 3 dc) rfl ?_;simp only[ZR,jn,ν,ξ,τ,υ];rw[(by unfold Jz;simp only[qq];rfl:Jz=_)];repeat'(first|apply jd<;>intro _|simp(disch:=first|exact dzD|fail) only[hN,k2',k1',T,F,B,c1,c2,c3,O,hx,hd2,hL,E,e1,M,c4,r6,γ,δ,ε,ζ,η])
      (refine G1.done ?_ (by rfl) (by rfl) ?_;(· (first|exact cyD|fail));(· first|exact vyD|skip))
     ·rw[if_neg c4] at h;cases h;refine⟨j,d,?_⟩;unfold pC at *;refine jC wz (by rfl) (hb.pur 158 3 dc) rfl ?_;simp only[ZR,jn,ν,ξ,τ,υ];rw[(by unfold Jz;simp only[qq];rfl:Jz=_)];repeat'(first|apply jd<;>intro _|simp(disch:=first|exact dzD|fail) only[hN,k2',k1',T,F,B,c1,c2,c3,O,hx,hd2,hL,E,e1,M,c4,r6,γ,δ,ε,ζ,η])
      (refine G1.done ?_ (by rfl) (by rfl) ?_;(· (first|exact cyD|fail));(· first|exact vyD|skip))
 ·rw[if_neg c3] at h;cases h;refine⟨i,d,?_⟩;unfold pC at *;refine jC wz (by rfl) (hb.pur 158 3 dc) rfl ?_;simp only[ZR,jn,ν,ξ,τ,υ];rw[(by unfold Jz;simp only[qq];rfl:Jz=_)];repeat'(first|apply jd<;>intro _|simp(disch:=first|exact dzD|fail) only[hN,k2',k1',T,F,B,c1,c2,c3,JN hb,r6,γ,δ,ε,ζ,η])
  (refine G1.done ?_ (by rfl) (by rfl) ?_;(· (first|exact cyD|fail));(· first|exact vyD|skip))
theorem Uq:∀ k:Nat,k<9->sgn ((5+k:Nat):Int)=qT.getD k []:=dc
theorem H5 {x:List Nat}(h:x∈qT):qT.idxOf x<9/\sgn ((5+qT.idxOf x:Nat):Int)=x/\∀ j,j<qT.idxOf x->sgn ((5+j:Nat):Int)≠x:=by
 have h9:qT.idxOf x<9:=List.idxOf_lt_length_of_mem h;refine⟨h9,?_,λj hj=>?_⟩
 ·rw[Uq _ h9,Qap,Qaj (show qT.idxOf x<qT.length from h9)];simp
 ·rw[Uq _ om,Qap,Qaj (show j<qT.length by show j<9;omega)];intro he;have hlt:j<qT.findIdx (· == x):=hj;have hno:=List.not_of_lt_findIdx hlt;have he':qT[j]'(show j<qT.length by show j<9;omega)=x:=he;rw[he'] at hno;simp at hno
set_option maxHeartbeats 4000000 in
theorem je2 (hb:NB base){ts:List Tk}(W:Wds ts){n:Nat}(ihP:IsP base ts n)(ihV:IsV base ts n):IsP base ts (n+1):=by
 intro i d r h hi hd;have wl:=W.len;have hx:(i:Int)+1=((i+1:Nat):Int):=om
 have T:=Q8 hb hi (d:=d) om qT (cs:=[.str [45],.str [33],.str [88],.str [70],.str [71],.str [89],.str [90],.str [79],.str [72]]) (n:=9) rfl rfl dc;unfold yL at h;by_cases c1:isM (tk ts i) qT=true
 ·rw[if_pos c1] at h;have hi1:=W.isM hi c1;have O:=λst p=>@jcY base hb ts (i+1) d hi1 om st p;by_cases hd2:60<d+1
  ·rw[if_pos hd2] at h;cases h;refine⟨i+1,d+1,?_⟩;unfold pC at *;refine jC gp (by rfl) (hb.pur 133 3 dc) rfl ?_;simp only[Ud,jn,ν,ξ,τ,υ];rw[(by unfold Y0;simp only[qq];rfl:Y0=_)];repeat'(first|apply jd<;>intro _|simp(disch:=first|exact dzD|fail) only[T,c1,O,hd2,r6,γ,δ,ε,ζ,η])
   (refine G1.done ?_ (by rfl) (by rfl) ?_;(· (first|exact cyD|fail));(· first|exact vyD|skip))
  ·rw[if_neg hd2] at h;cases he:yL ts n (i+1) (d+1) with
   |none=>rw[he] at h;cases h
   |some q=>
    have A:=ihP _ _ _ he hi1 om;have hz:=(wG W n).2.2.1 _ _ _ he hi1;cases q with
    |er t=>
     rw[he] at h;cases h;obtain⟨i',d',A⟩:=A;have E:∀ st p,Cl st p (pC ts (i+1) (d+1))->∀ K Kp,XB θ base 133 [.ptr p 0] st K Kp=_:=λst p C K Kp=>A.xb C rfl (λst=>hb.no 133 dc _ _) K Kp;refine⟨i',d',?_⟩;unfold pC at *;refine jC gp (by rfl) (hb.pur 133 3 dc) rfl ?_;simp only[Ud,jn,ν,ξ,τ,υ];rw[(by unfold Y0;simp only[qq];rfl:Y0=_)];repeat'(first|apply jd<;>intro _|simp(disch:=first|exact dzD|fail) only[T,c1,O,hd2,E,r6,γ,δ,ε,ζ,η])
     (refine G1.done ?_ (by rfl) (by rfl) ?_;(· (first|exact cyD|fail));(· first|exact vyD|skip))
    |ok x j=>
     rw[he] at h;cases h;have A:PM _ _ _ _ _ _ _:=A;have E:∀ st p,Cl st p (pC ts (i+1) (d+1))->∀ K Kp,XB θ base 133 [.ptr p 0] st K Kp=_:=λst p C K Kp=>A.xb C rfl (λst=>hb.no 133 dc _ _) K Kp;have hj:j<ts.length:=hz.2.1;have e1:((d+1:Nat):Int) - 1=(d:Int):=om
     show PM _ _ _ _ _ _ _;unfold pC at *;refine jC gp (by rfl) (hb.pur 133 3 dc) rfl ?_;simp only[Ud,jn,ν,ξ,τ,υ];rw[(by unfold Y0;simp only[qq];rfl:Y0=_)];repeat'(first|apply jd<;>intro _|simp(disch:=first|exact dzD|fail) only[T,c1,O,hd2,E,e1,r6,γ,δ,ε,ζ,η])
     obtain⟨x1,x2,x3⟩:=H5 (q9 c1).2;refine yF λu hu=>?_;have n0:u.nx=5:=by rw[hu];rfl
     have C0:Cl u 0 [.lst ts.length (fl Tk.cells ts),.int .i64 (j:Int),.int .i64 (d:Int)]:=by
      rw[hu]
      (first|exact cyD|fail)
     have C1:Cl u 1 [.int .i64 0,.int .i64 0,.str [],.nils,.int .i64 0,.int .i64 0]:=by
      rw[hu]
      (first|exact cyD|fail)
     have C3:Cl u 3 (tk ts i).cells:=by
      rw[hu]
      (first|exact cyD|fail)
     have C4:Cl u 4 (eE x):=by
      rw[hu]
      (first|exact cyD|fail)
     clear hu;have hs:jW θ 9 (.ptr 3 1) (.str (tk ts i).text) u.h=true:=W6 jeK jeJ C3 (Qbc (QaR 3)) rfl rfl;refine qB (λmm L s=>∃ k:Nat,k<=qT.idxOf (tk ts i).text/\mm=qT.idxOf (tk ts i).text - k/\s=u/\Has L 0 (.ptr 0 0)/\Has L 2 (.ptr 1 0)/\Has L 3 (.ptr 3 0)/\Has L 5 (.ptr 4 0)/\Has L 6 (.int .i64 ((5+k:Nat):Int))) ?_ (qT.idxOf (tk ts i).text) ?_
     ·rintro mm L s ⟨k,hk,rfl,rfl,i0,i2,i3,i5,i6⟩;have hS:=jd0 hb ((5+k:Nat):Int);by_cases hk2:k=qT.idxOf (tk ts i).text
      ·rw[<-hk2] at x2
       (have zz:=aI @n0 (aI C0.r (aI C1.r (aI C3.r C4.r)));(repeat'(first|apply jd<;>intro _|simp(disch:=first|exact jK|fail) only[ja i0,ja i2,ja i3,ja i5,ja i6,hS,hs,x2,C0.q,C1.q,C3.q,C4.q,n0,C0.r,C1.r,C3.r,C4.r,r6,γ,δ,ε,ζ,η]));all_goals clear zz)
       rw[show Yw (tk ts i).text=5+k by unfold Yw;rw[<-hk2],<-qO];refine G1.done ?_ (by rfl) (by rfl) (Ux (ks:=[x]) (b:=5) (cs:=eE x) ?_ (by rw[zu]) dc)
       ·(have zz:=aI C0.q (aI @n0 C0.r);first|exact ju|fail)
       ·rw[jz,jv dc,<-n0];exact Cl.new s _
      ·have x3':=x3 k om
       (have zz:=aI @n0 (aI C0.r (aI C1.r (aI C3.r C4.r)));(repeat'(first|apply jd<;>intro _|simp(disch:=first|exact jK|fail) only[ja i0,ja i2,ja i3,ja i5,ja i6,hS,hs,x3',C0.q,C1.q,C3.q,C4.q,n0,C0.r,C1.r,C3.r,C4.r,r6,γ,δ,ε,ζ,η]));all_goals clear zz)
       refine⟨qT.idxOf (tk ts i).text - (k+1),om,k+1,om,rfl,?_⟩;rw[show((5+(k+1):Nat):Int)=((5+k:Nat):Int)+1 by omega];simp(disch:=decide) only[h12,i0,i2,i3,i5]
     ·refine⟨0,om,rfl,rfl,?_⟩;rw[show((5+0:Nat):Int)=5 from rfl];simp(disch:=decide) only[h12]
 ·rw[if_neg c1] at h;have A:=ihV _ _ _ h hi hd;cases r with
  |er t=>
   obtain⟨i',d',A⟩:=A;have E:∀ st p,Cl st p (pC ts i d)->∀ K Kp,XB θ base 158 [.ptr p 0] st K Kp=_:=λst p C K Kp=>A.xb C rfl (λst=>hb.no 158 dc _ _) K Kp;refine⟨i',d',?_⟩;unfold pC at *;refine jC gp (by rfl) (hb.pur 133 3 dc) rfl ?_;simp only[Ud,jn,ν,ξ,τ,υ];rw[(by unfold Y0;simp only[qq];rfl:Y0=_)];repeat'(first|apply jd<;>intro _|simp(disch:=first|exact dzD|fail) only[T,c1,E,r6,γ,δ,ε,ζ,η])
   (refine G1.done ?_ (by rfl) (by rfl) ?_;(· (first|exact cyD|fail));(· first|exact vyD|skip))
  |ok x j=>
   have A:PM _ _ _ _ _ _ _:=A;have E:∀ st p,Cl st p (pC ts i d)->∀ K Kp,XB θ base 158 [.ptr p 0] st K Kp=_:=λst p C K Kp=>A.xb C rfl (λst=>hb.no 158 dc _ _) K Kp;show PM _ _ _ _ _ _ _;unfold pC at *;refine jC gp (by rfl) (hb.pur 133 3 dc) rfl ?_;simp only[Ud,jn,ν,ξ,τ,υ];rw[(by unfold Y0;simp only[qq];rfl:Y0=_)];repeat'(first|apply jd<;>intro _|simp(disch:=first|exact dzD|fail) only[T,c1,E,r6,γ,δ,ε,ζ,η])
   (refine G1.done ?_ (by rfl) (by rfl) ?_;(· (first|exact cyD|fail));(· first|exact vyD|skip))
theorem WV {α:Type}{enc:α->List AV}{z:Nat}(hz:∀ x,(enc x).length=z)(x:α)(xs:List α){k:IntKind}{n:Nat}(hn:n=xs.length+1){st:St}{K:AV->St->Prop}:jl (vB z (.lst n (fl enc (x :: xs))) (some (.int k 1)) none st) K=K (.lst xs.length (fl enc xs)) st:=by
 subst hn;have e1:Qcd 1 (xs.length+1)=true:=yn om;have e2:Qcd (xs.length+1) (xs.length+1)=true:=yn (φ _);have e3:Qcd (Qcf (xs.length+1) z) (jM (fl enc (x :: xs)))=true:=yn (by rw[jO,Yh hz];exact φ _);have e4:(AV.int k 1)=.int k ((1:Nat):Int):=rfl;have e5:yu (y5 (fl enc (x :: xs)) (Qcf 1 z)) (Qcf (Qcg (xs.length+1) 1) z)=fl enc xs:=by
  rw[q8,y4];show((fl enc (x :: xs)).drop (1 * z)).take ((xs.length+1 - 1) * z)=_;rw[UF hz,Nat.add_sub_cancel];show(fl enc xs).take _=_;rw[<-Yh hz,Qaw]
 rw[e4];simp only[vB,optA,HW,e1,e2,e3,cond_true,jl];rw[e5];rfl
theorem Zf (v:Lev):(J5 v).length=2:=nr rfl
theorem uJ (v:Lev)(l:List Lev){st:St}{K:AV->St->Prop}:jl (zm (.lptr (fl J5 (v :: l)) 0) st) K=K (.lst v.1.length (v.1.map .str)) st:=Z2 (by rw[XN,Qag,Zf];omega)
theorem Vt (v:Lev)(l:List Lev){st:St}{K:AV->St->Prop}:jl (zm (.lptr (fl J5 (v :: l)) 1) st) K=K (.int .i64 (v.2:Int)) st:=Z2 (by rw[XN,Qag,Zf];omega)
theorem gC {b:Nat}{cs:List AV}{h:T AO}(ho:0+5<=qz h b)(hv:rats h b 0 5=cs)(hc:cs.all eqs=true):(jW θ 88 (.ptr b 0) (.agg cs) h=true)=True:=eq_true (wa jkl jkk dc ho hv hc)
theorem gD {b:Nat}{cs:List AV}{h:T AO}(ho:0+6<=qz h b)(hv:rats h b 0 6=cs)(hc:cs.all eqs=true):(jW θ 37 (.ptr b 0) (.agg cs) h=true)=True:=eq_true (wa jf8 jf7 dc ho hv hc)
theorem ZW (x:Ex):(eE x).all eqs=true:=nr (by rw[qO];rfl)
theorem Z1 (t:Tk):t.cells.all eqs=true:=nr rfl
def EK (ts:List Tk)(d:Nat)(r:PR)(v:AV)(s:St):Prop:=match r with | .ok y j=>G1 3 (pC ts j d) (.agg (eE y)) v s | .er _=>False
def EP (ts:List Tk)(r:PR)(v:AV)(s:St):Prop:=match r with | .ok _ _=>False | .er t=>∃ i' d',G1 3 (pC ts i' d') (er t) v s
theorem jbD (ts:List Tk)(d:Nat)(y:Ex)(j:Nat)(v:AV)(s:St):EK ts d (.ok y j) v s=G1 3 (pC ts j d) (.agg (eE y)) v s:=nr rfl
theorem jgN (ts:List Tk)(t:Tk)(v:AV)(s:St):EP ts (.er t) v s = ∃ i' d',G1 3 (pC ts i' d') (er t) v s:=nr rfl
theorem jfI {f:FuncId}{F:XF}(hl:jF θ f=some F)(hnd:F.body.nd=true)(hm:base.pur f=3){xs:List AV}{ts:List Tk}{i d:Nat}{r:PR}
  (h:xC θ base F.body (jn F.ps (.ptr 0 0 :: xs)) (nw st0 (pC ts i d)) (Yn θ F.res (EK ts d r)) λv _ s=>EP ts r v s.bare):Ans base f (pC ts i d) xs ts d r:=by
 rw[<-uG] at h;obtain⟨q,he,hq⟩:=XR (st:=Xc (pC ts i d)) (K:=EK ts d r) (Kp:=EP ts r) hl hnd h;cases r with
 |ok y j=>
  refine PM.of hm rfl ⟨q,he,?_⟩;cases q<;>first|exact hq|exact hq.elim
 |er t=>
  cases q with
  |no=>exact hq.elim
  |ok v s=>exact(hq:False).elim
  |pn v s=>
   obtain⟨i',d',hq⟩:=(hq:∃ i' d',G1 3 (pC ts i' d') (er t) v s);exact⟨i',d',PM.of hm rfl ⟨_,he,hq⟩⟩
set_option maxHeartbeats 4000000 in
theorem jjA (hb:NB base){ts:List Tk}(W:Wds ts){n:Nat}(ihE:∀ m,m<=n->IsE base ts m)(ihP:IsP base ts n):IsE base ts (n+1):=by
 intro lv i d r h hi hd ok;have wl:=W.len;unfold qy at h;cases lv with
 |nil=>
  dsimp only at h;have A:=ihP _ _ _ h hi hd;cases r with
  |er t=>
   obtain⟨i',d',A⟩:=A;have E:∀ st p,Cl st p (pC ts i d)->∀ K Kp,XB θ base 133 [.ptr p 0] st K Kp=_:=λst p C K Kp=>A.xb C rfl (λst=>hb.no 133 dc _ _) K Kp;refine⟨i',d',?_⟩;unfold pC at *;refine jC x93 (by rfl) (hb.pur 93 3 dc) rfl ?_;simp only[y93,jn,ν,ξ,τ,υ];rw[(by unfold z93;simp only[qq];rfl:z93=_)];repeat'(first|apply jd<;>intro _|simp(disch:=first|exact dzD|fail) only[E,r6,γ,δ,ε,ζ,η])
   (refine G1.done ?_ (by rfl) (by rfl) ?_;(· (first|exact cyD|fail));(· first|exact vyD|skip))
  |ok x j=>
   have A:PM _ _ _ _ _ _ _:=A;have E:∀ st p,Cl st p (pC ts i d)->∀ K Kp,XB θ base 133 [.ptr p 0] st K Kp=_:=λst p C K Kp=>A.xb C rfl (λst=>hb.no 133 dc _ _) K Kp;show PM _ _ _ _ _ _ _;unfold pC at *;refine jC x93 (by rfl) (hb.pur 93 3 dc) rfl ?_;simp only[y93,jn,ν,ξ,τ,υ];rw[(by unfold z93;simp only[qq];rfl:z93=_)];repeat'(first|apply jd<;>intro _|simp(disch:=first|exact dzD|fail) only[E,r6,γ,δ,ε,ζ,η])
   (refine G1.done ?_ (by rfl) (by rfl) ?_;(· (first|exact cyD|fail));(· first|exact vyD|skip))
 |cons v l=>
  dsimp only at h;have hlen:(0:Int)<((l.length+1:Nat):Int):=om
  have hlen2:¬ ((l.length+1:Nat):Int)=0:=om
  cases he:qy ts n l i d with
  |none=>rw[he] at h;cases h
  |some q=>
   have A:=ihE n (φ _) _ _ _ _ he hi hd ⟨by have:=ok.1;simp at this;omega,λw hw=>ok.2 w (Qbn _ hw)⟩;have hz:=(wG W n).1 _ _ _ _ he hi;cases q with
   |er t=>
    rw[he] at h;cases h;obtain⟨i',d',A⟩:=A;have E:∀ st p,Cl st p (pC ts i d)->∀ K Kp,XB θ base 93 [.ptr p 0,.lst l.length (fl J5 l)] st K Kp=_:=λst p C K Kp=>A.xb C rfl (λst=>hb.no 93 dc _ _) K Kp;refine⟨i',d',?_⟩;unfold pC at *;refine jC x93 (by rfl) (hb.pur 93 3 dc) rfl ?_;simp only[y93,jn,ν,ξ,τ,υ];rw[(by unfold z93;simp only[qq];rfl:z93=_)];repeat'(first|apply jd<;>intro _|simp(disch:=first|exact dzD|fail) only[E,hlen2,WV Zf v l,r6,γ,δ,ε,ζ,η])
    (refine G1.done ?_ (by rfl) (by rfl) ?_;(· (first|exact cyD|fail));(· first|exact vyD|skip))
   |ok x j=>
    rw[he] at h;dsimp only at h;have A:PM _ _ _ _ _ _ _:=A;have E:∀ st p,Cl st p (pC ts i d)->∀ K Kp,XB θ base 93 [.ptr p 0,.lst l.length (fl J5 l)] st K Kp=_:=λst p C K Kp=>A.xb C rfl (λst=>hb.no 93 dc _ _) K Kp;have hj:j<ts.length:=hz.2.1;show Ans base 93 (pC ts i d) [.lst (v :: l).length (fl J5 (v :: l))] ts d r;refine jfI x93 (by rfl) (hb.pur 93 3 dc) ?_;simp only[y93,jn,ν,ξ,τ,υ];rw[(by unfold z93;simp only[qq];rfl:z93=_)];unfold pC at *;repeat'(first|apply jd<;>intro _|simp(disch:=first|exact dzD|fail) only[E,hlen2,WV Zf v l,r6,γ,δ,ε,ζ,η])
    refine yF λu hu=>?_;have n0:3<=u.nx:=by rw[hu];exact φ _
    have C0:Cl u 0 (pC ts j d):=by
     rw[hu];unfold pC
     (first|exact cyD|fail)
    have C1:Cl u 1 [.int .i64 0,.int .i64 0,.str [],.nils,.int .i64 0,.int .i64 0]:=by
     rw[hu]
     (first|exact cyD|fail)
    have C2:Cl u 2 (eE x):=by
     rw[hu]
     (first|exact cyD|fail)
    clear hu E A;refine qB (λmm L s=>∃ (m i':Nat) (x':Ex),m<=n/\mm=m/\yv ts m v l x' i' d=some r/\i'<ts.length/\3<=s.nx/\Cl s 0 (pC ts i' d)/\Cl s 1 [.int .i64 0,.int .i64 0,.str [],.nils,.int .i64 0,.int .i64 0]/\Cl s 2 (eE x')/\Has L 0 (.ptr 0 0)/\Has L 1 (.lst (l.length+1) (fl J5 (v :: l)))/\Has L 4 (.ptr 1 0)/\Has L 5 (.ptr 2 0)) ?_ n ?_
    ·rintro m L s ⟨_,i',x',hm,rfl,hl,hi',n0,C0,C1,C2,i0,i1,i4,i5⟩;cases m with
     |zero=>simp[yv] at hl
     |succ m=>
     unfold yv at hl;have hx:(i':Int)+1=((i'+1:Nat):Int):=om
     have T:=λst p=>@jiW base hb ts i' d hi' om v.1 (by have:=ok.2 v (by simp);omega) st p;have R2:rats s.h 2 0 6=eE x':=(C2.ratsP 6 0 (by rw[Jr];decide)).trans (by rw[QaO,<-Jr x',Qaw]);have l2:=C2.len;rw[Jr] at l2;have L0:=C0.lt;have L1:=C1.lt;have L2:=C2.lt;by_cases c1:isM (tk ts i') v.1=true
     ·rw[if_pos c1] at hl;have hi1:=W.isM hi' c1;have hw:=λy=>jku hb (tk ts i') x' y;by_cases w1:v.2=1
      ·rw[if_pos w1] at hl;have w1':(v.2:Int)=1:=om
       cases he2:qy ts m (v :: l) (i'+1) d with
       |none=>rw[he2] at hl;cases hl
       |some q=>
        have A:=ihE m om _ _ _ _ he2 hi1 hd ok;cases q with
        |er t=>
         rw[he2] at hl;cases hl;obtain⟨i2,d2,A⟩:=A;have E:∀ st p,Cl st p (pC ts (i'+1) d)->∀ K Kp,XB θ base 93 [.ptr p 0,.lst (l.length+1) (fl J5 (v :: l))] st K Kp=_:=λst p C K Kp=>A.xb C rfl (λst=>hb.no 93 dc _ _) K Kp;unfold pC at *
         (have zz:=aI @ZW (aI @Z1 (aI @R2 (aI @l2 (aI C0.r C1.r))));(repeat'(first|apply jd<;>intro _|simp(disch:=first|exact jK|fail) only[ja i0,ja i1,ja i4,ja i5,T,c1,E,w1',uJ,Vt,gC,gD,gv i5,jgN,R2,C0.q,C1.q,ZW,Z1,R2,l2,C0.r,C1.r,r6,γ,δ,ε,ζ,η]));all_goals clear zz)
         refine⟨i2,d2,?_⟩;unfold pC
         (refine G1.done ?_ (by rfl) (by rfl) ?_;(· (have zz:=aI C0.q (aI C1.q (aI C2.q (aI C0.r (aI C1.r C2.r))));first|exact ju|fail));(· first|exact vyD|skip))
        |ok y j=>
         rw[he2] at hl;cases hl;have A:PM _ _ _ _ _ _ _:=A;have E:∀ st p,Cl st p (pC ts (i'+1) d)->∀ K Kp,XB θ base 93 [.ptr p 0,.lst (l.length+1) (fl J5 (v :: l))] st K Kp=_:=λst p C K Kp=>A.xb C rfl (λst=>hb.no 93 dc _ _) K Kp;unfold pC at *
         (have zz:=aI @ZW (aI @Z1 (aI @R2 (aI @l2 (aI C0.r C1.r))));(repeat'(first|apply jd<;>intro _|simp(disch:=first|exact jK|fail) only[ja i0,ja i1,ja i4,ja i5,T,c1,E,w1',uJ,Vt,gC,gD,gv i5,jbD,<-qO,hw,R2,C0.q,C1.q,ZW,Z1,R2,l2,C0.r,C1.r,r6,γ,δ,ε,ζ,η]));all_goals clear zz)
         unfold pC
         (refine G1.done ?_ (by rfl) (by rfl) ?_;(· (have zz:=aI C0.q (aI C1.q (aI C2.q (aI C0.r (aI C1.r C2.r))));first|exact ju|fail));(· first|exact vyD|skip))
      ·rw[if_neg w1] at hl;have w1':¬ (v.2:Int)=1:=om
       cases he2:qy ts m l (i'+1) d with
       |none=>rw[he2] at hl;cases hl
       |some q=>
        have A:=ihE m om _ _ _ _ he2 hi1 hd ⟨by have:=ok.1;simp at this;omega,λw hw=>ok.2 w (Qbn _ hw)⟩;have hz2:=(wG W m).1 _ _ _ _ he2 hi1;cases q with
        |er t=>
         rw[he2] at hl;cases hl;obtain⟨i2,d2,A⟩:=A;have E:∀ st p,Cl st p (pC ts (i'+1) d)->∀ K Kp,XB θ base 93 [.ptr p 0,.lst l.length (fl J5 l)] st K Kp=_:=λst p C K Kp=>A.xb C rfl (λst=>hb.no 93 dc _ _) K Kp;unfold pC at *
         (have zz:=aI @ZW (aI @Z1 (aI @R2 (aI @l2 (aI C0.r C1.r))));(repeat'(first|apply jd<;>intro _|simp(disch:=first|exact jK|fail) only[ja i0,ja i1,ja i4,ja i5,T,c1,E,w1',uJ,Vt,gC,gD,gv i5,jgN,WV Zf v l,R2,C0.q,C1.q,ZW,Z1,R2,l2,C0.r,C1.r,r6,γ,δ,ε,ζ,η]));all_goals clear zz)
         refine⟨i2,d2,?_⟩;unfold pC
         (refine G1.done ?_ (by rfl) (by rfl) ?_;(· (have zz:=aI C0.q (aI C1.q (aI C2.q (aI C0.r (aI C1.r C2.r))));first|exact ju|fail));(· first|exact vyD|skip))
        |ok y j=>
         rw[he2] at hl;dsimp only at hl;have A:PM _ _ _ _ _ _ _:=A;have hj2:j<ts.length:=hz2.2.1;have E:∀ st p,Cl st p (pC ts (i'+1) d)->∀ K Kp,XB θ base 93 [.ptr p 0,.lst l.length (fl J5 l)] st K Kp=_:=λst p C K Kp=>A.xb C rfl (λst=>hb.no 93 dc _ _) K Kp;by_cases w2:v.2=2
         ·rw[if_pos w2] at hl;cases hl;have w2':(v.2:Int)=2:=om
          unfold pC at *
          (have zz:=aI @ZW (aI @Z1 (aI @R2 (aI @l2 (aI C0.r C1.r))));(repeat'(first|apply jd<;>intro _|simp(disch:=first|exact jK|fail) only[ja i0,ja i1,ja i4,ja i5,T,c1,E,w1',w2',uJ,Vt,gC,gD,gv i5,jbD,<-qO,hw,WV Zf v l,R2,C0.q,C1.q,ZW,Z1,R2,l2,C0.r,C1.r,r6,γ,δ,ε,ζ,η]));all_goals clear zz)
          unfold pC
          (refine G1.done ?_ (by rfl) (by rfl) ?_;(· (have zz:=aI C0.q (aI C1.q (aI C2.q (aI C0.r (aI C1.r C2.r))));first|exact ju|fail));(· first|exact vyD|skip))
         ·rw[if_neg w2] at hl;have w2':¬ (v.2:Int)=2:=om
          unfold pC at *
          (have zz:=aI @ZW (aI @Z1 (aI @R2 (aI @l2 (aI C0.r C1.r))));(repeat'(first|apply jd<;>intro _|simp(disch:=first|exact jK|fail) only[ja i0,ja i1,ja i4,ja i5,T,c1,E,w1',w2',uJ,Vt,gC,gD,gv i5,<-qO,hw,WV Zf v l,R2,C0.q,C1.q,ZW,Z1,R2,l2,C0.r,C1.r,r6,γ,δ,ε,ζ,η]));all_goals clear zz)
          refine⟨m,om,m,j,yp (tk ts i') x' y,om,rfl,hl,hj2,om,?_,?_,?_,?_⟩
          ·(have zz:=aI C0.q (aI C1.q (aI C2.q (aI C0.r (aI C1.r C2.r))));first|exact ju|fail)
          ·(have zz:=aI C0.q (aI C1.q (aI C2.q (aI C0.r (aI C1.r C2.r))));first|exact ju|fail)
          ·(have zz:=aI C0.q (aI C1.q (aI C2.q (aI C0.r (aI C1.r C2.r))));first|exact ju|fail)
          ·simp(disch:=decide) only[h12,i0,i1,i4,i5]
     ·rw[if_neg c1] at hl;cases hl;unfold pC at *
      (have zz:=aI @R2 (aI @l2 (aI C0.r C1.r));(repeat'(first|apply jd<;>intro _|simp(disch:=first|exact jK|fail) only[ja i0,ja i1,ja i4,ja i5,T,c1,uJ,jbD,<-qO,R2,C0.q,C1.q,R2,l2,C0.r,C1.r,r6,γ,δ,ε,ζ,η]));all_goals clear zz)
      unfold pC
      (refine G1.done ?_ (by rfl) (by rfl) ?_;(· (have zz:=aI C0.q (aI C1.q (aI C2.q (aI C0.r (aI C1.r C2.r))));first|exact ju|fail));(· first|exact vyD|skip))
    ·refine⟨n,j,x,φ _,rfl,h,hj,n0,C0,C1,C2,?_⟩;simp(disch:=decide) only[h12]
mutual
def Ex.ev (q:Ex->Prop):Ex->Prop
 |.mk o n nm ks l c=>q (.mk o n nm ks l c)/\Ex.evs q ks
def Ex.evs (q:Ex->Prop):List Ex->Prop
 |[]=>True
 |x :: xs=>x.ev q/\Ex.evs q xs
end
def atW (ts:List Tk)(x:Ex):Prop:=x.op≠4/\∃ k,k<ts.length/\(tk ts k).kind≠5/\x.line=(tk ts k).line/\x.col=(tk ts k).col
def GoodR (ts:List Tk)(i:Nat):PR->Prop
 |.ok x j=>i<=j/\j<ts.length/\x.ev (atW ts)
 |.er t=>∃ k,k<ts.length/\t=tk ts k
theorem GoodR.le {ts:List Tk}{i j:Nat}{r:PR}(h:GoodR ts j r)(hij:i<=j):GoodR ts i r:=by
 cases r with
 |ok x k=>exact⟨ω hij h.1,h.2⟩
 |er t=>exact h
def okT (l:List Lev):Prop:=∀ v∈l,∀ s∈v.1,(Jg s).isSome=true
theorem Yx:okT jU:=by
 have:(jU.all λv=>v.1.all λs=>(Jg s).isSome)=true:=by decide +kernel
 intro v hv s hs;rw[Qah] at this;have h:=this v hv;rw[Qah] at h;exact h s hs
theorem we {ts:List Tk}{k:Nat}(hk:k<ts.length)(h5:(tk ts k).kind≠5){o n:Int}{nm:List Nat}{ks:List Ex}(ho:o≠4)(h:Ex.evs (atW ts) ks):(Ex.mk o n nm ks (tk ts k).line (tk ts k).col).ev (atW ts):=
 ⟨⟨ho,k,hk,h5,rfl,rfl⟩,h⟩
theorem WW {ts:List Tk}{k:Nat}(hk:k<ts.length)(h5:(tk ts k).kind≠5){x y:Ex}(hx:x.ev (atW ts))(hy:y.ev (atW ts))(ht:(Jg (tk ts k).text).isSome=true):(yp (tk ts k) x y).ev (atW ts):=by
 unfold yp;split
 ·refine we hk h5 om ⟨hx,hy,trivial⟩
 ·rename_i h;rw[h] at ht;cases ht
theorem w6 {t:Tk}{S:List (List Nat)}(h:isM t S=true):t.kind≠5:=by have:=(q9 h).1;omega
def Anw (f:Nat->Option PR)(Q:PR->Prop):Prop:=∃ N r,Q r/\∀ n,N<=n->f n=some r
theorem Anw.mono {f:Nat->Option PR}{Q R:PR->Prop}(h:Anw f Q)(k:∀ r,Q r->R r):Anw f R:=by
 obtain⟨N,r,h1,h2⟩:=h;exact⟨N,r,k r h1,h2⟩
theorem jgY {f g:Nat->Option PR}{Q:PR->Prop}(h:Anw f Q)(k:∀ n,g (n+1)=f n):Anw g Q:=by
 obtain⟨N,r,h1,h2⟩:=h;refine⟨N+1,r,h1,λn hn=>?_⟩;obtain⟨m,rfl⟩:∃ m,n=m+1:=⟨n - 1,om⟩;rw[k,h2 m om]
theorem ZO {g:Nat->Option PR}{Q:PR->Prop}(r:PR)(hQ:Q r)(k:∀ n,g (n+1)=some r):Anw g Q:=by
 refine⟨1,r,hQ,λn hn=>?_⟩;obtain⟨m,rfl⟩:∃ m,n=m+1:=⟨n - 1,om⟩;exact k m
theorem V6 {f g:Nat->Option PR}{Q R:PR->Prop}(F:Ex->Nat->Nat->Option PR)(h:Anw f Q)(k:∀ n,g (n+1)=(match f n with|some (.ok x j)=>F x j n|r=>r))(he:∀ t,Q (.er t)->R (.er t))(ho:∀ x j,Q (.ok x j)->Anw (F x j) R):Anw g R:=by
 obtain⟨N,r,h1,h2⟩:=h;cases r with
 |er t=>
  refine⟨N+1,.er t,he t h1,λn hn=>?_⟩;obtain⟨m,rfl⟩:∃ m,n=m+1:=⟨n - 1,om⟩;rw[k,h2 m om]
 |ok x j=>
  obtain⟨M,r,h3,h4⟩:=ho x j h1;refine⟨max N M+1,r,h3,λn hn=>?_⟩;obtain⟨m,rfl⟩:∃ m,n=m+1:=⟨n - 1,om⟩;rw[k,h2 m om];exact h4 m om
theorem V5 {f:Nat->Option PR}{Q:PR->Prop}(r:PR)(hQ:Q r)(k:∀ n,f n=some r):Anw f Q:=⟨0,r,hQ,λn _=>k n⟩
structure AnsM (ts:List Tk)(m:Nat):Prop where
 e:∀ i d l,i<ts.length->ts.length<=i+m->d<=60->okT l->Anw (λn=>qy ts n l i d) (GoodR ts (i+1))
 p:∀ i d,i<ts.length->ts.length<=i+m->d<=60->Anw (λn=>yL ts n i d) (GoodR ts (i+1))
 o:∀ i d v l x,i<ts.length->ts.length<=i+m->d<=60->okT (v :: l)->x.ev (atW ts)->Anw (λn=>yv ts n v l x i d) (GoodR ts i)
theorem jbS {ts:List Tk}(W:Wds ts):∀ m,AnsM ts m
 |0=>⟨λi d l h1 h2=>by omega,λi d h1 h2=>by omega,λi d v l x h1 h2=>by omega⟩
 |m+1=>by
  have ih:=jbS W m;have hv:∀ i d,i<ts.length->ts.length<=i+(m+1)->d<=60->Anw (λn=>zr ts n i d) (GoodR ts (i+1)):=by
   intro i d hi hm hd;by_cases h2:(tk ts i).kind=2
   ·exact ZO (.ok (.mk 1 (tk ts i).num [] [] (tk ts i).line (tk ts i).col) (i+1)) ⟨φ _,W.next i hi om,we hi om dc (ks:=[]) trivial⟩ λn=>by simp only[zr];rw[if_pos h2]
   by_cases h1:(tk ts i).kind=1
   ·exact ZO (.ok (.mk 3 0 (tk ts i).text [] (tk ts i).line (tk ts i).col) (i+1)) ⟨φ _,W.next i hi om,we hi om dc (ks:=[]) trivial⟩ λn=>by simp only[zr];rw[if_neg h2,if_pos h1]
   by_cases ht:isM (tk ts i) [[116,114,117,101]]=true
   ·exact ZO (.ok (.mk 2 1 [] [] (tk ts i).line (tk ts i).col) (i+1)) ⟨φ _,W.isM hi ht,we hi (w6 ht) dc (ks:=[]) trivial⟩ λn=>by simp only[zr];rw[if_neg h2,if_neg h1,if_pos ht]
   by_cases hf:isM (tk ts i) [[102,97,108,115,101]]=true
   ·exact ZO (.ok (.mk 2 0 [] [] (tk ts i).line (tk ts i).col) (i+1)) ⟨φ _,W.isM hi hf,we hi (w6 hf) dc (ks:=[]) trivial⟩ λn=>by simp only[zr];rw[if_neg h2,if_neg h1,if_neg ht,if_pos hf]
   by_cases hp:isM (tk ts i) [[40]]=true
   ·have hi1:=W.isM hi hp;by_cases h60:60<d+1
    ·exact ZO (.er _) ⟨i+1,hi1,rfl⟩ λn=>by simp only[zr];rw[if_neg h2,if_neg h1,if_neg ht,if_neg hf,if_pos hp,if_pos h60]
    ·refine V6 (λx j n=>if isM (tk ts j) [[41]]=true then some (.ok x (j+1)) else some (.er (tk ts j))) (ih.e (i+1) (d+1) jU hi1 om om Yx) (λn=>by simp only[zr];rw[if_neg h2,if_neg h1,if_neg ht,if_neg hf,if_pos hp,if_neg h60]<;>rfl) (λt h=>h) λx j h=>?_;by_cases hq:isM (tk ts j) [[41]]=true
     ·exact V5 (.ok x (j+1)) ⟨by have:=h.1;omega,W.isM h.2.1 hq,h.2.2⟩ λn=>if_pos hq
     ·exact V5 (.er (tk ts j)) ⟨j,h.2.1,rfl⟩ λn=>if_neg hq
   ·exact ZO (.er _) ⟨i,hi,rfl⟩ λn=>by simp only[zr];rw[if_neg h2,if_neg h1,if_neg ht,if_neg hf,if_neg hp]
  have hp:∀ i d,i<ts.length->ts.length<=i+(m+1)->d<=60->Anw (λn=>yL ts n i d) (GoodR ts (i+1)):=by
   intro i d hi hm hd;by_cases hp:isM (tk ts i) qT=true
   ·have hi1:=W.isM hi hp;by_cases h60:60<d+1
    ·exact ZO (.er _) ⟨i+1,hi1,rfl⟩ λn=>by simp only[yL];rw[if_pos hp,if_pos h60]
    ·refine V6 (λx j n=>some (.ok (.mk (Yw (tk ts i).text:Nat) 0 [] [x] (tk ts i).line (tk ts i).col) j)) (ih.p (i+1) (d+1) hi1 om om) (λn=>by simp only[yL];rw[if_pos hp,if_neg h60]<;>rfl) (λt h=>h) λx j h=>?_;exact V5 (.ok (.mk (Yw (tk ts i).text:Nat) 0 [] [x] (tk ts i).line (tk ts i).col) j) ⟨by have:=h.1;omega,h.2.1,we hi (w6 hp) (by unfold Yw;omega) (ks:=[x]) ⟨h.2.2,trivial⟩⟩ λn=>rfl
   ·exact jgY (hv i d hi hm hd) λn=>by simp only[yL];rw[if_neg hp]
  have he:∀ l i d,i<ts.length->ts.length<=i+(m+1)->d<=60->okT l->Anw (λn=>qy ts n l i d) (GoodR ts (i+1)):=by
   intro l;induction l with
   |nil=>intro i d hi hm hd hl;exact jgY (hp i d hi hm hd) λn=>by simp only[qy]
   |cons v l ihl=>
    intro i d hi hm hd hl;refine V6 (λx j n=>yv ts n v l x j d) (ihl i d hi hm hd λw hw=>hl w (Qbn _ hw)) (λn=>by simp only[qy]<;>rfl) (λt h=>h) λx j h=>?_;exact(ih.o j d v l x h.2.1 (by have:=h.1;omega) hd hl h.2.2).mono λr hr=>hr.le h.1
  refine⟨λi d l h1 h2 h3 h4=>he l i d h1 h2 h3 h4,hp,λi d v l x hi hm hd hl hx=>?_⟩;by_cases hs:isM (tk ts i) v.1=true
  ·have hi1:=W.isM hi hs;have ht:(Jg (tk ts i).text).isSome=true:=hl v (QbY ..) _ (q9 hs).2;have hl':okT l:=λw hw=>hl w (Qbn _ hw);by_cases hw:v.2=1
   ·refine V6 (λy j n=>some (.ok (yp (tk ts i) x y) j)) (ih.e (i+1) d (v :: l) hi1 om hd hl) (λn=>by simp only[yv];rw[if_pos hs,if_pos hw]<;>rfl) (λt h=>h) λy j h=>?_;exact V5 (.ok (yp (tk ts i) x y) j) ⟨by have:=h.1;omega,h.2.1,WW hi (w6 hs) hx h.2.2 ht⟩ λn=>rfl
   ·refine V6 (λy j n=>if v.2=2 then some (.ok (yp (tk ts i) x y) j) else yv ts n v l (yp (tk ts i) x y) j d) (ih.e (i+1) d l hi1 om hd hl') (λn=>by simp only[yv];rw[if_pos hs,if_neg hw]<;>rfl) (λt h=>h) λy j h=>?_;have hxy:=WW hi (w6 hs) hx h.2.2 ht;by_cases h2:v.2=2
    ·exact V5 (.ok (yp (tk ts i) x y) j) ⟨by have:=h.1;omega,h.2.1,hxy⟩ λn=>if_pos h2
    ·obtain⟨N,r,h3,h4⟩:=ih.o j d v l _ h.2.1 (by have:=h.1;omega) hd hl hxy;exact⟨N,r,h3.le (by have:=h.1;omega),λn hn=>(if_neg h2).trans (h4 n hn)⟩
  ·exact ZO (.ok x i) ⟨φ _,hi,hx⟩ λn=>by simp only[yv];rw[if_neg hs]
theorem reads (hb:NB base){ts:List Tk}(W:Wds ts):∀ n,IsE base ts n/\IsP base ts n/\IsV base ts n:=by
 have key:∀ n,∀ m,m<=n->IsE base ts m/\IsP base ts m/\IsV base ts m:=by
  intro n;induction n with
  |zero=>
   intro m hm;obtain rfl:m=0:=om
   exact⟨λ_ _ _ _ h=>(by simp[qy] at h),λ_ _ _ h=>(by simp[yL] at h),λ_ _ _ h=>(by simp[zr] at h)⟩
  |succ n ih=>
   intro m hm;by_cases h:m<=n
   ·exact ih m h
   ·obtain rfl:m=n+1:=om
    obtain⟨h1,h2,h3⟩:=ih n (φ _);exact⟨jjA hb W (λk hk=>(ih k hk).1) h2,je2 hb W h2 h3,jg7 hb W h1⟩
 exact λn=>key n n (φ _)
def Y2 (ts:List Tk)(i:Nat)(r0:PR):PR:=match r0 with
 |.er t=>.er t
 |.ok x j=>if zC 60 x=true then .ok x j else .er (tk ts i)
def EvR (ts:List Tk)(i:Nat)(r:PR):Prop:=∃ N,∀ n,N<=n->qy ts n jU i 0=some r
theorem EvR.uniq {ts:List Tk}{i:Nat}{r q:PR}(h:EvR ts i r)(k:EvR ts i q):r=q:=by
 obtain⟨N,h⟩:=h;obtain⟨M,k⟩:=k;have:=(h (max N M) (Qak ..)).symm.trans (k (max N M) (Qal ..));exact Option.some.inj this
open Classical in
def qM (ts:List Tk)(i:Nat):PR:=if h:∃ r,EvR ts i r then Y2 ts i h.choose else .er (tk ts i)
theorem Yb {ts:List Tk}{i:Nat}{r:PR}(h:EvR ts i r):qM ts i=Y2 ts i r:=by
 unfold qM;rw[dif_pos ⟨r,h⟩];have:=(⟨r,h⟩:∃ r,EvR ts i r).choose_spec;rw[this.uniq h]
theorem evR {ts:List Tk}(W:Wds ts){i:Nat}(hi:i<ts.length):∃ r,GoodR ts (i+1) r/\EvR ts i r:=by
 obtain⟨N,r,hg,hr⟩:=(jbS W ts.length).e i 0 jU hi om dc Yx;exact⟨r,hg,N,hr⟩
theorem Uj (hb:NB base){ts:List Tk}(W:Wds ts){i:Nat}(hi:i<ts.length):Ans base 48 (pC ts i 0) [] ts 0 (qM ts i):=by
 obtain⟨r,_,hr⟩:=evR W hi;rw[Yb hr];obtain⟨N,hr⟩:=hr;have he:=hr N (φ _);have A:=(reads hb W N).1 _ _ _ _ he hi om ⟨dc,dc⟩;have hz:=(wG W N).1 _ _ _ _ he hi;have hN:=λst p=>@X4 base hb ts i 0 hi st p;have hL:=hY hb;cases r with
 |er t=>
  obtain⟨i',d',A⟩:=A;have E:∀ st p,Cl st p (pC ts i 0)->∀ K Kp,XB θ base 93 [.ptr p 0,.lst 8 (fl J5 jU)] st K Kp=_:=λst p C K Kp=>A.xb C rfl (λst=>hb.no 93 dc _ _) K Kp;refine⟨i',d',?_⟩;unfold pC at *;refine jC x48 (by rfl) (hb.pur 48 3 dc) rfl ?_;simp only[y48,jn,ν,ξ,τ,υ];rw[(by unfold z48;simp only[qq];rfl:z48=_)];repeat'(first|apply jd<;>intro _|simp(disch:=first|exact dzD|fail) only[hN,hL,E,r6,γ,δ,ε,ζ,η])
  (refine G1.done ?_ (by rfl) (by rfl) ?_;(· (first|exact cyD|fail));(· first|exact vyD|skip))
 |ok x j=>
  have A:PM _ _ _ _ _ _ _:=A;have E:∀ st p,Cl st p (pC ts i 0)->∀ K Kp,XB θ base 93 [.ptr p 0,.lst 8 (fl J5 jU)] st K Kp=_:=λst p C K Kp=>A.xb C rfl (λst=>hb.no 93 dc _ _) K Kp;have hx:szE x<=BIG:=by
   have h1:=hz.2.2;have h2:(j - i) * 65537<=1000000 * 65537:=QaT _ (by have:=W.len;have:=hz.2.1;omega);have h3:1000000 * 65537<=BIG:=dc
   exact ω h1 (by rw[Qab];exact ω h2 h3)
  have hR:=jhX hb x hx;unfold Y2;dsimp only;by_cases c:zC 60 x=true
  ·rw[if_pos c];show PM _ _ _ _ _ _ _;unfold pC at *;refine jC x48 (by rfl) (hb.pur 48 3 dc) rfl ?_;simp only[y48,jn,ν,ξ,τ,υ];rw[(by unfold z48;simp only[qq];rfl:z48=_)];repeat'(first|apply jd<;>intro _|simp(disch:=first|exact dzD|fail) only[hN,hL,E,hR,c,<-qO,r6,γ,δ,ε,ζ,η])
   (refine G1.done ?_ (by rfl) (by rfl) ?_;(· (first|exact cyD|fail));(· first|exact vyD|skip))
  ·rw[if_neg c];refine⟨j,0,?_⟩;unfold pC at *;refine jC x48 (by rfl) (hb.pur 48 3 dc) rfl ?_;simp only[y48,jn,ν,ξ,τ,υ];rw[(by unfold z48;simp only[qq];rfl:z48=_)];repeat'(first|apply jd<;>intro _|simp(disch:=first|exact dzD|fail) only[hN,hL,E,hR,c,JN hb,r6,γ,δ,ε,ζ,η])
   (refine G1.done ?_ (by rfl) (by rfl) ?_;(· (first|exact cyD|fail));(· first|exact vyD|skip))
def z9:XC:=(T0 [IY 2 [.nils,.nils,.nils],IY 3 [oR,oR,oR]] [Tb 7,TN 8 35 7,oK 6 8,TI 9 6 0,TI 10 6 1,oL 4 9,IU 3 3 10] (Om [LA 11 3,o5 12 11,oI 13 (oZ .neq 12 oR)] 13 (Lq [TB (IX 14 3 2) 2 27 [],TB (IX 15 3 3) 3 30 [],LD 3 2 14 0 [(0,30)],LD 3 3 15 0 []] .ret)) (T0 [II (.defer (o9 36 []) [3])] [Pe 16,To 17 [.nils,oR,oR] [((0,1),16)],oD 18 (.box 17),oL 5 18] (.dops [TC (oK 19 5),(LE 20 37 19 0 [],some [L5 20 0,O6 (IX 21 3 3) 3 30 [(0,0)],OO (II (.i (.mv T7))) 0,OO (II (.i (.mv T7))) 0]),TB (IX 21 3 3) 3 30 [(0,0)],LD 3 2 20 0 [(0,30)],LD 3 3 21 0 []]) .ret))
def y9:XF:=⟨[0],z9,[(.cA 2 3),(.cA 3 3)]⟩
theorem x9:jF θ 9=some y9:=by kernel_rfl
def z78:XC:=(oF [IY 2 [oW,.nils,oR,oR]] (Po (Px 7 8 126 7 3 [oR,oW,oR,oR,oR] 5 3 8) [La 9 3,o5 10 9,oU 11 3 3,o5 12 11,oU 13 4 3,o5 14 13,To 15 [oW,.nils,oR,oR] [((0,1),10),((2,1),12),((3,1),14)],IY 4 [oW,.nils,oR,oR],IU 4 4 15] (TT [Tb 16,LK 17 127 16 [123]] 0 (.block 1 (.seq (Om (Pv 18 19 49 18 (oD 20 (.fld1 0 19)) (Lk 21 .eql 20 1)) 21 (.dops [TK 22 1 4,Lc 23 22 22 91 [],TC (Lu 24 23),TC (Tb 25),(LE 26 49 25 0 [(2,91)],TZ),(Ts (Ls 27 77 24 26) 0 [],TZ)])) (Lq [TK 28 1 4,Lc 29 28 28 91 [],TC (Tb 30),(LE 31 126 30 0 [(1,91)],TZ),TC (oD 32 (.fld1 1 31)),TC (Tp 33 1 1 [oW] [((0,1),32)]),T8 (Pj 34 1 16 29 33) 0 [],TK 35 1 4,LD 1 35 34 0 []] (oF [Tb 37,Tp 38 1 1 [oW] [T6 0 44],Ls 39 76 37 38,oK 36 39,TI 40 36 0,TI 41 36 1,oD 5 (.alloc [oR,oW,oR,oR,oR]),IU 5 5 40,oL 6 41] (Om [oK 42 6,LH 43 42] 43 (T4 [Tb 44,LK 45 127 44 [125]] [IX 46 4 4,IU 4 2 46])))))))))
def y78:XF:=⟨[0],z78,[(.cA 2 4)]⟩
theorem x78:jF θ 78=some y78:=by kernel_rfl
def jay:XC:=(.seq (oF [Tb 45,Tp 46 1 1 [oW] [T6 0 61],Ls 47 76 45 46,oK 44 47,TI 48 44 0,TI 49 44 1,oD 7 (.alloc [oR,oW,oR,oR,oR]),IU 5 7 48,oL 8 49] (Lf [oL 50 8] 50 [Tb 51,TN 52 48 51,Tp 53 1 6 (LV oR oR oW oR oR) [((0,6),52)],oU 54 4 4,L9 54 53])) (T4 [Tb 55,LK 56 127 55 [59]] [IX 57 7 4,IU 7 2 57]))
def jaz:XC:=(.seq (oF [Tb 21,Tp 22 1 1 [oW] [TG 0 [98,111,111,108]],Ls 23 76 21 22,oK 20 23,TI 24 20 0,TI 25 20 1,oD 5 (.alloc [oR,oW,oR,oR,oR]),IU 5 5 24,oL 6 25] (Ie [oL 26 6] 26 (.ops [La 27 4,L9 27 (If [98,111,111,108])]) (Ie (Pv 28 29 49 28 (oD 30 (.fld1 0 29)) (Lk 31 .eql 30 1)) 31 (.ops [Tb 32,TN 33 126 32,oD 34 (.fld1 1 33),La 35 4,L9 35 34]) (Po (Pv 36 37 128 36 (oU 38 2 4) (L9 38 37)) [Tb 39,LK 40 127 39 [46,46]] (.ops (Pv 41 42 128 41 (oU 43 3 4) (L9 43 42))))))) jay)
def z79:XC:=(Po [IY 2 [oW,oW,oR,oR,.nils,oR,oR]] (Px 9 10 126 9 3 [oR,oW,oR,oR,oR] 5 3 10) (Po [La 11 3,o5 12 11,oU 13 3 3,o5 14 13,oU 15 4 3,o5 16 15,To 17 [oW,oW,oR,oR,.nils,oR,oR] [((0,1),12),((5,1),14),((6,1),16)],IY 4 [oW,oW,oR,oR,.nils,oR,oR],IU 7 4 17] [Tb 18,LK 19 127 18 [58]] jaz))
def y79:XF:=⟨[0],z79,[(.cA 2 7)]⟩
theorem x79:jF θ 79=some y79:=by kernel_rfl
def Wm:XC:=(Po [IY 2 [oR,oR,oW,.nils,oR,oR,.nils]] [Tb 7,TN 8 48 7,To 9 [oR,oR,oW,.nils,oR,oR,.nils] [((0,6),8)],IY 3 [oR,oR,oW,.nils,oR,oR,.nils],IU 7 3 9] (TT [Tb 10,LK 11 127 10 [100,111]] 0 (.block 1 (.seq (Om (Pv 12 13 49 12 (oD 14 (.fld1 0 13)) (Lk 15 .eql 14 1)) 15 (.dops [TK 16 6 3,Lc 17 16 16 101 [],TC (Lu 18 17),TC (Tb 19),(LE 20 49 19 0 [(2,101)],TZ),(Ts (Ls 21 77 18 20) 0 [],TZ)])) (T0 (Px 22 23 126 22 4 [oR,oW,oR,oR,oR] 5 4 23) [Tb 24,LK 25 127 24 [58,61]] (.dops [TK 26 6 3,Lc 27 26 26 101 [],TK 28 1 4,Lc 29 28 28 9 [],TC (Tb 30),(LE 31 48 30 0 [(1,9),(3,101)],some [L5 31 0,OO (oU 32 3 4) 0,O6 (o5 33 32) 32 3 [(1,0)],OO (oU 34 4 4) 0,O6 (o5 35 34) 34 3 [(3,0)],L5 36 0,L5 37 0,L5 38 0,L5 39 0,OO (II (.i (.mv T7))) 0]),TK 32 3 4,Lc 33 32 32 3 [(1,0)],TK 34 4 4,Lc 35 34 34 3 [(3,0)],TC (To 36 [oW,oR,oR,oW,.nils,oR,oR,oR,oR] [((0,1),29),((1,6),31),((7,1),33),((8,1),35)]),TC (Tp 37 1 9 [oW,oR,oR,oW,.nils,oR,oR,oR,oR] [((0,9),36)]),T8 (Pj 38 9 104 27 37) 0 [],TK 39 6 3,LD 1 39 38 0 []]) (oF [Tb 41,Tp 42 1 1 [oW] [T6 0 44],Ls 43 76 41 42,oK 40 43,TI 44 40 0,TI 45 40 1,oD 5 (.alloc [oR,oW,oR,oR,oR]),IU 5 5 44,oL 6 45] (Om [oK 46 6,LH 47 46] 47 (T4 [Tb 48,LK 49 127 48 [59]] [IX 50 7 3,IU 7 2 50]))))))))
def jaF:XF:=⟨[0],Wm,[(.cA 2 7)]⟩
theorem jeG:jF θ 129=some jaF:=by kernel_rfl
def z80:XC:=(oF [IY 2 [oW,.nils,oR,oR]] (Po (Px 7 8 126 7 3 [oR,oW,oR,oR,oR] 5 3 8) [La 9 3,o5 10 9,oU 11 3 3,o5 12 11,oU 13 4 3,o5 14 13,To 15 [oW,.nils,oR,oR] [((0,1),10),((2,1),12),((3,1),14)],IY 4 [oW,.nils,oR,oR],IU 4 4 15] (TT [Tb 16,LK 17 127 16 [123]] 0 (.block 1 (Ob [Tb 19,Tp 20 1 1 [oW] [TG 0 [119,104,101,110]],Ls 21 76 19 20,oK 18 21,TI 22 18 0,TI 23 18 1,IY 5 [oR,oW,oR,oR,oR],IU 5 5 22,oL 6 23] (Om [oK 24 6,LH 25 24] 25 (T4 [Tb 26,LK 27 127 26 [125]] [IX 28 4 4,IU 4 2 28])) (oF [La 29 4,o5 30 29,Lu 31 30,IX 32 5 5,Ls 33 77 31 32] (.dops [TK 34 1 4,Lc 35 34 34 96 [],TC (Tb 36),(LE 37 129 36 0 [(1,96)],TZ),TC (Tp 38 1 7 [oR,oR,oW,.nils,oR,oR,.nils] [((0,7),37)]),T8 (Pj 39 7 96 35 38) 0 [],TK 40 1 4,LD 1 40 39 0 []])))))))
def y80:XF:=⟨[0],z80,[(.cA 2 4)]⟩
theorem x80:jF θ 80=some y80:=by kernel_rfl
def z37:XC:=(oF [IY 2 [.nils,.nils,.nils]] (TT [IY 3 [.nils,.nils,.nils]] 0 (.block 1 (oF [Tb 7,Tp 8 3 1 [oW] [TG 0 [101,110,117,109],TG 1 [118,97,114],TG 2 [112,114,111,99,101,115,115]],Ls 9 76 7 8,oK 6 9,TI 10 6 0,TI 11 6 1,IY 4 [oR,oW,oR,oR,oR],IU 5 4 10,oL 5 11] (.block 2 (Ie [oK 25 5,oD 26 (Tx 25),oK 27 26,LP 28 27 0 4,LQ 29 27 28,TA 30 27 (I0 .neq 29 5),Tl 31 27 30 IZ,oL 24 31] 24 (.ops [IX 32 5 4,TN 33 50 32]) (Ie [oK 35 5,oD 36 (Tx 35),oL 34 36] 34 (Oe [IX 37 3 3,IU 3 2 37]) (Ie [La 39 4,o5 40 39,Pk 41 40 [101,110,117,109],oL 38 41] 38 (oF [LA 42 3,o5 43 42,Lu 44 43,IX 45 5 4,Ls 46 77 44 45] (.dops [TK 47 0 3,Lc 48 47 47 23 [],TC (Tb 49),(LE 50 78 49 0 [(1,23)],TZ),TC (Tp 51 1 4 [oW,.nils,oR,oR] [((0,4),50)]),T8 (Pj 52 4 56 48 51) 0 [],TK 53 0 3,LD 1 53 52 0 []])) (Ie [La 55 4,o5 56 55,Pk 57 56 [118,97,114],oL 54 57] 54 (oF [La 58 3,o5 59 58,Lu 60 59,IX 61 5 4,Ls 62 77 60 61] (.dops [TK 63 1 3,Lc 64 63 63 24 [],TC (Tb 65),(LE 66 79 65 0 [(1,24)],TZ),TC (Tp 67 1 7 [oW,oW,oR,oR,.nils,oR,oR] [((0,7),66)]),T8 (Pj 68 7 88 64 67) 0 [],TK 69 1 3,LD 1 69 68 0 []])) (oF [oU 12 2 3,o5 13 12,Lu 14 13,IX 15 5 4,Ls 16 77 14 15] (.dops [TK 17 2 3,Lc 18 17 17 25 [],TC (Tb 19),(LE 20 80 19 0 [(1,25)],TZ),TC (Tp 21 1 4 [oW,.nils,oR,oR] [((0,4),20)]),T8 (Pj 22 4 56 18 21) 0 [],TK 23 2 3,LD 1 23 22 0 []])))))))))))
def y37:XF:=⟨[0],z37,[(.cA 2 3)]⟩
theorem x37:jF θ 37=some y37:=by kernel_rfl
def K2:XC:=(.block 0 (Ie [oI 7 (.gen .eql 20 true 5 (.c .nilif))] 7 (.ops [oK 2 5]) (Ie [oD 8 (.assert 5 30),oI 9 (.ext 8 1),oI 10 (.ext 8 0)] 9 (oF [IY 3 [oR,oR,oR],IU 3 3 10] (.ops (Pr 11 (IX 12 3 3) (O0 13 11) (IU 3 13 12)))) (oF [oL 4 5] (.ops [Pe 6,II (.pan 6)])))))
def jex:XH:=⟨[0],(some 5),true,[],K2,[]⟩
theorem jiv:jbc θ 36=some jex:=by kernel_rfl
section
variable {P:Program} {e:En} {st:St} {K:AV->St->Prop}
def jbQ (P:Program)(t:TypeId)(v:AV)(st:St):ER:=(Q5 P (O v) t).run E0 st
theorem jjr (x:A)(t:TypeId):wK P base (.i (.assert x t)) e st K=on1 e x λv=>jl (jbQ P t v st) K:=k_1 rfl (λ_=>rfl) K
end
theorem gh {P:Program}(res:List RV)(m:Md)(K:Md->St->Prop)(L:Sl)(st:St):jbC P res m K (.go L st)=yt P res L st λ_=>K m st:=nr rfl
theorem jjT (t:Tk)(st:St)(K:AV->St->Prop):jl (jbQ θ 30 (er t) st) K=K (.tup [.agg [.int .i64 151,.int .i64 (t.line:Int),.int .i64 (t.col:Int)],.bool true]) st:=by
 have:jbQ θ 30 (er t) st=.ok (.tup [.agg [.int .i64 151,.int .i64 (t.line:Int),.int .i64 (t.col:Int)],.bool true]) st:=by kernel_rfl
 rw[this];rfl
theorem jjC (st:St)(K:AV->St->Prop):jl (Zl θ .eql 20 true .nilif .nilif st) K=K (.bool true) st:=by
 have:Zl θ .eql 20 true .nilif .nilif st=.ok (.bool true) st:=by kernel_rfl
 rw[this];rfl
theorem jjD (t:Tk)(st:St)(K:AV->St->Prop):jl (Zl θ .eql 20 true (er t) .nilif st) K=K (.bool false) st:=by
 have:Zl θ .eql 20 true (er t) .nilif st=.ok (.bool false) st:=by kernel_rfl
 rw[this];rfl
theorem jgS {P:Program}{f:FuncId}{xs:List AV}{m m1:Md}{st s1:St}(h:∀ K:Md->St->Prop,K m1 s1->DX P base f xs m st K)(K:Md->St->Prop):DX P base f xs m st K=K m1 s1:=by
 refine propext ⟨λ⟨m2,s2,⟨N2,D2,h2⟩,h3⟩=>?_,h K⟩;obtain⟨m',s',⟨N,D,h1⟩,rfl,rfl⟩:=h (λm' s'=>m'=m1/\s'=s1) ⟨rfl,rfl⟩;have e1:=h1 (max N N2) (Qak ..) (max D D2) (Qak ..);have e2:=h2 (max N N2) (Qal ..) (max D D2) (Qal ..);rw[e1] at e2;cases e2;exact h3
theorem Hp {fb:Nat}(st:St)(hfr:st.fr=[])(K:Md->St->Prop):DX θ base 36 [.ptr fb 0] .calm st K=K .calm st:=by
 refine jgS (λK hK=>?_) K;refine kP jiv (by rfl) hfr ?_;simp only[jex,jn,ν,ξ,τ,Xa,Xw];rw[(by unfold K2;simp only[qq];rfl:K2=_)];repeat'(first|apply jd<;>intro _|simp(disch:=first|exact dzD|fail) only[jjC,gh,r6,γ,δ,ε,ζ,η])
 exact hK
theorem jbI {fb:Nat}(t:Tk){cs:List AV}(st:St)(hfr:st.fr=[])(C:Cl st fb cs)(hcs:cs.length=3)(K:Md->St->Prop) :
  DX θ base 36 [.ptr fb 0] (.pan (er t)) st K=K .done (wr (wr (nw st [.int .i64 0,.int .i64 0,.int .i64 0]) st.nx 0 [.int .i64 151,.int .i64 (t.line:Int),.int .i64 (t.col:Int)]) fb 0 [.int .i64 151,.int .i64 (t.line:Int),.int .i64 (t.col:Int)]):=by
 refine jgS (λK hK=>?_) K;refine kP jiv (by rfl) hfr ?_;simp only[jex,jn,ν,ξ,τ,Xa,Xw];rw[(by unfold K2;simp only[qq];rfl:K2=_)];have hl:=C.lt;have l0:=C.len;have hne:¬ fb=st.nx:=om
 (have zz:=aI @l0 @hcs;(repeat'(first|apply jd<;>intro _|simp(disch:=first|exact jK|fail) only[jjD,jjr,jjT,gh,l0,hcs,r6,γ,δ,ε,ζ,η]));all_goals clear zz)
 exact hK
theorem GR {fb:Nat}(st:St)(K:Md->St->Prop):DX θ base 36 [.ptr fb 0] .calm st.bare K=K .calm st.bare:=Hp st.bare rfl K
theorem ja8 {fb:Nat}(t:Tk)(st:St)(h:qz st.h fb=3)(hn:fb<st.nx)(K:Md->St->Prop) :
  DX θ base 36 [.ptr fb 0] (.pan (er t)) st.bare K=K .done (wr (wr (nw st.bare [.int .i64 0,.int .i64 0,.int .i64 0]) st.nx 0 [.int .i64 151,.int .i64 (t.line:Int),.int .i64 (t.col:Int)]) fb 0 [.int .i64 151,.int .i64 (t.line:Int),.int .i64 (t.col:Int)]):=
 have C:Cl st fb (rats st.h fb 0 3):=Cl.of_rats hn h (QP _ _ _ _) dc rfl
 jbI t st.bare rfl C.bar (QP _ _ _ _) K
theorem jgc:Go.Ev.isAgg θ 30=some true:=by kernel_rfl
theorem jgb:Go.Ev.sizeOf θ 30=some 3:=by kernel_rfl
theorem jaQ {b:Nat}{x y z:Int}{h:T AO}(ho:0+3<=qz h b)(hv:rats h b 0 3=[.int .i64 x,.int .i64 y,.int .i64 z]):(jW θ 30 (.ptr b 0) (.agg [.int .i64 x,.int .i64 y,.int .i64 z]) h=true)=True:=eq_true (wa jgc jgb dc ho hv rfl)
section
variable {P:Program} {st:St} {K Kp:AV->St->Prop}
theorem Ug {f:FuncId}{vs:List AV}(h:st.fr=[(f,vs)])(res:List RV)(v:AV)(L:Sl):Vm P base res K Kp v L st=DX P base f vs (.pan v) st.bare λm' st'=>(match m' with
  |.calm=>yt P res L st'.bare λvs=>K (zd vs) st'.bare
  |.pan v=>Kp v st'.bare
  |.done=>yt P res L st'.bare λvs=>K (zd vs) st'.bare):=by
 have:Vm P base res K Kp v L st=yI P base res K Kp [(f,vs)] L st.bare (.pan v):=by show yI P base res K Kp st.fr L st.bare (.pan v)=_;rw[h]
 rw[this,gf];rfl
theorem Wn {f:FuncId}{vs:List AV}(h:st.fr=[(f,vs)])(res:List RV)(L:Sl):GE P base res K Kp (.rt L st)=DX P base f vs .calm st.bare λm' st'=>(match m' with
  |.calm=>yt P res L st'.bare λvs=>K (zd vs) st'.bare
  |.pan v=>Kp v st'.bare
  |.done=>yt P res L st'.bare λvs=>K (zd vs) st'.bare):=by
 have:GE P base res K Kp (.rt L st)=yI P base res K Kp [(f,vs)] L st.bare .calm:=by show yI P base res K Kp st.fr L st.bare .calm=_;rw[h]
 rw[this,gf];rfl
theorem Wo (h:st.fr=[])(res:List RV)(L:Sl):GE P base res K Kp (.rt L st)=yt P res L st.bare λvs=>K (zd vs) st.bare:=by
 show yI P base res K Kp st.fr L st.bare .calm=_;rw[h];rfl
end
theorem yU {ts:List Tk}(W:Wds ts){i j:Nat}{x:Ex}(hi:i<ts.length)(h:qM ts i=.ok x j):i+1<=j/\j<ts.length/\x.ev (atW ts)/\zC 60 x=true:=by
 obtain⟨r,hg,hr⟩:=evR W hi;rw[Yb hr] at h;unfold Y2 at h;cases r with
 |er t=>cases h
 |ok y k=>
  dsimp only at h;by_cases c:zC 60 y=true
  ·rw[if_pos c] at h;cases h;exact⟨hg.1,hg.2.1,hg.2.2,c⟩
  ·rw[if_neg c] at h;cases h
inductive SR (α:Type) where
 |ok (x:α) (j:Nat)
 |er (t:Tk)
def Nbs (ts:List Tk):Prop:=∀ i,(tk ts i).num<=1000000
def AnS {α:Type}(base:Bs)(f:FuncId)(c xs:List AV)(ts:List Tk)(d:Nat)(enc:α->AV):SR α->Prop
 |.ok x j=>PM θ base f c xs (.ok (enc x)) (pC ts j d)
 |.er t=>∃ i' d',PM θ base f c xs (.pn (er t)) (pC ts i' d')
def SK {α:Type}(ts:List Tk)(d:Nat)(enc:α->AV)(r:SR α)(v:AV)(s:St):Prop:=match r with | .ok y j=>G1 3 (pC ts j d) (enc y) v s | .er _=>False
def SP {α:Type}(ts:List Tk)(r:SR α)(v:AV)(s:St):Prop:=match r with | .ok _ _=>False | .er t=>∃ i' d',G1 3 (pC ts i' d') (er t) v s
theorem Kn {α:Type}(ts:List Tk)(d:Nat)(enc:α->AV)(y:α)(j:Nat)(v:AV)(s:St):SK ts d enc (.ok y j) v s=G1 3 (pC ts j d) (enc y) v s:=nr rfl
theorem zb {α:Type}(ts:List Tk)(t:Tk)(v:AV)(s:St):SP (α:=α) ts (.er t) v s = ∃ i' d',G1 3 (pC ts i' d') (er t) v s:=nr rfl
theorem Zr {α:Type}{f:FuncId}{F:XF}(hl:jF θ f=some F)(hnd:F.body.nd=true)(hm:base.pur f=3){xs:List AV}{ts:List Tk}{i d:Nat}{enc:α->AV}{r:SR α}
  (h:xC θ base F.body (jn F.ps (.ptr 0 0 :: xs)) (nw st0 (pC ts i d)) (Yn θ F.res (SK ts d enc r)) λv _ s=>SP ts r v s.bare):AnS base f (pC ts i d) xs ts d enc r:=by
 rw[<-uG] at h;obtain⟨q,he,hq⟩:=XR (st:=Xc (pC ts i d)) (K:=SK ts d enc r) (Kp:=SP ts r) hl hnd h;cases r with
 |ok y j=>
  refine PM.of hm rfl ⟨q,he,?_⟩;cases q<;>first|exact hq|exact hq.elim
 |er t=>
  cases q with
  |no=>exact hq.elim
  |ok v s=>exact(hq:False).elim
  |pn v s=>
   obtain⟨i',d',hq⟩:=(hq:∃ i' d',G1 3 (pC ts i' d') (er t) v s);exact⟨i',d',PM.of hm rfl ⟨_,he,hq⟩⟩
def QR (ts:List Tk)(i:Nat):SR Int:=
 if isM (tk ts i) [[45]]=true then(if(tk ts (i+1)).kind=2 then .ok (-((tk ts (i+1)).num:Int)) (i+2) else .er (tk ts (i+1)))
 else(if(tk ts i).kind=2 then .ok ((tk ts i).num:Int) (i+1) else .er (tk ts i))
theorem gV (hb:NB base){ts:List Tk}(W:Wds ts)(N:Nbs ts){i d:Nat}(hi:i<ts.length):AnS base 128 (pC ts i d) [] ts d (λn=>.int .i64 n) (QR ts i):=by
 have wl:=W.len;have T:=Q8 hb hi (d:=d) om [[45]] (cs:=[.str [45]]) (n:=1) rfl rfl dc;unfold QR;by_cases c1:isM (tk ts i) [[45]]=true
 ·rw[if_pos c1];have hi1:=W.isM hi c1;have hN:=λst p=>@X4 base hb ts (i+1) d hi1 st p;have hn:=N (i+1);by_cases k2:(tk ts (i+1)).kind=2
  ·rw[if_pos k2];have k2':((tk ts (i+1)).kind:Int)=2:=om
   show PM _ _ _ _ _ _ _;unfold pC at *;refine jC jaK (by rfl) (hb.pur 128 3 dc) rfl ?_;simp only[gb,jn,ν,ξ,τ,υ];rw[(by unfold wy;simp only[qq];rfl:wy=_)];repeat'(first|apply jd<;>intro _|simp(disch:=first|exact dzD|fail) only[T,c1,hN,k2',r6,γ,δ,ε,ζ,η])
   (refine G1.done ?_ (by rfl) (by rfl) ?_;(· (first|exact cyD|fail));(· first|exact vyD|skip))
  ·rw[if_neg k2];have k2':¬ ((tk ts (i+1)).kind:Int)=2:=om
   refine⟨i+1,d,?_⟩;unfold pC at *;refine jC jaK (by rfl) (hb.pur 128 3 dc) rfl ?_;simp only[gb,jn,ν,ξ,τ,υ];rw[(by unfold wy;simp only[qq];rfl:wy=_)];repeat'(first|apply jd<;>intro _|simp(disch:=first|exact dzD|fail) only[T,c1,hN,k2',JN hb,r6,γ,δ,ε,ζ,η])
   (refine G1.done ?_ (by rfl) (by rfl) ?_;(· (first|exact cyD|fail));(· first|exact vyD|skip))
 ·rw[if_neg c1];have hN:=λst p=>@X4 base hb ts i d hi st p;have hn:=N i;by_cases k2:(tk ts i).kind=2
  ·rw[if_pos k2];have k2':((tk ts i).kind:Int)=2:=om
   show PM _ _ _ _ _ _ _;unfold pC at *;refine jC jaK (by rfl) (hb.pur 128 3 dc) rfl ?_;simp only[gb,jn,ν,ξ,τ,υ];rw[(by unfold wy;simp only[qq];rfl:wy=_)];repeat'(first|apply jd<;>intro _|simp(disch:=first|exact dzD|fail) only[T,c1,hN,k2',r6,γ,δ,ε,ζ,η])
   (refine G1.done ?_ (by rfl) (by rfl) ?_;(· (first|exact cyD|fail));(· first|exact vyD|skip))
  ·rw[if_neg k2];have k2':¬ ((tk ts i).kind:Int)=2:=om
   refine⟨i,d,?_⟩;unfold pC at *;refine jC jaK (by rfl) (hb.pur 128 3 dc) rfl ?_;simp only[gb,jn,ν,ξ,τ,υ];rw[(by unfold wy;simp only[qq];rfl:wy=_)];repeat'(first|apply jd<;>intro _|simp(disch:=first|exact dzD|fail) only[T,c1,hN,k2',JN hb,r6,γ,δ,ε,ζ,η])
   (refine G1.done ?_ (by rfl) (by rfl) ?_;(· (first|exact cyD|fail));(· first|exact vyD|skip))
structure EnumT where
 name:List Nat
 vals:List (List Nat)
 line:Int
 col:Int
def enE (e:EnumT):List AV:=[.str e.name,.lst e.vals.length (e.vals.map .str),.int .i64 (e.line:Int),.int .i64 (e.col:Int)]
def JV (ts:List Tk):Nat->Nat->List (List Nat)->SR (List (List Nat))
 |0,i,_=>.er (tk ts i)
 |n+1,i,vs=>if(tk ts i).kind=1 then
   (if 32<=vs.length then .er (tk ts i)
    else if isM (tk ts (i+1)) [[44]]=true then JV ts n (i+2) (vs ++ [(tk ts i).text])
    else if isM (tk ts (i+1)) [[125]]=true then .ok (vs ++ [(tk ts i).text]) (i+2)
    else .er (tk ts (i+1)))
  else .er (tk ts i)
def JI (ts:List Tk)(i:Nat):SR EnumT:=
 if(tk ts i).kind=1 then
  (if isM (tk ts (i+1)) [[123]]=true then(match JV ts ts.length (i+2) [] with
    |.ok vs j=>.ok ⟨(tk ts i).text,vs,(tk ts i).line,(tk ts i).col⟩ j
    |.er t=>.er t)
   else .er (tk ts (i+1)))
 else .er (tk ts i)
theorem YP (hb:NB base){n:Nat}(h:n<32)(t:Tk):Tot base 77 [.int .i64 (n:Int),.agg t.cells] (.tup []):=by
 have:=jcI hb n t;rw[if_neg om] at this;exact this
theorem YQ (hb:NB base){n:Nat}(h:32<=n)(t:Tk):Ret base 77 [.int .i64 (n:Int),.agg t.cells] (.pn (er t)):=by
 have:=jcI hb n t;rw[if_pos h] at this;exact this
theorem jkj:Go.Ev.isAgg θ 91=some false:=by kernel_rfl
theorem jki:Go.Ev.sizeOf θ 91=some 1:=by kernel_rfl
theorem vz {b o:Nat}{v:AV}{h:T AO}(ho:o<qz h b)(hv:rat h b o=v)(hc:eqs v=true):(jW θ 91 (.ptr b o) v h=true)=True:=eq_true (J2 jkj jki ho hv hc)
theorem Lv.eqs {lo hi n z:Nat}{s:St}{v:AV}{cs:List AV}(h:Lv lo hi s v n cs z):Go.Sy.eqs v=true:=by
 rcases h with ⟨rfl,_⟩|⟨b,rfl,_⟩<;>rfl
theorem Lv.cell {lo hi n z:Nat}{s:St}{v:AV}{cs:List AV}(h:Lv lo hi s v n cs z):v.cell=true:=by
 rcases h with ⟨rfl,_⟩|⟨b,rfl,_⟩<;>rfl
theorem Lv.cells {lo hi n z:Nat}{s:St}{v:AV}{cs:List AV}(h:Lv lo hi s v n cs z):v.cells=[v]:=by
 rcases h with ⟨rfl,_⟩|⟨b,rfl,_⟩<;>rfl
theorem Lv.plain {lo hi n z:Nat}{s:St}{v:AV}{cs:List AV}(h:Lv lo hi s v n cs z):v.plain=true:=by
 rcases h with ⟨rfl,_⟩|⟨b,rfl,_⟩<;>rfl
theorem Lv.len {lo hi n z:Nat}{s:St}{v:AV}{cs:List AV}(h:Lv lo hi s v n cs z)(st:St)(K:AV->St->Prop):jl (Gb v st) K=K (.int .i64 (n:Int)) st:=by
 rcases h with ⟨rfl,rfl,_⟩|⟨b,rfl,_⟩
 ·exact gz
 ·exact jaM ..
theorem jk (z:Nat)(v:AV)(s:St):(apv z v s).cells=[apv z v s]:=by unfold apv;split<;>rfl
theorem jm (z:Nat)(v:AV)(s:St):(apv z v s).plain=true:=by unfold apv;split<;>rfl
theorem jq (z:Nat)(v:AV)(s:St)(l:List AV):lall AV.cell (apv z v s :: l)=lall AV.cell l:=by unfold apv;split<;>rfl
set_option maxHeartbeats 4000000 in
theorem jjF (hb:NB base){ts:List Tk}(W:Wds ts){i d:Nat}(hi:i<ts.length):AnS base 78 (pC ts i d) [] ts d (λe=>.agg (enE e)) (JI ts i):=by
 have wl:=W.len;have N:=λst p=>@wi base hb ts i d hi om st p;unfold JI;by_cases k1:(tk ts i).kind=1
 ·rw[if_pos k1];have hi1:i+1<ts.length:=W.next i hi om
  have M:=λst p=>@JL base hb ts (i+1) d hi1 om [123] st p;by_cases c1:isM (tk ts (i+1)) [[123]]=true
  ·rw[if_pos c1];have hi2:=W.isM hi1 c1;suffices h:∀ r:SR EnumT,(match JV ts ts.length (i+2) [] with
    |.ok vs j=>SR.ok ⟨(tk ts i).text,vs,(tk ts i).line,(tk ts i).col⟩ j
    |.er t=>.er t:SR EnumT)=r->AnS base 78 (pC ts i d) [] ts d (λe=>.agg (enE e)) r from h _ rfl
   intro r hr;refine Zr x78 (by rfl) (hb.pur 78 3 dc) ?_;simp only[y78,jn,ν,ξ,τ,υ];rw[(by unfold z78;simp only[qq];rfl:z78=_)];unfold pC at *;repeat'(first|apply jd<;>intro _|simp(disch:=first|exact dzD|fail) only[N,k1,M,c1,r6,γ,δ,ε,ζ,η])
   refine yF λu hu=>?_;have n0:u.nx=4:=by rw[hu];rfl
   have C0:Cl u 0 (pC ts (i+2) d):=by
    rw[hu];unfold pC
    (first|exact cyD|fail)
   have C1:Cl u 1 [.str [],.nils,.int .i64 0,.int .i64 0]:=by
    rw[hu]
    (first|exact cyD|fail)
   have C3:Cl u 3 [.str (tk ts i).text,.nils,.int .i64 ((tk ts i).line:Int),.int .i64 ((tk ts i).col:Int)]:=by
    rw[hu]
    (first|exact cyD|fail)
   clear hu N M;generalize (tk ts i).text=nm at *;generalize (tk ts i).line=ln at *;generalize (tk ts i).col=co at *;refine qB (λmm L s=>∃ (m i':Nat) (vs:List (List Nat)) (v:AV),mm=m/\ts.length<=i'+m/\i'<ts.length/\(match JV ts m i' vs with | .ok vs j=>SR.ok ⟨nm,vs,ln,co⟩ j | .er t=>.er t:SR EnumT)=r/\4<=s.nx/\Cl s 0 (pC ts i' d)/\Cl s 1 [.str [],.nils,.int .i64 0,.int .i64 0]/\Cl s 3 [.str nm,v,.int .i64 (ln:Int),.int .i64 (co:Int)]/\Lv 4 s.nx s v vs.length (vs.map .str) 1/\Has L 0 (.ptr 0 0)/\Has L 2 (.ptr 1 0)/\Has L 4 (.ptr 3 0)) ?_ ts.length ?_
   ·rintro m L s ⟨_,i',vs,v,rfl,hm,hi',hl,n0,C0,C1,C3,V,i0,i2,i4⟩;clear hr;cases m with
    |zero=>omega
    |succ m=>
    unfold JV at hl;obtain⟨q,hq⟩:∃ q,q=s.nx:=⟨_,rfl⟩;rw[<-hq] at V;have hq':q<=s.nx:=QaA hq;have hN:=λst p=>@X4 base hb ts i' d hi' st p;have hM:=λst p=>@wi base hb ts i' d hi' om st p;have L0:=C0.lt;have L1:=C1.lt;have L3:=C3.lt;have ve:=V.eqs;have g3:rat s.h 3 1=v:=C3.cell 1 (Qbc (QaR 2));have vl:=V.len;by_cases k1:(tk ts i').kind=1
    ·rw[if_pos k1] at hl;have k1':((tk ts i').kind:Int)=1:=om
     have hi1:i'+1<ts.length:=W.next i' hi' om
     by_cases h32:32<=vs.length
     ·rw[if_pos h32] at hl;subst hl;have R:=YQ hb h32 (tk ts i');unfold pC at *
      (have zz:=aI @g3 (aI C0.r (aI C1.r C3.r));(repeat'(first|apply jd<;>intro _|simp(disch:=first|exact jK|fail) only[ja i0,ja i2,ja i4,hN,k1',vl,R,vz,ve,zb,C0.q,C1.q,C3.q,g3,C0.r,C1.r,C3.r,r6,γ,δ,ε,ζ,η]));all_goals clear zz)
      refine⟨i',d,?_⟩;unfold pC
      (refine G1.done ?_ (by rfl) (by rfl) ?_;(· (have zz:=aI C0.q (aI C1.q (aI C3.q (aI C0.r (aI C1.r C3.r))));first|exact ju|fail));(· first|exact vyD|skip))
     ·rw[if_neg h32] at hl;have R:=YP hb (show vs.length<32 by omega) (tk ts i');have T:=Q8 hb hi1 (d:=d) om [[44]] (cs:=[.str [44]]) (n:=1) rfl rfl dc;have M:=λst p=>@JL base hb ts (i'+1) d hi1 om [125] st p;have A:=λst bv xc xx K h hv=>@Qr 4 q vs.length 1 st v (vs.map .str) K 16 bv xc xx h dc om om hv;have V2:∀ st m',Lv 4 q st v vs.length (vs.map .str) 1->4<=st.nx->m'=st.nx+1->Lv 4 m' (aps v st [.str (tk ts i').text]) (apv 1 v st) (vs ++ [(tk ts i').text]).length ((vs ++ [(tk ts i').text]).map .str) 1:=λst m' h h2 h3=>by
       rw[Qag,List.map_append];exact h.put rfl h2 h3
      unfold pC at *
      (have zz:=aI @g3 (aI V.ln (aI V.rts (aI @jp (aI @jt (aI @jx (aI @V (aI @ve (aI @jk (aI @jm (aI @jq (aI C0.r (aI C1.r C3.r))))))))))));(repeat'(first|apply jd<;>intro _|simp(disch:=first|exact jK|fail) only[ja i0,ja i2,ja i4,hN,hM,k1,k1',vl,R,vz,ve,A,V.at,jk,C0.q,C1.q,C3.q,g3,V.ln,V.rts,jp,jt,jx,V,ve,jk,jm,jq,C0.r,C1.r,C3.r,r6,γ,δ,ε,ζ,η]));all_goals clear zz)
      rw[T _ 0 (s.nx+1+1) 1 true (by(have zz:=aI C0.q (aI C1.q (aI C3.q (aI @g3 (aI V.ln (aI V.rts (aI C0.r (aI C1.r C3.r)))))));first|exact ju|fail)) (by(have zz:=aI C0.q (aI C1.q (aI C3.q (aI @g3 (aI V.ln (aI V.rts (aI C0.r (aI C1.r C3.r)))))));first|exact ju|fail)) om]
      (have zz:=aI @g3 (aI V.ln (aI V.rts (aI @jk (aI @jm (aI @jq (aI C0.r (aI C1.r C3.r)))))));(repeat'(first|apply jd<;>intro _|simp(disch:=first|exact jK|fail) only[ja i0,ja i2,ja i4,M,V.at,jk,Kn,zb,C0.q,C1.q,C3.q,g3,V.ln,V.rts,jk,jm,jq,C0.r,C1.r,C3.r,r6,γ,δ,ε,ζ,η]));all_goals clear zz)
      ·rename_i c;rw[if_pos c] at hl;have hi2:=W.isM hi1 c;refine⟨m,om,m,i'+1+1,vs ++ [(tk ts i').text],?v,rfl,om,hi2,hl,om,?c0,?c1,?c3,?lv,?has⟩;case lv=>
        refine Lv.up (hi:=s.nx+2) ?_ om;simp(disch:=first|omega|(simp only[jf,je,jh,jg];omega)) only[jp,jt,jx];refine V2 _ _ ?_ ?_ ?_;all_goals first|(simp only[jf,je];done)|(simp only[jf,je];omega)|(simp(disch:=first|omega|(simp only[jf,je];omega)) only[jp,jt];exact V)
       case c0=>(have zz:=aI C0.q (aI C1.q (aI C3.q (aI @g3 (aI V.ln (aI V.rts (aI @jk (aI @jm (aI @jq (aI C0.r (aI C1.r C3.r))))))))));first|exact ju|fail)
       case c1=>(have zz:=aI C0.q (aI C1.q (aI C3.q (aI @g3 (aI V.ln (aI V.rts (aI @jk (aI @jm (aI @jq (aI C0.r (aI C1.r C3.r))))))))));first|exact ju|fail)
       case c3=>(have zz:=aI C0.q (aI C1.q (aI C3.q (aI @g3 (aI V.ln (aI V.rts (aI @jk (aI @jm (aI @jq (aI C0.r (aI C1.r C3.r))))))))));first|exact ju|fail)
       case has=>simp(disch:=decide) only[h12,i0,i2,i4]
      ·rename_i c c2;rw[if_neg c,if_pos c2] at hl;have hl:SR.ok (⟨nm,vs ++ [(tk ts i').text],ln,co⟩:EnumT) (i'+2)=r:=hl;subst hl;show G1 3 (pC ts (i'+2) d) (.agg (enE ⟨nm,vs ++ [(tk ts i').text],ln,co⟩)) _ _;refine G1.done ?_ (by rfl) (by rfl) (FzD.agg (.cons (.pc rfl) (.cons (Lv.fz (lo:=4) (hi:=s.nx+2) (z:=1) ?_ dc (QU _)) (.cons (.pc rfl) (.cons (.pc rfl) .nil)))))
       ·unfold pC
        (have zz:=aI C0.q (aI C1.q (aI C3.q (aI @g3 (aI V.ln (aI V.rts (aI @jk (aI @jm (aI @jq (aI C0.r (aI C1.r C3.r))))))))));first|exact ju|fail)
       ·simp(disch:=first|omega|(simp only[jf,je,jh,jg];omega)) only[jE,jp,jt,jx];refine V2 _ _ ?_ ?_ ?_;all_goals first|(simp only[jf,je];done)|(simp only[jf,je];omega)|(simp(disch:=first|omega|(simp only[jf,je];omega)) only[jp,jt];exact V)
      ·rename_i c c2;rw[if_neg c,if_neg c2] at hl;have hl:SR.er (tk ts (i'+1))=r:=hl;subst hl;refine⟨i'+1,d,?_⟩;unfold pC
       (refine G1.done ?_ (by rfl) (by rfl) ?_;(· (have zz:=aI C0.q (aI C1.q (aI C3.q (aI @g3 (aI V.ln (aI V.rts (aI @jk (aI @jm (aI @jq (aI C0.r (aI C1.r C3.r))))))))));first|exact ju|fail));(· first|exact vyD|skip))
    ·rw[if_neg k1] at hl;have k1':¬ ((tk ts i').kind:Int)=1:=om
     subst hl;unfold pC at *
     (have zz:=aI @g3 (aI C0.r (aI C1.r C3.r));(repeat'(first|apply jd<;>intro _|simp(disch:=first|exact jK|fail) only[ja i0,ja i2,ja i4,hN,hM,k1,k1',vz,ve,zb,C0.q,C1.q,C3.q,g3,C0.r,C1.r,C3.r,r6,γ,δ,ε,ζ,η]));all_goals clear zz)
     refine⟨i',d,?_⟩;unfold pC
     (refine G1.done ?_ (by rfl) (by rfl) ?_;(· (have zz:=aI C0.q (aI C1.q (aI C3.q (aI C0.r (aI C1.r C3.r))));first|exact ju|fail));(· first|exact vyD|skip))
   ·refine⟨ts.length,i+2,[],.nils,rfl,om,hi2,hr,om,C0,C1,C3,Lv.nil,?_⟩;simp(disch:=decide) only[h12]
  ·rw[if_neg c1];refine⟨i+1,d,?_⟩;unfold pC at *;refine jC x78 (by rfl) (hb.pur 78 3 dc) rfl ?_;simp only[y78,jn,ν,ξ,τ,υ];rw[(by unfold z78;simp only[qq];rfl:z78=_)];repeat'(first|apply jd<;>intro _|simp(disch:=first|exact dzD|fail) only[N,k1,M,c1,r6,γ,δ,ε,ζ,η])
   (refine G1.done ?_ (by rfl) (by rfl) ?_;(· (first|exact cyD|fail));(· first|exact vyD|skip))
 ·rw[if_neg k1];refine⟨i,d,?_⟩;unfold pC at *;refine jC x78 (by rfl) (hb.pur 78 3 dc) rfl ?_;simp only[y78,jn,ν,ξ,τ,υ];rw[(by unfold z78;simp only[qq];rfl:z78=_)];repeat'(first|apply jd<;>intro _|simp(disch:=first|exact dzD|fail) only[N,k1,r6,γ,δ,ε,ζ,η])
  (refine G1.done ?_ (by rfl) (by rfl) ?_;(· (first|exact cyD|fail));(· first|exact vyD|skip))
structure DeclT where
 name:List Nat
 ty:List Nat
 lo:Int
 hi:Int
 begins:List Ex
 line:Int
 col:Int
def qk (d:DeclT):List AV:=[.str d.name,.str d.ty,.int .i64 d.lo,.int .i64 d.hi,.lst d.begins.length (fl eE d.begins),.int .i64 (d.line:Int),.int .i64 (d.col:Int)]
def wD (ts:List Tk)(i:Nat):SR (List Nat×Int×Int):=
 if isM (tk ts i) [[98,111,111,108]]=true then .ok ([98,111,111,108],0,0) (i+1)
 else if(tk ts i).kind=1 then .ok ((tk ts i).text,0,0) (i+1)
 else match QR ts i with
  |.er t=>.er t
  |.ok lo j=>if isM (tk ts j) [[46,46]]=true then(match QR ts (j+1) with
   |.er t=>.er t
   |.ok hi k=>.ok ([],lo,hi) k) else .er (tk ts j)
def Xl (ts:List Tk)(i:Nat):SR (List Ex):=
 if isM (tk ts i) [[61]]=true then(match qM ts (i+1) with
  |.er t=>.er t
  |.ok x j=>if isM (tk ts j) [[59]]=true then .ok [x] (j+1) else .er (tk ts j))
 else if isM (tk ts i) [[59]]=true then .ok [] (i+1) else .er (tk ts i)
def JJ (ts:List Tk)(i:Nat):SR DeclT:=
 if(tk ts i).kind=1 then
  (if isM (tk ts (i+1)) [[58]]=true then(match wD ts (i+2) with
    |.er t=>.er t
    |.ok y j=>(match Xl ts j with
     |.er t=>.er t
     |.ok bs k=>.ok ⟨(tk ts i).text,y.1,y.2.1,y.2.2,bs,(tk ts i).line,(tk ts i).col⟩ k))
   else .er (tk ts (i+1)))
 else .er (tk ts i)
def zD:List AV:=[.str [],.str [],.int .i64 0,.int .i64 0,.nils,.int .i64 0,.int .i64 0]
theorem jgw {m d b cap:Nat}{s:St}{ks:List Ex}{ex:Bool}{cs:List AV}(C:Cl s b cs)(hc:cs=fl eE ks)(hm:m<=b):FzD m (d+3) s (.slice b 0 ks.length cap 6 ex) (.lst ks.length (fl eE ks)):=by
 subst hc;have hl:=Yh Jr ks;refine FzD.slice C.rw_ (QaA hl.symm) hm ?_;rw[<-hl,Qaw];exact .pc (JH Jc ks)
set_option maxHeartbeats 4000000 in
theorem jbF (hb:NB base){ts:List Tk}(W:Wds ts){j:Nat}(hj:j<ts.length){nm ty:List Nat}{lo hi:Int}{ln co:Nat}{r:SR DeclT}
  (hr:(match Xl ts j with | .er t=>SR.er t | .ok bs k=>.ok ⟨nm,ty,lo,hi,bs,ln,co⟩ k)=r) {L:Sl} {s:St} (n0:4<=s.nx) (C0:Cl s 0 (pC ts j 0)) (C1:Cl s 1 zD)
  (C3:Cl s 3 [.str nm,.str ty,.int .i64 lo,.int .i64 hi,.nils,.int .i64 (ln:Int),.int .i64 (co:Int)]) (i0:Has L 0 (.ptr 0 0)) (i2:Has L 2 (.ptr 1 0)) (i4:Has L 4 (.ptr 3 0)) :
  xC θ base jay L s (Yn θ y79.res (SK ts 0 (λd=>.agg (qk d)) r)) λv _ s=>SP ts r v s.bare:=by
 have wl:=W.len;have L0:=C0.lt;have L1:=C1.lt;have L3:=C3.lt;have T:=Q8 hb hj (d:=0) om [[61]] (cs:=[.str [61]]) (n:=1) rfl rfl dc;unfold Xl at hr;unfold zD pC at *;rw[(by unfold jay;simp only[qq];rfl:jay=_)];simp only[y79];by_cases c1:isM (tk ts j) [[61]]=true
 ·rw[if_pos c1] at hr;have hj1:=W.isM hj c1;have A:=Uj hb W hj1;cases hw:qM ts (j+1) with
  |er t=>
   rw[hw] at hr A;have hr:SR.er t=r:=hr;subst hr;obtain⟨i',d',A⟩:=A;have E:∀ st p,Cl st p (pC ts (j+1) 0)->∀ K Kp,XB θ base 48 [.ptr p 0] st K Kp=_:=λst p C K Kp=>A.xb C rfl (λst=>hb.no 48 dc _ _) K Kp;unfold pC at *
   (have zz:=aI C0.r (aI C1.r C3.r);(repeat'(first|apply jd<;>intro _|simp(disch:=first|exact jK|fail) only[ja i0,ja i2,ja i4,T,c1,E,zb,C0.q,C1.q,C3.q,C0.r,C1.r,C3.r,r6,γ,δ,ε,ζ,η]));all_goals clear zz)
   refine⟨i',d',?_⟩;unfold pC
   (refine G1.done ?_ (by rfl) (by rfl) ?_;(· (have zz:=aI C0.q (aI C1.q (aI C3.q (aI C0.r (aI C1.r C3.r))));first|exact ju|fail));(· first|exact vyD|skip))
  |ok x q=>
   rw[hw] at hr A;have A:PM _ _ _ _ _ _ _:=A;have E:∀ st p,Cl st p (pC ts (j+1) 0)->∀ K Kp,XB θ base 48 [.ptr p 0] st K Kp=_:=λst p C K Kp=>A.xb C rfl (λst=>hb.no 48 dc _ _) K Kp;have hq:q<ts.length:=(yU W hj1 hw).2.1;have M:=λst p=>@JL base hb ts q 0 hq om [59] st p;unfold pC at *
   (have zz:=aI C0.r (aI C1.r C3.r);(repeat'(first|apply jd<;>intro _|simp(disch:=first|exact jK|fail) only[ja i0,ja i2,ja i4,T,c1,E,M,zb,Kn,C0.q,C1.q,C3.q,C0.r,C1.r,C3.r,r6,γ,δ,ε,ζ,η]));all_goals clear zz)
   ·rename_i c2;dsimp only at hr;rw[if_pos c2] at hr;have hr:SR.ok (⟨nm,ty,lo,hi,[x],ln,co⟩:DeclT) (q+1)=r:=hr;subst hr;show G1 3 (pC ts (q+1) 0) (.agg (qk ⟨nm,ty,lo,hi,[x],ln,co⟩)) _ _;refine G1.done ?_ (by rfl) (by rfl) (FzD.agg (.cons (.pc rfl) (.cons (.pc rfl) (.cons (.pc rfl) (.cons (.pc rfl) (.cons (jgw (ks:=[x]) (cs:=eE x) ?_ (by rw[zu]) om) (.pc rfl)))))))
    ·unfold pC
     (have zz:=aI C0.q (aI C1.q (aI C3.q (aI C0.r (aI C1.r C3.r))));first|exact ju|fail)
    ·(have zz:=aI C0.q (aI C1.q (aI C3.q (aI C0.r (aI C1.r C3.r))));first|exact ju|fail)
   ·rename_i c2;dsimp only at hr;rw[if_neg c2] at hr;have hr:SR.er (tk ts q)=r:=hr;subst hr;refine⟨q,0,?_⟩;unfold pC
    (refine G1.done ?_ (by rfl) (by rfl) ?_;(· (have zz:=aI C0.q (aI C1.q (aI C3.q (aI C0.r (aI C1.r C3.r))));first|exact ju|fail));(· first|exact vyD|skip))
 ·rw[if_neg c1] at hr;have M:=λst p=>@JL base hb ts j 0 hj om [59] st p;unfold pC at *
  (have zz:=aI C0.r (aI C1.r C3.r);(repeat'(first|apply jd<;>intro _|simp(disch:=first|exact jK|fail) only[ja i0,ja i2,ja i4,T,c1,M,zb,Kn,C0.q,C1.q,C3.q,C0.r,C1.r,C3.r,r6,γ,δ,ε,ζ,η]));all_goals clear zz)
  ·rename_i c2;rw[if_pos c2] at hr;have hr:SR.ok (⟨nm,ty,lo,hi,[],ln,co⟩:DeclT) (j+1)=r:=hr;subst hr;show G1 3 (pC ts (j+1) 0) (.agg (qk ⟨nm,ty,lo,hi,[],ln,co⟩)) _ _;refine G1.done ?_ (by rfl) (by rfl) (FzD.agg (.cons (.pc rfl) (.cons (.pc rfl) (.cons (.pc rfl) (.cons (.pc rfl) (.cons .nils (.pc rfl)))))));unfold pC
   (have zz:=aI C0.q (aI C1.q (aI C3.q (aI C0.r (aI C1.r C3.r))));first|exact ju|fail)
  ·rename_i c2;rw[if_neg c2] at hr;have hr:SR.er (tk ts j)=r:=hr;subst hr;refine⟨j,0,?_⟩;unfold pC
   (refine G1.done ?_ (by rfl) (by rfl) ?_;(· (have zz:=aI C0.q (aI C1.q (aI C3.q (aI C0.r (aI C1.r C3.r))));first|exact ju|fail));(· first|exact vyD|skip))
theorem wh {ts:List Tk}(W:Wds ts){i j:Nat}{n:Int}(hi:i<ts.length)(h:QR ts i=.ok n j):j<ts.length:=by
 unfold QR at h;by_cases c:isM (tk ts i) [[45]]=true
 ·rw[if_pos c] at h;have h1:=W.isM hi c;by_cases k:(tk ts (i+1)).kind=2
  ·rw[if_pos k] at h;cases h;exact W.next _ h1 om
  ·rw[if_neg k] at h;cases h
 ·rw[if_neg c] at h;by_cases k:(tk ts i).kind=2
  ·rw[if_pos k] at h;cases h;exact W.next _ hi om
  ·rw[if_neg k] at h;cases h
set_option maxHeartbeats 4000000 in
theorem jkK (hb:NB base){ts:List Tk}(W:Wds ts)(N:Nbs ts){i:Nat}(hi:i<ts.length){nm:List Nat}{ln co:Nat}{r:SR DeclT}
  (hr:(match wD ts i with | .er t=>SR.er t | .ok y j=>(match Xl ts j with | .er t=>.er t | .ok bs k=>.ok ⟨nm,y.1,y.2.1,y.2.2,bs,ln,co⟩ k))=r) {L:Sl} {s:St} (n0:4<=s.nx) (C0:Cl s 0 (pC ts i 0)) (C1:Cl s 1 zD)
  (C3:Cl s 3 [.str nm,.str [],.int .i64 0,.int .i64 0,.nils,.int .i64 (ln:Int),.int .i64 (co:Int)]) (i0:Has L 0 (.ptr 0 0)) (i2:Has L 2 (.ptr 1 0)) (i4:Has L 4 (.ptr 3 0)) :
  xC θ base jaz L s (Yn θ y79.res (SK ts 0 (λd=>.agg (qk d)) r)) λv _ s=>SP ts r v s.bare:=by
 have wl:=W.len;have L0:=C0.lt;have L1:=C1.lt;have L3:=C3.lt;have T:=Q8 hb hi (d:=0) om [[98,111,111,108]] (cs:=[.str [98,111,111,108]]) (n:=1) rfl rfl dc;have hN:=λst p=>@X4 base hb ts i 0 hi st p;have hM:=λst p=>@wi base hb ts i 0 hi om st p;unfold wD at hr;unfold zD pC at *;rw[(by unfold jaz;simp only[qq];rfl:jaz=_)];by_cases c1:isM (tk ts i) [[98,111,111,108]]=true
 ·rw[if_pos c1] at hr;have hi1:=W.isM hi c1
  (have zz:=aI C0.r (aI C1.r C3.r);(repeat'(first|apply jd<;>intro _|simp(disch:=first|exact jK|fail) only[ja i0,ja i2,ja i4,T,c1,C0.q,C1.q,C3.q,C0.r,C1.r,C3.r,r6,γ,δ,ε,ζ,η]));all_goals clear zz)
  refine jbF hb W hi1 hr ?_ ?_ ?_ ?_ ?_ ?_ ?_
  ·simp only[jf,je,jg];omega
  ·unfold pC
   (have zz:=aI C0.q (aI C1.q (aI C3.q (aI C0.r (aI C1.r C3.r))));first|exact ju|fail)
  ·unfold zD
   (have zz:=aI C0.q (aI C1.q (aI C3.q (aI C0.r (aI C1.r C3.r))));first|exact ju|fail)
  ·(have zz:=aI C0.q (aI C1.q (aI C3.q (aI C0.r (aI C1.r C3.r))));first|exact ju|fail)
  ·simp(disch:=decide) only[h12,i0]
  ·simp(disch:=decide) only[h12,i2]
  ·simp(disch:=decide) only[h12,i4]
 rw[if_neg c1] at hr;by_cases k1:(tk ts i).kind=1
 ·rw[if_pos k1] at hr;have k1':((tk ts i).kind:Int)=1:=om
  have hi1:i+1<ts.length:=W.next i hi om
  (have zz:=aI C0.r (aI C1.r C3.r);(repeat'(first|apply jd<;>intro _|simp(disch:=first|exact jK|fail) only[ja i0,ja i2,ja i4,T,c1,k1,k1',hN,hM,C0.q,C1.q,C3.q,C0.r,C1.r,C3.r,r6,γ,δ,ε,ζ,η]));all_goals clear zz)
  refine jbF hb W hi1 hr ?_ ?_ ?_ ?_ ?_ ?_ ?_
  ·simp only[jf,je,jg];omega
  ·unfold pC
   (have zz:=aI C0.q (aI C1.q (aI C3.q (aI C0.r (aI C1.r C3.r))));first|exact ju|fail)
  ·unfold zD
   (have zz:=aI C0.q (aI C1.q (aI C3.q (aI C0.r (aI C1.r C3.r))));first|exact ju|fail)
  ·(have zz:=aI C0.q (aI C1.q (aI C3.q (aI C0.r (aI C1.r C3.r))));first|exact ju|fail)
  ·simp(disch:=decide) only[h12,i0]
  ·simp(disch:=decide) only[h12,i2]
  ·simp(disch:=decide) only[h12,i4]
 rw[if_neg k1] at hr;have k1':¬ ((tk ts i).kind:Int)=1:=om
 have A:=gV hb W N hi (d:=0);cases hn:QR ts i with
 |er t=>
  rw[hn] at hr A;have hr:SR.er t=r:=hr;subst hr;obtain⟨i',d',A⟩:=A;have E:∀ st p,Cl st p (pC ts i 0)->∀ K Kp,XB θ base 128 [.ptr p 0] st K Kp=_:=λst p C K Kp=>A.xb C rfl (λst=>hb.no 128 dc _ _) K Kp;unfold pC at *
  (have zz:=aI C0.r (aI C1.r C3.r);(repeat'(first|apply jd<;>intro _|simp(disch:=first|exact jK|fail) only[ja i0,ja i2,ja i4,T,c1,k1',hN,E,zb,C0.q,C1.q,C3.q,C0.r,C1.r,C3.r,r6,γ,δ,ε,ζ,η]));all_goals clear zz)
  refine⟨i',d',?_⟩;unfold pC
  (refine G1.done ?_ (by rfl) (by rfl) ?_;(· (have zz:=aI C0.q (aI C1.q (aI C3.q (aI C0.r (aI C1.r C3.r))));first|exact ju|fail));(· first|exact vyD|skip))
 |ok lo j=>
  rw[hn] at hr A;dsimp only at hr;have A:PM _ _ _ _ _ _ _:=A;have hj:j<ts.length:=wh W hi hn;have E:∀ st p,Cl st p (pC ts i 0)->∀ K Kp,XB θ base 128 [.ptr p 0] st K Kp=_:=λst p C K Kp=>A.xb C rfl (λst=>hb.no 128 dc _ _) K Kp;have M:=λst p=>@JL base hb ts j 0 hj om [46,46] st p;by_cases c2:isM (tk ts j) [[46,46]]=true
  ·rw[if_pos c2] at hr;have hj1:=W.isM hj c2;have B:=gV hb W N hj1 (d:=0);cases hn2:QR ts (j+1) with
   |er t=>
    rw[hn2] at hr B;have hr:SR.er t=r:=hr;subst hr;obtain⟨i',d',B⟩:=B;have F:∀ st p,Cl st p (pC ts (j+1) 0)->∀ K Kp,XB θ base 128 [.ptr p 0] st K Kp=_:=λst p C K Kp=>B.xb C rfl (λst=>hb.no 128 dc _ _) K Kp;unfold pC at *
    (have zz:=aI C0.r (aI C1.r C3.r);(repeat'(first|apply jd<;>intro _|simp(disch:=first|exact jK|fail) only[ja i0,ja i2,ja i4,T,c1,k1',hN,E,F,M,c2,zb,C0.q,C1.q,C3.q,C0.r,C1.r,C3.r,r6,γ,δ,ε,ζ,η]));all_goals clear zz)
    refine⟨i',d',?_⟩;unfold pC
    (refine G1.done ?_ (by rfl) (by rfl) ?_;(· (have zz:=aI C0.q (aI C1.q (aI C3.q (aI C0.r (aI C1.r C3.r))));first|exact ju|fail));(· first|exact vyD|skip))
   |ok h2 k=>
    rw[hn2] at hr B;have hk:k<ts.length:=wh W hj1 hn2;have B:PM _ _ _ _ _ _ _:=B;have F:∀ st p,Cl st p (pC ts (j+1) 0)->∀ K Kp,XB θ base 128 [.ptr p 0] st K Kp=_:=λst p C K Kp=>B.xb C rfl (λst=>hb.no 128 dc _ _) K Kp;unfold pC at *
    (have zz:=aI C0.r (aI C1.r C3.r);(repeat'(first|apply jd<;>intro _|simp(disch:=first|exact jK|fail) only[ja i0,ja i2,ja i4,T,c1,k1',hN,E,F,M,c2,C0.q,C1.q,C3.q,C0.r,C1.r,C3.r,r6,γ,δ,ε,ζ,η]));all_goals clear zz)
    refine jbF hb W hk hr ?_ ?_ ?_ ?_ ?_ ?_ ?_
    ·simp only[jf,je,jg];omega
    ·unfold pC
     (have zz:=aI C0.q (aI C1.q (aI C3.q (aI C0.r (aI C1.r C3.r))));first|exact ju|fail)
    ·unfold zD
     (have zz:=aI C0.q (aI C1.q (aI C3.q (aI C0.r (aI C1.r C3.r))));first|exact ju|fail)
    ·(have zz:=aI C0.q (aI C1.q (aI C3.q (aI C0.r (aI C1.r C3.r))));first|exact ju|fail)
    ·simp(disch:=decide) only[h12,i0]
    ·simp(disch:=decide) only[h12,i2]
    ·simp(disch:=decide) only[h12,i4]
  ·rw[if_neg c2] at hr;have hr:SR.er (tk ts j)=r:=hr;subst hr;unfold pC at *
   (have zz:=aI C0.r (aI C1.r C3.r);(repeat'(first|apply jd<;>intro _|simp(disch:=first|exact jK|fail) only[ja i0,ja i2,ja i4,T,c1,k1',hN,E,M,c2,zb,C0.q,C1.q,C3.q,C0.r,C1.r,C3.r,r6,γ,δ,ε,ζ,η]));all_goals clear zz)
   refine⟨j,0,?_⟩;unfold pC
   (refine G1.done ?_ (by rfl) (by rfl) ?_;(· (have zz:=aI C0.q (aI C1.q (aI C3.q (aI C0.r (aI C1.r C3.r))));first|exact ju|fail));(· first|exact vyD|skip))
set_option maxHeartbeats 4000000 in
theorem jjK (hb:NB base){ts:List Tk}(W:Wds ts)(N:Nbs ts){i:Nat}(hi:i<ts.length):AnS base 79 (pC ts i 0) [] ts 0 (λd=>.agg (qk d)) (JJ ts i):=by
 have wl:=W.len;have hM:=λst p=>@wi base hb ts i 0 hi om st p;unfold JJ;by_cases k1:(tk ts i).kind=1
 ·rw[if_pos k1];have hi1:i+1<ts.length:=W.next i hi om
  have M:=λst p=>@JL base hb ts (i+1) 0 hi1 om [58] st p;by_cases c1:isM (tk ts (i+1)) [[58]]=true
  ·rw[if_pos c1];have hi2:=W.isM hi1 c1;suffices h:∀ r:SR DeclT,(match wD ts (i+2) with | .er t=>SR.er t | .ok y j=>(match Xl ts j with | .er t=>.er t | .ok bs k=>.ok ⟨(tk ts i).text,y.1,y.2.1,y.2.2,bs,(tk ts i).line,(tk ts i).col⟩ k))=r->AnS base 79 (pC ts i 0) [] ts 0 (λd=>.agg (qk d)) r from h _ rfl
   intro r hr;refine Zr x79 (by rfl) (hb.pur 79 3 dc) ?_;simp only[y79,jn,ν,ξ,τ,υ];rw[(by unfold z79;simp only[qq];rfl:z79=_)];unfold pC at *;repeat'(first|apply jd<;>intro _|simp(disch:=first|exact dzD|fail) only[hM,k1,M,c1,r6,γ,δ,ε,ζ,η])
   refine jkK hb W N hi2 hr ?_ ?_ ?_ ?_ ?_ ?_ ?_
   ·simp only[jf,je,jg,qW];omega
   ·unfold pC
    (first|exact cyD|fail)
   ·unfold zD
    (first|exact cyD|fail)
   ·(first|exact cyD|fail)
   ·simp(disch:=decide) only[h12]
   ·simp(disch:=decide) only[h12]
   ·simp(disch:=decide) only[h12]
  ·rw[if_neg c1];refine⟨i+1,0,?_⟩;unfold pC at *;refine jC x79 (by rfl) (hb.pur 79 3 dc) rfl ?_;simp only[y79,jn,ν,ξ,τ,υ];rw[(by unfold z79;simp only[qq];rfl:z79=_)];repeat'(first|apply jd<;>intro _|simp(disch:=first|exact dzD|fail) only[hM,k1,M,c1,r6,γ,δ,ε,ζ,η])
   (refine G1.done ?_ (by rfl) (by rfl) ?_;(· (first|exact cyD|fail));(· first|exact vyD|skip))
 ·rw[if_neg k1];refine⟨i,0,?_⟩;unfold pC at *;refine jC x79 (by rfl) (hb.pur 79 3 dc) rfl ?_;simp only[y79,jn,ν,ξ,τ,υ];rw[(by unfold z79;simp only[qq];rfl:z79=_)];repeat'(first|apply jd<;>intro _|simp(disch:=first|exact dzD|fail) only[hM,k1,r6,γ,δ,ε,ζ,η])
  (refine G1.done ?_ (by rfl) (by rfl) ?_;(· (first|exact cyD|fail));(· first|exact vyD|skip))
end Go.Sy
end
