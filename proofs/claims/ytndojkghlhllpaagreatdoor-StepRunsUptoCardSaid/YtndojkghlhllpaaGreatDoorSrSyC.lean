/-
  Contracts: the code lowered, what it does told by rules, and the contracts of the functions that the law reaches.
-/
import Derived.Test.YtndojkghlhllpaaGreatDoorSrSyB
import Derived.Test.YtndojkghlhllpaaGreatDoorProg
import Derived.KernelRfl
set_option linter.unusedVariables false
set_option linter.unusedSimpArgs false
open Nat renaming reduceAdd → γ, reduceSub → δ, reduceMul → ζ, reduceBEq → θ, le_refl → τ, le_trans → Qab, zero_le → Qae, zero_add → Qak, le_max_left → Qar, le_max_right → Qas, lt_or_ge → Qau, not_lt_zero → Qaw, lt_of_lt_of_le → Qax, mul_le_mul_right → Qaz, add_mul → QaH, sub_zero → QaL, zero_mul → QaN, succ_pos → QaR, succ_mul → QaT, le_of_eq → QaU, lt_irrefl → Qbb, mul_one → Qbg, ne_of_lt → Qbk, add_assoc → Qbl, lt_succ_self → Qbo, add_zero → Qbq, mod_eq_of_lt → Qbt, one_mul → Qbv, add_comm → Qbw, succ_lt_succ → QbA, min_eq_left → QbD, le_of_lt → QbK, lt_trichotomy → Qcf, le_succ_of_le → Qcn, beq → Qcr, succ → Qcs, ble → Qct, add → Qcu, mul → Qcv, sub → Qcw
open Go.Proofs.Tryz renaming prog → ε
open Int renaming reduceToNat → η, natCast_zero → φ, zero_add → χ, ofNat → Qay, eq_ofNat_of_zero_le → Qbx, natCast_nonneg → QbS, toNat_natCast → QbZ
open List renaming map_cons → κ, map_nil → μ, getD_cons_zero → ν, getD_cons_succ → ξ, length_cons → υ, length_append → ψ, length_nil → ω, getElem_mem → Qac, getD → Qad, take_length → Qaf, cons_append → Qag, range' → Qah, getElem?_eq_getElem → Qai, all_eq_true → Qaj, nil_append → Qal, getD_eq_getElem?_getD → Qam, range → Qan, length_map → Qap, cons → Qaq, length_take → Qat, mem_append → Qav, length_drop → QaD, all_cons → QaF, take_zero → QaG, append_assoc → QaI, mem_map → QaJ, mem_cons → QaS, eq_nil_of_length_eq_zero → QaV, append_nil → QaW, all_append → QaX, map_congr_left → QaY, drop_zero → Qba, length_set → Qbc, map_map → Qbd, map_append → Qbf, mem_singleton → Qbh, ext_getElem → Qbi, range'_succ → Qbj, foldl_append → Qbm, mem_range → Qbn, take_append_drop → Qbp, drop_drop → Qbr, mem_iff_getElem → Qbs, getElem_cons_zero → Qby, length_pos_iff → QbB, getElem?_take → QbC, getElem?_map → QbH, map_toArray → QbI, getElem_cons_succ → QbL, getElem_cons_drop → QbM, drop_length → QbN, getElem?_drop → QbO, mem_of_mem_take → QbP, take_take → QbQ, foldr_cons → QbT, take_add_one → QbU, mem_cons_of_mem → QbW, any_eq_false → QbX, length_eq_zero_iff → QbY, flatMap_cons → Qcb, getElem?_append_left → Qcc, getElem?_append_right → Qcd, mem_append_left → Qch, countP_singleton → Qci, take_succ_cons → Qcj, drop_eq_getElem_cons → Qck, take_of_length_le → Qcl
open Bool renaming and_eq_true → Qaa, eq_iff_iff → QaA, or_eq_true → QaE, not_eq_true' → QaO, false_eq_true → QaP, true_and → QaQ, true_eq_false → Qbz, or_eq_false_iff → QbF, not_true → QbG, and_eq_false_iff → QbR, eq_false_iff → Qcm
open Array renaming length_toList → Qao, getElem?_eq_some_iff → QaB, replicate → QaK, toList_map → Qbu, getElem?_toList → QbJ, getD_eq_getD_getElem? → QbV, toList_append → Qce, mem_toList_iff → Qcg, getElem?_eq_getElem → Qco, getElem?_setIfInBounds_ne → Qcp
open Option renaming map_some → QaC, getD_some → QaM, bind_some → QaZ, map_none → Qbe, map_eq_some_iff → QbE, isSome_iff_exists → Qcq
open Function renaming comp_def → Qca
noncomputable section
namespace Go.Sy
open Go.Ev Go.RowKit
section
variable {P:Program} {base:Bs} {st:St} {K:AV->St->Prop} {e:En}
theorem jp4 {b o k:Nat}(hpos:0<k)(h:o+k<=qv st.h b):jp (zr k (.ptr b o) st) K=K (.agg ((Qan k).map λi=>rat st.h b (o+i))) st:=by
 obtain⟨n,zl,z,cs,hg⟩:=QB (h:=st.h) (b:=b) om;rw[zb hg] at h;have e1:Qct (Qcu o k) n=true:=qG h;simp only[zr,yf,hg,yo,e1,cond_true,jp,Qm hg,qu]
theorem jse {l:List Nat}{n:Nat}(h:n<=l.length)(k:IntKind):jp (JJ (.str l) (some (.int k (n:Int))) none st) K=K (.str (l.drop n)) st:=by
 have e:qD (.int k (n:Int))=λF=>F n:=by funext F;show(force n F)=F n;rw[jG]
 have e1:Qct n l.length=true:=qG h;have e2:Qct l.length l.length=true:=qG (τ _);simp only[JJ,Jb,optA,e,jN,jG,e1,e2,cond_true,jp,qY,zc];rw[show Qcw l.length n=(l.drop n).length by rw[QaD];rfl,Qaf]
theorem jsd {l:List Nat}{n:Nat}(h:n<=l.length)(k:IntKind):jp (JJ (.str l) none (some (.int k (n:Int))) st) K=K (.str (l.take n)) st:=by
 have e:qD (.int k (n:Int))=λF=>F n:=by funext F;show(force n F)=F n;rw[jG]
 have e1:Qct n l.length=true:=qG h;have e2:Qct 0 n=true:=qG (Qae _);simp only[JJ,Jb,optA,e,jN,jG,e1,e2,cond_true,jp,qY,zc];rfl
theorem jsc {l:List Nat}{a n:Nat}(h:a<=n)(h2:n<=l.length)(k k':IntKind):jp (JJ (.str l) (some (.int k (a:Int))) (some (.int k' (n:Int))) st) K=K (.str ((l.drop a).take (n - a))) st:=by
 have e:∀ (k:IntKind) (n:Nat),qD (.int k (n:Int))=λF=>F n:=λk n=>by funext F;show(force n F)=F n;rw[jG]
 have e1:Qct n l.length=true:=qG h2;have e2:Qct a n=true:=qG h;simp only[JJ,Jb,optA,e,jN,jG,e1,e2,cond_true,jp,qY,zc];rfl
end
def nw (s:St)(cs:List AV):St:=⟨s.nx+1,(qf (jM s.nx)).run (.row cs.length cs.length cs .e) s.h,s.dirty,s.fr⟩
def jfu (x:Option AO)(o:Nat)(vs:List AV):AO:=match x with|some (.row n zl z cs)=>.row n zl z (qw vs cs o)|_=>.row 0 1 [] (qw vs .e o)
def wr (s:St)(b o:Nat)(vs:List AV):St:=⟨s.nx,(qf (jM b)).run (jfu (jy s.h b) o vs) s.h,min s.dirty b,s.fr⟩
def apO (x:Option AO)(vs:List AV):AO:=match x with|some (.row n zl z cs)=>.row (n+vs.length) zl z (qw vs cs n)|_=>.row vs.length 1 [] (qw vs .e 0)
def ap (s:St)(b:Nat)(vs:List AV):St:=⟨s.nx+1,(qf (jM s.nx)).run (apO (jy s.h b) vs) ((qf (jM b)).run .dead s.h),min s.dirty b,s.fr⟩
theorem ji (s:St)(cs:List AV):(nw s cs).nx=s.nx+1:=nr rfl
theorem jo (s:St)(b o:Nat)(vs:List AV):(wr s b o vs).nx=s.nx:=nr rfl
theorem jq (s:St):s.bare.nx=s.nx:=nr rfl
theorem u6 (s:St):s.bare.h=s.h:=nr rfl
theorem WX (s:St)(cs:List AV):(nw s cs).fr=s.fr:=nr rfl
theorem ja0 (s:St)(b o:Nat)(vs:List AV):(wr s b o vs).fr=s.fr:=nr rfl
theorem jeq (s:St):s.bare.fr=[]:=nr rfl
theorem JF {s:St}{cs:List AV}{b:Nat}(h:b≠s.nx):jy (nw s cs).h b=jy s.h b:=by unfold nw;rw[qb,if_neg h]
theorem Jo {s:St}{b o:Nat}{vs:List AV}{c:Nat}(h:c≠b):jy (wr s b o vs).h c=jy s.h c:=by unfold wr;rw[qb,if_neg h]
theorem jen {s:St}{b:Nat}{vs:List AV}{c:Nat}(h:c≠s.nx)(h2:c≠b):jy (ap s b vs).h c=jy s.h c:=by unfold ap;rw[qb,if_neg h,qb,if_neg h2]
theorem jh9 (s:St)(cs:List AV):qv (nw s cs).h s.nx=cs.length:=by unfold nw;rw[jkQ,if_pos rfl]
theorem XM {s:St}{cs:List AV}{b:Nat}(h:b≠s.nx):qv (nw s cs).h b=qv s.h b:=yO (JF h)
theorem jgq {s:St}{cs:List AV}{i:Nat}(h:i<cs.length):rat (nw s cs).h s.nx i=cs.getD i .bad:=by unfold nw;rw[jnR,if_pos rfl,zA,Yr,Qbt h];rfl
theorem vQ {s:St}{cs:List AV}{b i:Nat}(h:b≠s.nx):rat (nw s cs).h b i=rat s.h b i:=yD (JF h) i
theorem wZ {s:St}{cs:List AV}{b:Nat}(h:b=s.nx):qv (nw s cs).h b=cs.length:=by rw[h,jh9]
theorem gP {s:St}{cs:List AV}{b i:Nat}(h:b=s.nx)(hi:i<cs.length):rat (nw s cs).h b i=cs.getD i .bad:=by rw[h,jgq hi]
theorem Xj (s:St)(b o:Nat)(vs:List AV)(c:Nat):qv (wr s b o vs).h c=qv s.h c:=by
 by_cases h:c=b
 ·subst h;unfold wr jfu qv;rw[qb,if_pos rfl];cases jy s.h c with
  |none=>rfl
  |some x=>cases x<;>rfl
 ·exact yO (Jo h)
theorem Uo (s:St)(b o:Nat)(vs:List AV)(i:Nat):rat (wr s b o vs).h b i=if o<=i/\i<o+vs.length then vs.getD (i - o) .bad else rat s.h b i:=by
 unfold wr rat;rw[qb,if_pos rfl];unfold jfu;cases jy s.h b with
 |none=>simp only[za];congr 1;rw[zA,Yr];rfl
 |some x=>cases x<;>simp only[za]<;>(congr 1;rw[zA,Yr];rfl)
theorem kd {s:St}{b o:Nat}{vs:List AV}{i:Nat}(h1:o<=i)(h2:i<o+vs.length):rat (wr s b o vs).h b i=vs.getD (i - o) .bad:=by rw[Uo,if_pos ⟨h1,h2⟩]
theorem gN {s:St}{b o:Nat}{vs:List AV}{i:Nat}(h:i<o):rat (wr s b o vs).h b i=rat s.h b i:=by rw[Uo,if_neg om]
theorem gO {s:St}{b o:Nat}{vs:List AV}{i:Nat}(h:o+vs.length<=i):rat (wr s b o vs).h b i=rat s.h b i:=by rw[Uo,if_neg om]
theorem Z6 {s:St}{b o c:Nat}{vs:List AV}{i:Nat}(h:c≠b):rat (wr s b o vs).h c i=rat s.h c i:=yD (Jo h) i
theorem jlg {s:St}{b o:Nat}{vs:List AV}{c:Nat}(h:uA s.h c):uA (wr s b o vs).h c:=by
 by_cases hc:c=b
 ·subst hc;unfold uA wr;rw[qb,if_pos rfl];obtain⟨n,zl,z,cs,e⟩:=h;rw[e];exact⟨_,_,_,_,rfl⟩
 ·exact Jx (Jo hc) h
structure Cl (s:St)(b:Nat)(cs:List AV):Prop where
 lt:b<s.nx
 row:uA s.h b
 len:qv s.h b=cs.length
 cell:∀ i,i<cs.length->rat s.h b i=cs.getD i .bad
theorem Cl.keep {s s':St}{b:Nat}{cs:List AV}(h:Cl s b cs)(hn:s.nx<=s'.nx)(k:jy s'.h b=jy s.h b):Cl s' b cs:=
 ⟨Qax h.lt hn,Jx k h.row,(yO k).trans h.len,λi hi=>(yD k i).trans (h.cell i hi)⟩
theorem Cl.new (s:St)(cs:List AV):Cl (nw s cs) s.nx cs:=
 ⟨Qbo _,⟨_,_,_,_,by unfold nw;rw[qb,if_pos rfl]⟩,jh9 s cs,λi hi=>jgq hi⟩
theorem Cl.nw {s:St}{b:Nat}{cs:List AV}(h:Cl s b cs)(ds:List AV):Cl (nw s ds) b cs:=h.keep (Nat.le_succ _) (JF (Qbk h.lt))
theorem Cl.wrO {s:St}{b:Nat}{cs:List AV}(h:Cl s b cs){c:Nat}(hc:b≠c)(o:Nat)(vs:List AV):Cl (wr s c o vs) b cs:=h.keep (τ _) (Jo hc)
def upd:List AV->Nat->List AV->List AV
 |[],_,_=>[]
 |c :: cs,0,[]=>c :: cs
 |c :: cs,0,v :: vs=>v :: upd cs 0 vs
 |c :: cs,o+1,vs=>c :: upd cs o vs
theorem uP:∀ (cs:List AV) (o:Nat) (vs:List AV),(upd cs o vs).length=cs.length
 |[],_,_=>rfl
 |c :: cs,0,[]=>rfl
 |c :: cs,0,v :: vs=>by show(upd cs 0 vs).length+1=_;rw[uP cs 0 vs];rfl
 |c :: cs,o+1,vs=>by show(upd cs o vs).length+1=_;rw[uP cs o vs];rfl
theorem Uw:∀ (cs:List AV) (o:Nat) (vs:List AV) (i:Nat),i<cs.length->(upd cs o vs).getD i .bad=if o<=i/\i<o+vs.length then vs.getD (i - o) .bad else cs.getD i .bad
 |[],_,_,_,h=>by simp at h
 |c :: cs,0,[],i,h=>by rw[if_neg (by simp)];rfl
 |c :: cs,0,v :: vs,0,h=>by rw[if_pos (by simp)];rfl
 |c :: cs,0,v :: vs,i+1,h=>by
  show(upd cs 0 vs).getD i .bad=_;rw[Uw cs 0 vs i (by simpa using h)];by_cases hi:i<vs.length
  ·rw[if_pos om,if_pos (by simp;omega)];rfl
  ·rw[if_neg om,if_neg (by simp;omega)];rfl
 |c :: cs,o+1,vs,0,h=>by rw[if_neg om];rfl
 |c :: cs,o+1,vs,i+1,h=>by
  show(upd cs o vs).getD i .bad=_;rw[Uw cs o vs i (by simpa using h)];by_cases hi:o<=i/\i<o+vs.length
  ·rw[if_pos hi,if_pos om,Nat.add_sub_add_right]
  ·rw[if_neg hi,if_neg om];rfl
theorem Cl.wr {s:St}{b:Nat}{cs:List AV}(h:Cl s b cs)(o:Nat)(vs:List AV):Cl (wr s b o vs) b (upd cs o vs):=
 ⟨h.lt,jlg h.row,by rw[Xj,h.len,uP],λi hi=>by
  rw[uP] at hi;rw[Uo,Uw _ _ _ _ hi,h.cell i hi]⟩
theorem Cl.ap {s:St}{b:Nat}{cs:List AV}(h:Cl s b cs)(vs:List AV):Cl (ap s b vs) s.nx (cs ++ vs):=by
 obtain⟨n,zl,z,ks,e⟩:=h.row;have hl:=h.len;rw[zb e] at hl;have eo:jy (Go.Sy.ap s b vs).h s.nx=some (.row (n+vs.length) zl z (qw vs ks n)):=by unfold Go.Sy.ap;rw[qb,if_pos rfl,e];rfl
 refine⟨Qbo _,⟨_,_,_,_,eo⟩,by rw[zb eo,ψ,hl],λi hi=>?_⟩;rw[Qm eo,za];rw[ψ] at hi;by_cases hc:n<=i/\i<n+vs.length
 ·rw[if_pos hc,Qam,Qam,Qcd om,hl]
 ·have hi':i<cs.length:=om
  rw[if_neg hc,<-Qm e,h.cell i hi',Qam,Qam,Qcc hi']
theorem YS (cs:List AV):(AV.agg cs).cells=cs:=nr rfl
theorem ut (k:IntKind)(n:Int):(AV.int k n).cells=[.int k n]:=nr rfl
theorem ul (l:List Nat):(AV.str l).cells=[.str l]:=nr rfl
theorem wP (b:Bool):(AV.bool b).cells=[.bool b]:=nr rfl
theorem ZU (b o n c z:Nat)(x:Bool):(AV.slice b o n c z x).cells=[.slice b o n c z x]:=nr rfl
theorem wO:AV.nils.cells=[.nils]:=nr rfl
theorem uo (b o:Nat):(AV.ptr b o).cells=[.ptr b o]:=nr rfl
theorem jcn:lall AV.cell []=true:=nr rfl
theorem jcp (k:IntKind)(n:Int)(l:List AV):lall AV.cell (.int k n :: l)=lall AV.cell l:=nr rfl
theorem jcl (x:List Nat)(l:List AV):lall AV.cell (.str x :: l)=lall AV.cell l:=nr rfl
theorem HD (x:Bool)(l:List AV):lall AV.cell (.bool x :: l)=lall AV.cell l:=nr rfl
theorem ga (b o n c z:Nat)(x:Bool)(l:List AV):lall AV.cell (.slice b o n c z x :: l)=lall AV.cell l:=nr rfl
theorem HC (l:List AV):lall AV.cell (.nils :: l)=lall AV.cell l:=nr rfl
theorem jcm (b o:Nat)(l:List AV):lall AV.cell (.ptr b o :: l)=lall AV.cell l:=nr rfl
theorem jla (a b:List AV)(h:lall AV.cell a=true):lall AV.cell (a ++ b)=lall AV.cell b:=by
 induction a with
 |nil=>rfl
 |cons c a ih=>
  have h':cond c.cell (lall AV.cell a) false=true:=h;cases hc:c.cell with
  |false=>rw[hc] at h';cases h'
  |true=>
   rw[hc] at h';show cond c.cell (lall AV.cell (a ++ b)) false=_;rw[hc];exact ih h'
section
variable {P:Program} {base:Bs} {st:St} {K:AV->St->Prop} {e:En}
theorem jgu (cs:List AV):jp (Ev.newRow st cs) K=K (.ptr st.nx 0) (nw st cs):=by
 simp only[Ev.newRow,jG,jN,St.alloc_eq,jp];rfl
theorem jnd {v:AV}(h:lall AV.cell v.cells=true):jp (jlz v st) K=K (.ptr st.nx 0) (nw st v.cells):=by
 simp only[jlz,h,cond_true];exact jgu _
theorem jrT {k b o:Nat}{v:AV}(hk:0<k)(hc:v.cells.length=k)(hl:lall AV.cell v.cells=true)(ho:o+k<=qv st.h b):jp (stV k (.ptr b o) v st) K=K qm (wr st b o v.cells):=by
 obtain⟨n,zl,z,cs,hg⟩:=QB (h:=st.h) (b:=b) om;rw[zb hg] at ho;have e1:Qcr (jP v.cells) k=true:=Zk (by rw[jN];exact hc);have e2:Qct (Qcu o k) n=true:=qG ho;simp only[stV,yf,hg,yo,e1,e2,hl,cond_true,St.put_eq,jp];unfold wr jfu;rw[hg]
def rats (h:T AO)(b o:Nat):Nat->List AV
 |0=>[]
 |k+1=>rat h b o :: rats h b (o+1) k
theorem QZ (h:T AO)(b:Nat):∀ (k o:Nat),rats h b o k=(Qan k).map λi=>rat h b (o+i)
 |0,o=>rfl
 |k+1,o=>by
  rw[List.range_succ_eq_map,κ,Qbd];show rat h b o :: rats h b (o+1) k=_;rw[QZ h b k (o+1)]
  congr 1
  refine QaY λi _=>?_;show rat h b (o+1+i)=rat h b (o+(i+1));rw[Qbl,Qbw 1 i]
theorem jgv {k b o:Nat}(hk:0<k)(h:o+k<=qv st.h b):jp (zr k (.ptr b o) st) K=K (.agg (rats st.h b o k)) st:=by rw[QZ];exact jp4 hk h
theorem rats0 (h:T AO)(b o:Nat):rats h b o 0=[]:=nr rfl
theorem jaC (h:T AO)(b o k:Nat):rats h b o (k+1)=rat h b o :: rats h b (o+1) k:=nr rfl
theorem Cl.ratsP {s:St}{b:Nat}{cs:List AV}(h:Cl s b cs):∀ k o,o+k<=cs.length->rats s.h b o k=(cs.drop o).take k
 |0,o,_=>rfl
 |k+1,o,hk=>by
  show rat s.h b o :: Go.Sy.rats s.h b (o+1) k=_;rw[h.ratsP k (o+1) om,h.cell o om,Qck (show o<cs.length by omega),Qcj,Qam,Qai om];rfl
theorem Z0 {h h':T AO}{b:Nat}(e:jy h' b=jy h b):∀ k o,rats h' b o k=rats h b o k
 |0,_=>rfl
 |k+1,o=>by rw[jaC,jaC,yD e,Z0 e k]
theorem J5 (h:T AO)(b:Nat):∀ k o,(rats h b o k).length=k
 |0,_=>rfl
 |k+1,o=>by rw[jaC,υ,J5 h b k]
theorem Zz {h:T AO}{b:Nat}:∀ {k o:Nat} {cs:List AV},cs.length=k->(∀ i,i<k->rat h b (o+i)=cs.getD i .bad)->rats h b o k=cs
 |0,o,[],_,_=>rfl
 |k+1,o,c :: cs,hl,h=>by
  rw[jaC,Zz (cs:=cs) (by simpa using hl) (λi hi=>by
   have:=h (i+1) om;rw[show o+1+i=o+(i+1) by omega,this];rfl)]
  have:=h 0 om;rw[Qbq] at this;rw[this];rfl
theorem jnQ {s:St}{cs:List AV}{k:Nat}(h:cs.length=k):rats (nw s cs).h s.nx 0 k=cs:=Zz h λi hi=>by rw[Qak];exact jgq om
theorem Zy {s:St}{cs:List AV}{b k:Nat}(hb:b=s.nx)(h:cs.length=k):rats (nw s cs).h b 0 k=cs:=by rw[hb,jnQ h]
theorem Zx {s:St}{cs:List AV}{b o k:Nat}(h:b≠s.nx):rats (nw s cs).h b o k=rats s.h b o k:=Z0 (JF h) _ _
theorem wW {s:St}{b o k:Nat}{vs:List AV}(h:vs.length=k):rats (wr s b o vs).h b o k=vs:=Zz h λi hi=>by
 rw[kd om om,Nat.add_sub_cancel_left]
theorem Zv {s:St}{b c o o' k:Nat}{vs:List AV}(h:b≠c):rats (wr s c o' vs).h b o k=rats s.h b o k:=Z0 (Jo h) _ _
theorem Zw {s:St}{b o k:Nat}{vs:List AV}:rats (wr s b o vs).h b 0 k=upd (rats s.h b 0 k) o vs:=by
 refine Zz (by rw[uP,J5]) λi hi=>?_;rw[Qak,Uo,Uw _ _ _ _ (by rw[J5];exact hi),QZ]
 congr 1
 simp[Qam,QbH,hi]
theorem Zs (o:Nat)(vs:List AV):upd [] o vs=[]:=nr (by cases o<;>rfl)
theorem YX (c:AV)(cs:List AV):upd (c :: cs) 0 []=c :: cs:=nr rfl
theorem YY (c:AV)(cs:List AV)(v:AV)(vs:List AV):upd (c :: cs) 0 (v :: vs)=v :: upd cs 0 vs:=nr rfl
theorem ZI (c:AV)(cs:List AV)(o:Nat)(vs:List AV):upd (c :: cs) (o+1) vs=c :: upd cs o vs:=nr rfl
theorem ZH:∀ (cs:List AV) ,upd cs 0 []=cs
 |[]=>rfl
 |c :: cs=>rfl
theorem Cl.of_rats {s:St}{b k:Nat}{cs:List AV}(h1:b<s.nx)(h2:qv s.h b=k)(h3:cs.length=k)(h4:0<k)(h5:Go.Sy.rats s.h b 0 k=cs):Cl s b cs:=by
 refine⟨h1,QB om,om,λi hi=>?_⟩;have:=congrArg (λl=>l.getD i .bad) h5;rw[QZ] at this;have hi':i<k:=om
 simpa[Qam,QbH,hi'] using this
theorem Cl.rats0 {s:St}{b k:Nat}{cs:List AV}(h:Cl s b cs)(hk:cs.length=k):Go.Sy.rats s.h b 0 k=cs:=Zz hk λi hi=>by rw[Qak];exact h.cell i om
theorem Cl.ldA {s:St}{b k o:Nat}{cs:List AV}(h:Cl s b cs)(hk:0<k)(ho:o+k<=cs.length)(K:AV->St->Prop):jp (zr k (.ptr b o) s) K=K (.agg ((cs.drop o).take k)) s:=by
 rw[jgv hk (by rw[h.len];exact ho),h.ratsP k o ho]
end
section
variable {P:Program} {base:Bs} {st:St} {K:AV->St->Prop} {e:En}
theorem uQ:∀ (z:List AV) (off:Nat) (vs:List AV),off+vs.length<=z.length->z.take off ++ (vs ++ z.drop (off+vs.length))=upd z off vs
 |[],off,vs,h=>by
  have hv:vs=[]:=QaV (by have h':off+vs.length<=0:=h;omega);subst hv;simp[upd]
 |c :: z,0,[],_=>rfl
 |c :: z,0,v :: vs,h=>by
  show v :: (vs ++ (c :: z).drop (0+(vs.length+1)))=v :: upd z 0 vs;rw[<-uQ z 0 vs (by simp at h ⊢;omega)];simp
 |c :: z,off+1,vs,h=>by
  show c :: z.take off ++ (vs ++ (c :: z).drop (off+1+vs.length))=c :: upd z off vs;rw[<-uQ z off vs (by simp at h;omega),show off+1+vs.length=(off+vs.length)+1 by omega];rfl
theorem HS {z:List AV}{off size:Nat}{v:AV}{ps:List ((Nat×Nat)×AV)}(h1:v.plain=true)(h2:v.cells.length=size)(h3:off+size<=z.length):Yt z (((off,size),v) :: ps)=Yt (upd z off v.cells) ps:=by
 have e1:Qcr (jP v.cells) size=true:=Zk (by rw[jN];exact h2);have e2:Qct (Qcu off size) (jP z)=true:=qG (by rw[jN];exact h3);have e3:yV (yp z off) (yV v.cells (zG z (Qcu off size)))=upd z off v.cells:=by
  rw[yz,yz,qY,zc,<-uQ z off v.cells om,h2];rfl
 show cond v.plain (cond (Qcr (jP v.cells) size) (cond (Qct (Qcu off size) (jP z)) (Yt (yV (yp z off) (yV v.cells (zG z (Qcu off size)))) ps) none) none) none=_;rw[h1,e1,e2,e3];rfl
theorem jdf (z:List AV):jp (Uj z [] st) K=K (.agg z) st:=nr rfl
theorem jde {z:List AV}{off size:Nat}{v:AV}{ps:List ((Nat×Nat)×AV)}(h1:v.plain=true)(h2:v.cells.length=size)(h3:off+size<=z.length):jp (Uj z (((off,size),v) :: ps) st) K=jp (Uj (upd z off v.cells) ps st) K:=by
 unfold Uj;rw[HS h1 h2 h3]
def bSV (len s:Nat)(z:List AV)(ps:List ((Nat×Nat)×AV))(st:St):ER:=jU (Yt z ps) λcells=>
 cond (lall AV.cell cells) (force (jP cells) λn=>st.alloc (.row n n cells .e) λb st=>.ok (.slice b 0 len len s true) st) .no
theorem jlH (len s:Nat)(z:List AV)(ps:List ((Nat×Nat)×AV)):jp (GT len s z ps st) K=jp (bSV len s (zf z len) ps st) K:=nr rfl
theorem jgw {len s:Nat}{z:List AV}(h:lall AV.cell z=true):jp (bSV len s z [] st) K=K (.slice st.nx 0 len len s true) (nw st z):=by
 have e:Yt z []=some z:=rfl;simp only[bSV,e,jU,h,cond_true,jG,jN,St.alloc_eq,jp];rfl
theorem jbd {len s:Nat}{z:List AV}{off size:Nat}{v:AV}{ps:List ((Nat×Nat)×AV)}(h1:v.plain=true)(h2:v.cells.length=size)(h3:off+size<=z.length):jp (bSV len s z (((off,size),v) :: ps) st) K=jp (bSV len s (upd z off v.cells) ps st) K:=by
 unfold bSV;rw[HS h1 h2 h3]
theorem KI (z:List AV):zf z 0=[]:=nr rfl
theorem UF (z:List AV)(n:Nat):zf z (n+1)=z ++ zf z n:=nr (by first|rfl|(unfold zf;simp[yz]))
def WH (e:En):List ((Nat×Nat)×A)->(F:List ((Nat×Nat)×AV)->Prop)->Res F
 |[],F=>F []
 |(p,a) :: l,F=>on1 e a λv=>WH e l λvs=>F ((p,v) :: vs)
theorem Gp (e:En):∀ (l:List ((Nat×Nat)×A)) (F:List ((Nat×Nat)×AV)->Prop),WH e l F=((l.map (·.2)).all (okA e)=true/\F (l.map λp=>(p.1,vl e p.2)))
 |[],F=>by simp[WH]
 |(p,a) :: l,F=>by simp[WH,Gp e l,on1,and_assoc]
theorem jcy (z:List AV)(ps:List ((Nat×Nat)×A)):wK P base (.i (.build z ps)) e st K=WH e ps λvs=>jp (Uj z vs st) K:=by
 rw[Gp];rfl
theorem HM (len s:Nat)(z:List AV)(ps:List ((Nat×Nat)×A)):wK P base (.i (.buildS len s z ps)) e st K=WH e ps λvs=>jp (GT len s z vs st) K:=by
 rw[Gp];rfl
theorem jmQ (f:FuncId)(l:List A):wK P base (.i (.fn f l)) e st K=vu e l λvs=>K (.fn f vs) st:=by
 rw[uY];rfl
theorem jmw (F:List ((Nat×Nat)×AV)->Prop):WH e [] F=F []:=nr rfl
theorem jmv (p:Nat×Nat)(a:A)(l:List ((Nat×Nat)×A))(F:List ((Nat×Nat)×AV)->Prop):WH e ((p,a) :: l) F=on1 e a λv=>WH e l λvs=>F ((p,v) :: vs):=nr rfl
theorem Hj (k:IntKind)(n:Int):(AV.int k n).plain=true:=nr rfl
theorem Hg (l:List Nat):(AV.str l).plain=true:=nr rfl
theorem KL (b:Bool):(AV.bool b).plain=true:=nr rfl
theorem kr (b o n c z:Nat)(x:Bool):(AV.slice b o n c z x).plain=true:=nr rfl
theorem KK:AV.nils.plain=true:=nr rfl
theorem Hh (b o:Nat):(AV.ptr b o).plain=true:=nr rfl
theorem Hk (cs:List AV):(AV.agg cs).plain=true:=nr rfl
theorem jdI (t:TypeId)(x:A):wK P base (.i (.iface t x)) e st K=on1 e x λv=>K (.iface t v) st:=k_1 (V:=λv st=>.ok (.iface t v) st) rfl (λ_=>rfl) K
end
def eqs:AV->Bool
 |.bool _=>true | .int _ _=>true | .str _=>true | .ptr _ _=>true | .nilp=>true | .slice _ _ _ _ _ _=>true | .nils=>true | .map _=>true | .nilm=>true | .nilf=>true | .nilif=>true | .lst _ _=>true | .xlst _ _=>true | .lptr _ _=>true
 |_=>false
theorem jls (a:Int):eqI a a=true:=by cases a<;>simp[eqI]
theorem JO (a:Nat):Qcr a a=true:=by rw[qM]
theorem V6 (l:List AV):uI l l=true:=by unfold uI;exact @decide_eq_true _ (_) rfl
theorem V8 {v:AV}(h:eqs v=true):ZE v v=true:=by
 cases v<;>first|(cases h;done)|rfl|skip
 case bool b=>cases b<;>rfl
 case int k n=>show cond (eqK k k) (eqI n n) false=true;rw[Xo,jls];rfl
 case str s=>show ZK s s=true;rw[J4];simp
 case ptr b o=>show cond (Qcr b b) (Qcr o o) false=true;rw[JO,JO];rfl
 case slice b o n c z ex=>
  show cond (Qcr b b) (cond (Qcr o o) (cond (Qcr n n) (cond (Qcr c c) (cond (Qcr z z) (cond ex ex (cond ex false true)) false) false) false) false) false=true;rw[JO,JO,JO,JO,JO];cases ex<;>rfl
 case map r=>show Qcr r r=true;exact JO r
 case lst n cs=>show cond (Qcr n n) (uI cs cs) false=true;rw[JO,V6];rfl
 case xlst n cs=>show cond (Qcr n n) (uI cs cs) false=true;rw[JO,V6];rfl
 case lptr cs n=>show cond (Qcr n n) (uI cs cs) false=true;rw[JO,V6];rfl
theorem V7:∀ {l:List AV},l.all eqs=true->Wb l l=true
 |[],_=>rfl
 |v :: l,h=>by
  simp only[QaF,Qaa] at h;show cond (ZE v v) (Wb l l) false=true;rw[V8 h.1,V7 h.2];rfl
theorem jiN {v:AV}(h:eqs v=true):jf8 v v=true:=by
 cases v<;>first|(cases h;done)|exact V8 h
section
variable {P:Program}
theorem Qk {t:TypeId}{b o:Nat}{v:AV}{h:T AO}(h1:Go.Ev.isAgg P t=some false)(h2:Go.Ev.sizeOf P t=some 1)(ho:o<qv h b)(hv:rat h b o=v)(hc:eqs v=true):j9 P t (.ptr b o) v h=true:=by
 obtain⟨n,zl,z,cs,hg⟩:=QB (h:=h) (b:=b) om;rw[zb hg] at ho;rw[Qm hg] at hv;have e3:Qct (Qcs o) n=true:=qG ho;have e:(qV P t).run (.ptr b o) h=some v:=by simp only[qV,h1,h2,hg,e3,cond_true,hv]
 unfold j9;dsimp only;rw[e];exact jiN hc
theorem Y4 {t:TypeId}{b o k:Nat}{cs:List AV}{h:T AO}(h1:Go.Ev.isAgg P t=some true)(h2:Go.Ev.sizeOf P t=some k)(hk:0<k)(ho:o+k<=qv h b)(hv:rats h b o k=cs)(hc:cs.all eqs=true):j9 P t (.ptr b o) (.agg cs) h=true:=by
 obtain⟨n,zl,z,cs',hg⟩:=QB (h:=h) (b:=b) om;rw[zb hg] at ho;have e3:Qct (Qcu o k) n=true:=qG ho;have e:(qV P t).run (.ptr b o) h=some (.agg cs):=by
  simp only[qV,h1,h2,hg,e3,cond_true];rw[<-hv,QZ,qu]
  congr 2
  refine QaY λi _=>?_;rw[Qm hg]
 unfold j9;dsimp only;rw[e];exact V7 hc
def Yq (P:Program)(t u:TypeId)(x y:TE):Bool:=
 match x,y with
 |.rd a v,.wr pre post=>j9 P t a v pre && j9 P t a v post
 |.rd _ _,.rd _ _=>false
 |.wr pre post,.rd a v=>j9 P u a v pre && j9 P u a v post
 |.wr _ _,.wr _ _=>false
 |_,_=>true
theorem h_0 (t:TypeId)(x:TE)(tb:List TE):(held P t x tb []=true)=True:=by simp[held]
theorem h_1 (t:TypeId)(x:TE)(tb:List TE)(k:Nat)(u:TypeId)(l:List (Nat×TypeId)):(held P t x tb ((k,u) :: l)=true)=(Yq P t u x (yy .none tb k)=true/\held P t x tb l=true):=by
 have e:held P t x tb ((k,u) :: l)=cond (Yq P t u x (yy .none tb k)) (held P t x tb l) false:=by
  show cond _ _ false=cond _ _ false
  congr 1
  unfold Yq;cases x<;>cases yy TE.none tb k<;>first|rfl|(simp only[Bool.cond_eq_ite];split<;>simp[*])
 rw[e];cases Yq P t u x (yy .none tb k)<;>simp
theorem jq5 (t u:TypeId)(a v:AV)(pre post:T AO):(Yq P t u (.rd a v) (.wr pre post)=true)=(j9 P t a v pre=true/\j9 P t a v post=true):=by simp[Yq]
theorem jq4 (t u:TypeId)(a v:AV)(pre post:T AO):(Yq P t u (.wr pre post) (.rd a v)=true)=(j9 P u a v pre=true/\j9 P u a v post=true):=by simp[Yq]
theorem jq7 (t u:TypeId)(y:TE):(Yq P t u .none y=true)=True:=by simp[Yq]
theorem jq6 (t u:TypeId)(x:TE):(Yq P t u x .none=true)=True:=by cases x<;>simp[Yq]
theorem jqR (d x:TE)(l:List TE):yy d (x :: l) 0=x:=nr rfl
theorem jqQ (d x:TE)(l:List TE)(n:Nat):yy d (x :: l) (n+1)=yy d l n:=nr rfl
theorem jqh (e:En)(v:AV)(st st':St):teW none e v st st'=.none:=nr rfl
theorem jqg (e:En)(v:AV)(st st':St):teW (some none) e v st st'=.wr st.h st'.h:=nr rfl
theorem jqf (a:A)(e:En)(v:AV)(st st':St):teW (some (some a)) e v st st'=.rd (vl e a) v:=nr rfl
theorem jp0 (e:En)(v:AV):vl e (.c v)=v:=nr rfl
theorem jpY (x:Nat)(v:AV)(l g:Sl):vl ⟨(x,v) :: l,g⟩ (.t x)=v:=by simp[vl,En.look,zi,En.has,zX]
theorem jlZ {k x:Nat}(h:k≠x)(v:AV)(l g:Sl):vl ⟨(k,v) :: l,g⟩ (.t x)=vl ⟨l,g⟩ (.t x):=by simp[vl,En.look,zi,En.has,zX,h]
theorem jpZ (x:Nat)(v:AV)(g:Sl):vl ⟨[],(x,v) :: g⟩ (.t x)=v:=by simp[vl,En.look,zi,En.has,zX,has]
theorem jl0 {k x:Nat}(h:k≠x)(v:AV)(g:Sl):vl ⟨[],(k,v) :: g⟩ (.t x)=vl ⟨[],g⟩ (.t x):=by simp[vl,En.look,zi,En.has,zX,has,h]
theorem hY {L:Sl}{x:Nat}{v:AV}(h:Has L x v):vl ⟨[],L⟩ (.t x)=v:=by
 obtain⟨h1,h2⟩:=h;simp[vl,En.has,En.look,has,h2]
end
section
variable {P:Program} {base:Bs} {st:St} {K:AV->St->Prop} {e:En}
def uD (sz:Nat)(v:AV)(lo hi:Option AV)(st:St):ER:=match v with
 |.nils=>optA lo 0 λl=>optA hi 0 λh=>cond (Qcr l 0) (cond (Qcr h 0) (.ok .nils st) .no) .no
 |.slice b o len cap sz' ex=>optA lo 0 λl=>optA hi len λh=>
  cond (Qcr sz' sz) (cond (Qct l h) (cond (Qct h cap) (force (Qcw h l) λk=>force (Qcu o (Qcv l sz)) λo=>force (Qcw cap l) λc=>.ok (.slice b o k c sz ex) st) .no) .no) .no
 |.lst n cs=>optA lo 0 λl=>optA hi n λh=>
  cond (Qct l h) (cond (Qct h n) (cond (Qct (Qcv h sz) (jP cs)) (.ok (.lst (Qcw h l) (yp (zG cs (Qcv l sz)) (Qcv (Qcw h l) sz))) st) .no) .no) .no
 |_=>.no
theorem jie (sz:Nat)(x lo:A):wK P base (.i (.slS sz x (some lo) none)) e st K=on1 e x λv=>on1 e lo λl=>jp (uD sz v (some l) none st) K:=k_2 (V:=λv l st=>uD sz v (some l) none st) rfl (λ_=>rfl) K
theorem jid (sz:Nat)(x hi:A):wK P base (.i (.slS sz x none (some hi))) e st K=on1 e x λv=>on1 e hi λh=>jp (uD sz v none (some h) st) K:=k_2 (V:=λv h st=>uD sz v none (some h) st) rfl (λ_=>rfl) K
theorem jic (sz:Nat)(x lo hi:A):wK P base (.i (.slS sz x (some lo) (some hi))) e st K=on1 e x λv=>on1 e lo λl=>on1 e hi λh=>jp (uD sz v (some l) (some h) st) K:=k_3 (V:=λv l h st=>uD sz v (some l) (some h) st) rfl (λ_=>rfl) K
end
def ifW (p:Prop)(a b:Prop):Res (a,b):=(p->a)/\(¬ p->b)
theorem jc {p a b:Prop}(h1:p->a)(h2:¬ p->b):ifW p a b:=⟨h1,h2⟩
theorem gn {p a b:Prop}(h:p):ifW p a b=a:=propext ⟨λk=>k.1 h,λk=>⟨λ_=>k,λn=>absurd h n⟩⟩
theorem gq {p a b:Prop}(h:¬ p):ifW p a b=b:=propext ⟨λk=>k.2 h,λk=>⟨λn=>absurd n h,λ_=>k⟩⟩
section
variable {P:Program} {base:Bs} {st:St} {K Kp:AV->St->Prop} {e:En}
theorem jeJ (q:Bool)(a b:Prop):uk (.bool q) a b=ifW (q=true) a b:=by cases q<;>simp[uk,ifW]
theorem jrK (q:Bool)(a b:Prop):onG (.bool q) true a b=ifW (q=true) a b:=by cases q<;>simp[onG,ifW]
theorem jrL (q:Bool)(a b:Prop):onG (.bool q) false a b=ifW (q=true) b a:=by cases q<;>simp[onG,ifW]
theorem ji1 (q:Bool)(a b:AV):jp (jfw (.bool q) a b st) K=ifW (q=true) (K a st) (K b st):=by cases q<;>simp[jfw,Z1,jp,ifW]
theorem jbC (a b:List Nat):jp (kJ .neq (.str a) (.str b) st) K=K (.bool (decide (a≠b))) st:=by
 simp only[kJ,vT,jU,jp,J4];by_cases h:a=b
 ·simp[h]
 ·simp[h]
theorem jbD {a b:List Nat}(h:a.length+b.length<=9223372036854775807):jp (kJ .add (.str a) (.str b) st) K=K (.str (a ++ b)) st:=by
 have e1:Qct (Qcu (jP a) (jP b)) 9223372036854775807=true:=by rw[qt,jN,jN];exact h
 simp only[kJ,vT,jU,jp,e1,cond_true,yz]
theorem YE {x:Int}(h1 : -9223372036854775808<=x)(h2:x<=9223372036854775807):qN .i64 x=x:=by
 rw[JI];exact IntWalk.i64_in x ⟨h1,om⟩
theorem jg8 {a b:Int}(h1 : -9223372036854775808<=a+b)(h2:a+b<=9223372036854775807):jp (Js .add (.int .i64 a) (.int .i64 b) st) K=K (.int .i64 (a+b)) st:=by
 have:(Yf .add).run .i64 a b=some (.int .i64 (a+b)):=by show some (AV.int .i64 (qN .i64 (a+b)))=_;rw[YE h1 h2]
 simp only[Js,Xo,cond_true,this,jU,jp]
theorem jgM {a b:Int}(h1 : -9223372036854775808<=a - b)(h2:a - b<=9223372036854775807):jp (Js .sub (.int .i64 a) (.int .i64 b) st) K=K (.int .i64 (a - b)) st:=by
 have:(Yf .sub).run .i64 a b=some (.int .i64 (a - b)):=by show some (AV.int .i64 (qN .i64 (a - b)))=_;rw[YE h1 h2]
 simp only[Js,Xo,cond_true,this,jU,jp]
theorem jgV {a b:Int}(h1 : -9223372036854775808<=a * b)(h2:a * b<=9223372036854775807):jp (Js .mul (.int .i64 a) (.int .i64 b) st) K=K (.int .i64 (a * b)) st:=by
 have:(Yf .mul).run .i64 a b=some (.int .i64 (a * b)):=by show some (AV.int .i64 (qN .i64 (a * b)))=_;rw[YE h1 h2]
 simp only[Js,Xo,cond_true,this,jU,jp]
theorem jgU {a:Int}(h1 : -9223372036854775808<=-a)(h2 : -a<=9223372036854775807):jp (unV .neg (.int .i64 a) st) K=K (.int .i64 (-a)) st:=by
 have e:IntKind.i64.wrap (0 - a)=-a:=by rw[<-JI,YE om om];omega
 simp only[unV,Yh,O,e,jp]
def biV (P:Program)(b:Builtin)(ts:Array TypeId)(l:List AV)(st:St):ER:=(qF P b ts (l.map λv=>O v)).run E0 st
theorem jmV (b:Builtin)(ts:Array TypeId)(l:List A):wK P base (.i (.bi b ts l)) e st K=vu e l λvs=>jp (biV P b ts vs st) K:=by
 rw[uY];simp only[wK,wI,wb,jV,biV,Qbd];rfl
theorem jgY (ts:Array TypeId)(k:IntKind)(a b:Int):jp (biV P .max ts [.int k a,.int k b] st) K=K (.int k (max a b)) st:=by
 have:(qF P .max ts [O (.int k a),O (.int k b)]).run E0 st=jU (max2 (.int k a) (.int k b)) λv=>.ok v st:=by
  show jU (Q9 max2 (.int k a) [.int k b]) _=_;unfold Q9;cases max2 (.int k a) (.int k b)<;>rfl
 show jp ((qF P .max ts [O (.int k a),O (.int k b)]).run E0 st) K=_;rw[this];simp only[max2,Xo,cond_true,jU,jp]
 congr 2
 rw[Yc];by_cases h:a<b
 ·rw[decide_eq_true h,Int.max_eq_right om];rfl
 ·rw[decide_eq_false h,Int.max_eq_left om];rfl
theorem jgX (ts:Array TypeId)(k:IntKind)(a b:Int):jp (biV P .min ts [.int k a,.int k b] st) K=K (.int k (min a b)) st:=by
 have:(qF P .min ts [O (.int k a),O (.int k b)]).run E0 st=jU (min2 (.int k a) (.int k b)) λv=>.ok v st:=by
  show jU (Q9 min2 (.int k a) [.int k b]) _=_;unfold Q9;cases min2 (.int k a) (.int k b)<;>rfl
 show jp ((qF P .min ts [O (.int k a),O (.int k b)]).run E0 st) K=_;rw[this];simp only[min2,Xo,cond_true,jU,jp]
 congr 2
 rw[Yc];by_cases h:b<a
 ·rw[decide_eq_true h,Int.min_eq_right om];rfl
 ·rw[decide_eq_false h,Int.min_eq_left om];rfl
theorem jg0 (n:Nat)(cs:List AV):jp (lenV (.lst n cs) st) K=K (.int .i64 (n:Int)) st:=nr rfl
theorem jd7 {k:IntKind}{i:Int}(h:0<=i)(F:Nat->ER):qD (.int k i) F=F i.toNat:=by
 obtain⟨n,rfl⟩:=Qbx h;exact Gq
theorem jg2 {n:Nat}{cs:List AV}{i:Int}(h0:0<=i)(h:i<n)(s:Nat)(k:IntKind):jp (UZ s (.lst n cs) (.int k i) st) K=K (.lptr cs (i.toNat * s)) st:=by
 simp only[UZ,jd7 h0];have:Qct (Qcs i.toNat) n=true:=by rw[qt];omega
 rw[this];rfl
theorem jg1 {b o n c z:Nat}{x:Bool}{i:Int}(h0:0<=i)(h:i<n)(s:Nat)(k:IntKind):jp (UZ s (.slice b o n c z x) (.int k i) st) K=K (.ptr b (o+i.toNat * s)) st:=by
 obtain⟨m,rfl⟩:=Qbx h0;exact jp6 om s k
theorem jl8 {s:List Nat}{i:Int}(h0:0<=i)(h:i<s.length)(k:IntKind):jp (gk (.str s) (.int k i) st) K=K (.int .u8 ((s.getD i.toNat 0:Nat):Int)) st:=by
 obtain⟨m,rfl⟩:=Qbx h0;exact jnv om k
theorem jp5 {k o:Nat}{cs:List AV}(h:o+k<=cs.length):jp (zr k (.lptr cs o) st) K=K (.agg ((cs.drop o).take k)) st:=by
 have:Qct (Qcu o k) (jP cs)=true:=by rw[qt,jN];exact h
 simp only[zr,this,cond_true,jp,qY,zc]
theorem Jd {o:Nat}{cs:List AV}(h:o<cs.length):jp (q9 (.lptr cs o) st) K=K (cs.getD o .bad) st:=by
 have:Qct (Qcs o) (jP cs)=true:=by rw[qt,jN];exact h
 simp only[q9,this,cond_true,jp,zT]
theorem jg4 (off o:Nat)(cs:List AV):jp (jfW off (.lptr cs o) st) K=K (.lptr cs (o+off)) st:=nr rfl
theorem jdH (o:Nat)(cs:List AV):jp (jfB (.lptr cs o) st) K=K (.lptr cs o) st:=nr rfl
def fl {α:Type}(enc:α->List AV)(xs:List α):List AV:=xs.flatMap enc
theorem XT {α:Type}(enc:α->List AV)(x:α)(xs:List α):fl enc (x :: xs)=enc x ++ fl enc xs:=rfl
theorem QX {α:Type}(enc:α->List AV)(xs ys:List α):fl enc (xs ++ ys)=fl enc xs ++ fl enc ys:=by simp[fl]
theorem JZ {α:Type}(enc:α->List AV)(x:α):fl enc [x]=enc x:=by simp[fl]
theorem Jh {α:Type}{enc:α->List AV}{z:Nat}(hz:∀ x,(enc x).length=z):∀ xs:List α,(fl enc xs).length=xs.length * z
 |[]=>by simp[fl]
 |x :: xs=>by rw[XT,ψ,hz,Jh hz xs,υ,QaT,Qbw]
theorem yZ {α:Type}{enc:α->List AV}(hp:∀ x,(enc x).all pc=true):∀ xs:List α,(fl enc xs).all pc=true
 |[]=>rfl
 |x :: xs=>by rw[XT,QaX,hp,yZ hp xs];rfl
theorem GC {α:Type}{enc:α->List AV}{z:Nat}(hz:∀ x,(enc x).length=z):∀ (xs:List α) (i:Nat),(fl enc xs).drop (i * z)=fl enc (xs.drop i)
 |xs,0=>by simp
 |[],i+1=>by simp[fl]
 |x :: xs,i+1=>by
  rw[XT,QaT,Qbw,List.drop_append,List.drop_eq_nil_of_le (by rw[hz];omega),hz,Nat.add_sub_cancel_left,GC hz xs i];rfl
theorem jer {α:Type}{enc:α->List AV}{z:Nat}(hz:∀ x,(enc x).length=z):∀ (xs:List α) (i:Nat),(fl enc xs).take (i * z)=fl enc (xs.take i)
 |xs,0=>by simp[fl]
 |[],i+1=>by simp[fl]
 |x :: xs,i+1=>by
  rw[XT,QaT,Qbw,List.take_append,Qcl (by rw[hz];omega),hz,Nat.add_sub_cancel_left,jer hz xs i];rfl
theorem jfS {α:Type}{enc:α->List AV}{z:Nat}(hz:∀ x,(enc x).length=z){xs:List α}{i:Nat}(h:i<xs.length):((fl enc xs).drop (i * z)).take z=enc xs[i]:=by
 rw[GC hz,Qck h,XT,List.take_append,Qcl (by rw[hz];omega),hz,Nat.sub_self,QaG,QaW]
theorem vH {α:Type}{enc:α->List AV}{z:Nat}(hz:∀ x,(enc x).length=z){xs:List α}{i:Nat}(h:i<xs.length){k:Nat}(hk:k<z):(fl enc xs).getD (i * z+k) .bad=(enc xs[i]).getD k .bad:=by
 rw[<-jfS hz h];simp only[Qad,QbC,hk,if_true,QbO]
theorem J9 {α:Type}{enc:α->List AV}{z:Nat}(hz:∀ x,(enc x).length=z){xs:List α}{i:Nat}(h:i<xs.length):jp (zr z (.lptr (fl enc xs) (i * z)) st) K=K (.agg (enc xs[i])) st:=by
 have:(i+1) * z<=xs.length * z:=Qaz z h;rw[QaT] at this;rw[jp5 (by rw[Jh hz];omega),jfS hz h]
theorem ye {α:Type}{enc:α->List AV}{z:Nat}(hz:∀ x,(enc x).length=z){xs:List α}{i:Nat}(h:i<xs.length){k:Nat}(hk:k<z):jp (q9 (.lptr (fl enc xs) (i * z+k)) st) K=K ((enc xs[i]).getD k .bad) st:=by
 have:(i+1) * z<=xs.length * z:=Qaz z h;rw[QaT] at this;rw[Jd (by rw[Jh hz];omega),vH hz h hk]
theorem jg3 {k:Nat}{cs:List AV}(h:k<cs.length):jp (jfR k (.agg cs) st) K=K (cs.getD k .bad) st:=by
 have:Qct (Qcs k) (jP cs)=true:=by rw[qt,jN];exact h
 simp only[jfR,QL,this,cond_true,jp,zT]
theorem jdK (k n:Nat)(cs:List AV):jp (jfQ k n (.agg cs) st) K=K (.agg ((cs.drop k).take n)) st:=by
 simp only[jfQ,QL,jp,qY,zc]
theorem Gd (l:List AV):l.take 0=[]:=rfl
theorem Gc (a:AV)(l:List AV)(n:Nat):(a :: l).take (n+1)=a :: l.take n:=rfl
theorem GO (l:List AV):l.drop 0=l:=rfl
theorem jrp (a:AV)(l:List AV)(n:Nat):(a :: l).drop (n+1)=l.drop n:=rfl
theorem Cl.rw_ {b:Nat}{cs:List AV}(C:Cl st b cs):Rw st.h b cs:=by
 obtain⟨n,zl,z,c,hg⟩:=C.row;have hl:=C.len;rw[zb hg] at hl;refine⟨n,zl,z,c,hg,?_⟩;rw[qu];apply Qbi
 ·simp[hl]
 ·intro i h1 h2;have:=C.cell i h2;rw[Qm hg] at this;simp only[List.getElem_map,List.getElem_range,Qak,this];simp[Qad,Qai h2]
end
section
variable {P:Program} {base:Bs}
theorem Gs (cs:List AV):ZC cs=nw st0 cs:=by unfold ZC nw;rw[jN];rfl
def G0 (u v:AV)(s:St):Prop:=FzD 0 9 s v u
def G1 (n:Nat)(c':List AV)(u v:AV)(s:St):Prop:=FzD 1 9 s v u/\∃ c2,Rw s.h 0 c2/\c2.length=n/\FzsD 1 9 s c2 c'
theorem jE {f:FuncId}{F:XF}(hl:jx P f=some F)(hnd:F.body.nd=true)(hm:base.pur f=1){aZ:List AV}{o:Oc}
  (h:xC P base F.body (jt F.ps aZ) st0 (Xp P F.res (XU G0 o)) λv _ s=>XJ G0 o v s.bare):PX P base f aZ o:=
 PX.of hm (YF hl hnd h)
theorem qc {f:FuncId}{F:XF}(hl:jx P f=some F)(hnd:F.body.nd=true)(hm:base.pur f=3){c aZ:List AV}(hc:c.all pc=true){o:Oc}{c':List AV}
  (h:xC P base F.body (jt F.ps (.ptr 0 0 :: aZ)) (nw st0 c) (Xp P F.res (XU (G1 c.length c') o)) λv _ s=>XJ (G1 c.length c') o v s.bare):PM P base f c aZ o c':=by
 rw[<-Gs] at h;exact PM.of hm hc (YF hl hnd h)
theorem PM.xbk {f:FuncId}{c aZ aZ':List AV}{ks:List Nat}{o:Oc}{c':List AV}(h:PM P base f c aZ o c'){st:St}{p:Nat}(C:Cl (kills ks st) p c)(hf:fzs (fz 9 st.h) aZ'=some (aZ,ks))(hp:aZ.all pa=true)(hb:∀ st,base.run f (.ptr p 0 :: aZ') st=.no)(K Kp:AV->St->Prop) :
  XB P base f (.ptr p 0 :: aZ') st K Kp=YC o K Kp (wr (kills ks st) p 0 c'):=by
 obtain⟨N,D,h⟩:=h;have e0:∀ n,N<=n->∀ d,D<=d->evC P base n d f (.ptr p 0 :: aZ') st=o.er (wr (kills ks st) p 0 c'):=λn hn d hd=>by
  rw[h n hn d hd st p aZ' ks C.rw_ hf hp hb]
  congr 1
 refine propext ⟨λ⟨r,⟨N2,D2,h2⟩,h3⟩=>?_,λh3=>⟨_,⟨N,D,e0⟩,?_⟩⟩
 ·have e1:=e0 (max N N2) (Qar ..) (max D D2) (Qar ..);have e2:=h2 (max N N2) (Qas ..) (max D D2) (Qas ..);rw[e1] at e2;rw[<-e2] at h3;cases o<;>exact h3
 ·cases o<;>exact h3
theorem PM.xb {f:FuncId}{c aZ:List AV}{o:Oc}{c':List AV}(h:PM P base f c aZ o c'){st:St}{p:Nat}(C:Cl st p c)(hp:aZ.all pa=true)(hb:∀ st,base.run f (.ptr p 0 :: aZ) st=.no)(K Kp:AV->St->Prop) :
 XB P base f (.ptr p 0 :: aZ) st K Kp=YC o K Kp (wr st p 0 c'):=h.xbk (ks:=[]) C (gv (d:=7) hp) hp hb K Kp
theorem Jl (v:AV)(K Kp:AV->St->Prop)(st:St):YC (.ok v) K Kp st=K v st:=nr rfl
theorem jfz (v:AV)(K Kp:AV->St->Prop)(st:St):YC (.pn v) K Kp st=Kp v st:=nr rfl
theorem jiP (G:AV->AV->St->Prop)(u v:AV)(s:St):XU G (.ok u) v s=G u v s:=nr rfl
theorem jhP (G:AV->AV->St->Prop)(u v:AV)(s:St):XJ G (.pn u) v s=G u v s:=nr rfl
def jfo (b b2:Nat)(J:Sl->St->Prop)(Q:Out->Prop):Out->Res (J,Q)
 |.go L s=>J L s
 |.ex i L s=>cond (Qcr i b2) (J L s) (cond (Qcr i b) (Q (.go L s)) (Q (.ex i L s)))
 |.rt L s=>Q (.rt L s)
theorem jqE (b b2:Nat)(J:Sl->St->Prop)(Q:Out->Prop)(L:Sl)(s:St):jfo b b2 J Q (.go L s)=J L s:=nr rfl
theorem jqD (b b2:Nat)(J:Sl->St->Prop)(Q:Out->Prop)(L:Sl)(s:St):jfo b b2 J Q (.rt L s)=Q (.rt L s):=nr rfl
theorem jkU (b b2:Nat)(J:Sl->St->Prop)(Q:Out->Prop)(i:Nat)(L:Sl)(s:St):jfo b b2 J Q (.ex i L s)=cond (Qcr i b2) (J L s) (cond (Qcr i b) (Q (.go L s)) (Q (.ex i L s))):=nr rfl
theorem jZ {b b2 i n c d:Nat}{body:XC}{L:Sl}{st:St}{Q:Out->Prop}{Kp:AV->Sl->St->Prop}(N:Nat)(I:Nat->Sl->St->Prop)(hN:N<=4611686018427387904)(hne:c≠i/\c≠n/\i≠n/\d≠i/\b≠b2)
  (hi:Has L i (.int .i64 0)) (hn:Has L n (.int .i64 (N:Int))) (h0:I 0 L st) (hc:∀ k L s v,I k L s->I k ((c,v) :: L) s) (hI:∀ k L s v,I k L s->I k ((i,v) :: L) s)
  (step:∀ k L s,k<N->I k L s->Has L i (.int .i64 (k:Int))->Has L n (.int .i64 (N:Int))->GW (xC P base body L s (jfo b b2 (λL' s'=>I (k+1) L' s'/\Has L' i (.int .i64 (k:Int))/\Has L' n (.int .i64 (N:Int))) Q) Kp))
  (fin:∀ L s,I N L s->GW (Q (.go L s))) :
  xC P base (.loop (.seq (.ops [⟨some c,true,none,.i (.bin .lss (.t i) (.t n))⟩]) (.seq (.cond (.t c) .skip (.exit b)) (.seq (.block b2 body) (.ops [⟨some d,false,none,.i (.bin .add (.t i) (.c (.int .i64 1)))⟩,⟨some i,true,none,.i (.mv (.t d))⟩]))))) L st (yF b Q) Kp:=by
 obtain⟨n1,n2,n3,n4,n5⟩:=hne;refine zu (λm L s=>∃ k,k<=N/\m=N - k/\I k L s/\Has L i (.int .i64 (k:Int))/\Has L n (.int .i64 (N:Int))) ?_ N ⟨0,Qae _,rfl,h0,hi,hn⟩;rintro m L s ⟨k,hk,rfl,hk',h1,h2⟩;unfold GW;simp only[jag,jah,Us,x_i,jaW,ja h1,ja h2,jfe,jai,UH,wY,jbw,jfs];by_cases hlt:k<N
 ·rw[decide_eq_true om,jnS,jbr,wY,jag,Ut];refine jdE _ _ _ _ _ (step k ((c,.bool true) :: L) s hlt (hc k L s _ hk') (by rw[jb n1];exact h1) (by rw[jb n2];exact h2)) λo ho=>?_;have go:∀ L' s',(I (k+1) L' s'/\Has L' i (.int .i64 (k:Int))/\Has L' n (.int .i64 (N:Int)))->xO P base [⟨some d,false,none,.i (.bin .add (.t i) (.c (.int .i64 1)))⟩,⟨some i,true,none,.i (.mv (.t d))⟩] ⟨[],L'⟩ s' (λe st'=>XZ (λL' st'=>∃ k',k'<N - k/\∃ k,k<=N/\k'=N - k/\I k L' st'/\Has L' i (.int .i64 (k:Int))/\Has L' n (.int .i64 (N:Int))) (yF b Q) (.go e.g st')) Kp:=by
   intro L' s' ⟨h3,h4,h5⟩;simp only[Us,x_i,jaW,ja h4,jft,jp7 (show k+1<=9223372036854775807 by omega),Gk,jli,jfr,jai,UH,wY];refine⟨N - (k+1),om,k+1,om,rfl,hI _ _ _ _ h3,Has.here _ _ _,by rw[jb n3];exact h5⟩
  cases o with
  |go L' s'=>exact go L' s' ho
  |rt L' s'=>exact ho
  |ex q L' s'=>
   rw[jkU] at ho;cases hq:Qcr q b2
   ·rw[hq] at ho;have e1:yF b2 (XZ (λL' st'=>xC P base (.ops [⟨some d,false,none,.i (.bin .add (.t i) (.c (.int .i64 1)))⟩,⟨some i,true,none,.i (.mv (.t d))⟩]) L' st' (XZ (λL' st'=>∃ k',k'<N - k/\∃ k,k<=N/\k'=N - k/\I k L' st'/\Has L' i (.int .i64 (k:Int))/\Has L' n (.int .i64 (N:Int))) (yF b Q)) Kp) (XZ (λL' st'=>∃ k',k'<N - k/\∃ k,k<=N/\k'=N - k/\I k L' st'/\Has L' i (.int .i64 (k:Int))/\Has L' n (.int .i64 (N:Int))) (yF b Q))) (.ex q L' s')=yF b Q (.ex q L' s'):=by
     simp only[yF,hq,cond_false,XZ]
    show yF b2 _ _;rw[e1];exact ho
   ·rw[hq] at ho;have:=go L' s' ho;show yF b2 _ _;simp only[yF,hq,cond_true,wY,jah];exact this
 ·have hkN:k=N:=om
  rw[decide_eq_false om,jnT,jbt,UG,UG];subst hkN;show yF b Q (.ex b _ s);rw[Vw];exact fin _ _ (hc _ _ _ _ hk')
theorem ur (n:Nat)(cs:List AV):(AV.lst n cs).cells=[.lst n cs]:=nr rfl
theorem jco (n:Nat)(cs l:List AV):lall AV.cell (.lst n cs :: l)=lall AV.cell l:=nr rfl
theorem Hi (n:Nat)(cs:List AV):(AV.lst n cs).plain=true:=nr rfl
theorem ym:st0.nx=0:=nr rfl
theorem jhu (P:Program)(t:TypeId)(cs:List AV)(o:Nat)(v:AV)(h:T AO):(j9 P t (.lptr cs o) v h=true)=True:=by simp[j9]
theorem G0.v {u v:AV}{s:St}(h:v=u)(hp:pa v=true):G0 u v s:=by subst h;exact FzD.pa hp
theorem jek (p:Prop):GW p=p:=nr rfl
theorem jhJ:zN []=.tup []:=nr rfl
theorem hZ:∀ {c c':List AV},c'.length=c.length->upd c 0 c'=c'
 |[],[],_=>rfl
 |[],_ :: _,h=>by simp at h
 |_ :: _,[],h=>by simp at h
 |_ :: c,v :: c',h=>by rw[YY,hZ (by simpa using h)]
theorem Zt {c c':List AV}(h:c'.length=c.length):upd c 0 c'=c':=hZ h
theorem Cl.wr0 {s:St}{b:Nat}{c c':List AV}(C:Cl s b c)(h:c'.length=c.length):Cl (Go.Sy.wr s b 0 c') b c':=by
 have:=C.wr 0 c';rwa [hZ h] at this
theorem G1.done {s:St}{n:Nat}{c':List AV}{u v:AV}(C:Cl s 0 c')(hl:c'.length=n)(hp:c'.all pc=true)(hv:FzD 1 9 s v u):G1 n c' u v s:=
 ⟨hv,c',C.rw_,hl,FzsD.pc hp⟩
theorem FzD.u {m d:Nat}{s:St}:FzD m (d+1) s (.tup []) (.tup []):=FzD.tup FzsD.nil
abbrev Met (P:Program)(base:Bs)(f:FuncId)(c xs:List AV)(o:Oc)(c':List AV):Prop:=∀ {st:St} {p:Nat},Cl st p c->∀ K Kp,XB P base f (.ptr p 0 :: xs) st K Kp=YC o K Kp (wr st p 0 c')
theorem PM.met {f:FuncId}{c xs:List AV}{o:Oc}{c':List AV}(h:PM P base f c xs o c')(hp:xs.all pa=true)(hb:∀ p st,base.run f (.ptr p 0 :: xs) st=.no):Met P base f c xs o c':=λC K Kp=>h.xb C hp (hb _) K Kp
theorem Ur {f:FuncId}{xs:List AV}{st:St}{v:AV}{st':St}(h:base.run f xs st=.ok v st')(K Kp:AV->St->Prop):XB P base f xs st K Kp=K v (back st st'):=by
 have e0:∀ n,0<=n->∀ d,1<=d->evC P base n d f xs st=.ok v st':=λn _ d hd=>by
  obtain⟨d',rfl⟩:∃ d',d=d'+1:=⟨d - 1,om⟩;simp only[evC,h]
 refine propext ⟨λ⟨r,⟨N2,D2,h2⟩,h3⟩=>?_,λh3=>⟨_,⟨0,1,e0⟩,h3⟩⟩;have e1:=e0 N2 (Qae _) (max 1 D2) (Qar ..);have e2:=h2 N2 (τ _) (max 1 D2) (Qas ..);rw[e1] at e2;rw[<-e2] at h3;exact h3
def cvV (P:Program)(s d:TypeId)(v:AV)(st:St):ER:=(J6 P s d (O v)).run E0 st
theorem jip {e:En}{st:St}{K:AV->St->Prop}(s d:TypeId)(x:A):wK P base (.i (.conv s d x)) e st K=on1 e x λv=>jp (cvV P s d v st) K:=k_1 rfl (λ_=>rfl) K
theorem jou {st:St}{K:AV->St->Prop}{s d e:TypeId}(h1:P.underlying s=some .string)(h2:P.underlying d=some (.slice e))(h3:P.underlying e=some (.int .u8))(l:List Nat) :
  jp (cvV P s d (.str l) st) K=K (.slice st.nx 0 l.length l.length 1 false) (nw st (l.map λ(c:Nat)=>.int .u8 (c:Int))):=by
 simp only[cvV,J6,h1,h2,h3,O,Jb,jN,jG,St.alloc_eq,jp];unfold nw;rw[Qap,yQ];rfl
theorem jhB {st:St}(x k:Nat)(l:List RV)(L:Sl)(F:List AV->Prop):yA P (.cA x k :: l) L st F=on1 ⟨[],L⟩ (.t x) λv=>jp (zr k v st) λu _=>yA P l L st λvs=>F (u :: vs):=by
 simp only[yA,jbT,on1,okA,vl,En.has,En.look,has,cond_false];rfl
theorem jd0 {st:St}(x:Nat)(l:List RV)(L:Sl)(F:List AV->Prop):yA P (.c1 x :: l) L st F=on1 ⟨[],L⟩ (.t x) λv=>jp (q9 v st) λu _=>yA P l L st λvs=>F (u :: vs):=by
 simp only[yA,jbT,on1,okA,vl,En.has,En.look,has,cond_false];rfl
def jau (n sz:Nat)(v:AV)(st:St):ER:=yf v λb o=>optA none 0 λl=>optA none n λh=>
 cond (Qct l h) (cond (Qct h n)
  (force (Qcw h l) λk=>force (Qcu o (Qcv l sz)) λo=>force (Qcw n l) λc=>.ok (.slice b o k c sz true) st) .no) .no
theorem jif {e:En}{st:St}{K:AV->St->Prop}(n sz:Nat)(x:A):wK P base (.i (.slA n sz x none none)) e st K=on1 e x λv=>jp (jau n sz v st) K:=k_1 (V:=λv st=>jau n sz v st) rfl (λ_=>rfl) K
theorem jgS {st:St}{K:AV->St->Prop}(b n sz:Nat):jp (jau n sz (.ptr b 0) st) K=K (.slice b 0 n n sz true) st:=by
 have e1:Qct 0 n=true:=qG (Qae _);have e2:Qct n n=true:=qG (τ _);have e3:Qcu 0 (Qcv 0 sz)=0:=by show 0+0 * sz=0;omega
 have e4:Qcw n 0=n:=rfl;simp only[jau,yf,optA,e1,e2,e3,e4,cond_true,jG,jp]
theorem jdJ {st:St}{K:AV->St->Prop}{b n s:Nat}{i:Int}(h0:0<=i)(h:i<n)(k:IntKind):jp (jfL n s (.ptr b 0) (.int k i) st) K=K (.ptr b (i.toNat * s)) st:=by
 have e1:Qct (Qcs i.toNat) n=true:=qG om;have e2:Qcu 0 (Qcv i.toNat s)=i.toNat * s:=Qak _;simp only[jfL,yf,jd7 h0,e1,e2,cond_true,jG,jp]
theorem jgR {st:St}{K:AV->St->Prop}{l:List Nat}{i:Int}(h0:0<=i)(h:i<=l.length)(k:IntKind):jp (JJ (.str l) (some (.int k i)) none st) K=K (.str (l.drop i.toNat)) st:=by
 obtain⟨m,rfl⟩:=Qbx h0;exact jse om k
theorem jgQ {st:St}{K:AV->St->Prop}{l:List Nat}{i:Int}(h0:0<=i)(h:i<=l.length)(k:IntKind):jp (JJ (.str l) none (some (.int k i)) st) K=K (.str (l.take i.toNat)) st:=by
 obtain⟨m,rfl⟩:=Qbx h0;exact jsd om k
theorem jgP {st:St}{K:AV->St->Prop}{l:List Nat}{i j:Int}(h0:0<=i)(h1:i<=j)(h:j<=l.length)(k k':IntKind):jp (JJ (.str l) (some (.int k i)) (some (.int k' j)) st) K=K (.str ((l.drop i.toNat).take (j - i).toNat)) st:=by
 obtain⟨m,rfl⟩:=Qbx h0;obtain⟨n,rfl⟩:=Qbx (show 0<=j by omega);rw[jsc om om]
 congr 3
 omega
theorem je8 {f:FuncId}{xs:List AV}{st s:St}{v:AV}(h:∀ K Kp,K v s->XB P base f xs st K Kp)(K Kp:AV->St->Prop):XB P base f xs st K Kp=K v s:=by
 refine propext ⟨λ⟨r2,⟨N2,D2,h2⟩,h3⟩=>?_,h K Kp⟩;obtain⟨r,⟨N,D,h1⟩,h4⟩:=h (λv' s'=>v'=v/\s'=s) (λ_ _=>False) ⟨rfl,rfl⟩;have e1:=h1 (max N N2) (Qar ..) (max D D2) (Qar ..);have e2:=h2 (max N N2) (Qas ..) (max D D2) (Qas ..);rw[e1] at e2;subst e2;cases r with
 |no=>exact h4.elim
 |pn v s=>exact h4.elim
 |ok v' s'=>
  obtain⟨rfl,rfl⟩:=h4;exact h3
theorem jeK (st:St):bk st st.bare=st:=nr rfl
theorem jc8 (st:St):back st st.bare=st:=nr rfl
def fi {α:Type}(q:α->Bool):List α->Int
 |[]=>-1
 |x :: xs=>if q x=true then 0 else if fi q xs<0 then -1 else fi q xs+1
theorem ui {α:Type}{q:α->Bool}:∀ {xs:List α} {k:Nat} (h:k<xs.length),(∀ j (hj:j<k),q (xs[j]'(om))=false)->q xs[k]=true->fi q xs=k
 |x :: xs,0,h,h0,hk=>by simp only[Qby] at hk;simp[fi,hk]
 |x :: xs,k+1,h,h0,hk=>by
  have:=ui (xs:=xs) (k:=k) (by simpa using h) (λj hj=>by have:=h0 (j+1) om;simpa only[QbL] using this) (by simpa only[QbL] using hk);have h1:=h0 0 om;simp only[Qby] at h1;simp only[fi,h1,this];simp;omega
theorem uh {α:Type}{q:α->Bool}:∀ {xs:List α},(∀ j (hj:j<xs.length),q xs[j]=false)->fi q xs=-1
 |[],_=>rfl
 |x :: xs,h=>by
  have h1:=h 0 (by simp);simp only[Qby] at h1;have:=uh (xs:=xs) λj hj=>by have:=h (j+1) (by simpa using hj);simpa only[QbL] using this
  simp[fi,h1,this]
theorem Cl.cv {s:St}{b:Nat}{c c':List AV}(h:Cl s b c)(e:c=c'):Cl s b c':=e▸h
theorem jB {s:St}{b c o:Nat}{vs cs:List AV}(h:c≠b):Cl (wr s b o vs) c cs=Cl s c cs:=
 propext ⟨λC=>⟨C.lt,Jx (Jo h).symm C.row,(yO (Jo h).symm).trans C.len,λi hi=>(yD (Jo h).symm i).trans (C.cell i hi)⟩,λC=>C.wrO h o vs⟩
theorem jD {s:St}{c:Nat}{ds cs:List AV}(h:c<s.nx):Cl (nw s ds) c cs=Cl s c cs:=
 propext ⟨λC=>⟨h,Jx (JF (Qbk h)).symm C.row,(yO (JF (Qbk h)).symm).trans C.len,λi hi=>(yD (JF (Qbk h)).symm i).trans (C.cell i hi)⟩,λC=>C.nw ds⟩
theorem jz {s:St}{c:Nat}{cs:List AV}:Cl s.bare c cs=Cl s c cs:=propext ⟨λh=>⟨h.lt,h.row,h.len,h.cell⟩,λh=>⟨h.lt,h.row,h.len,h.cell⟩⟩
end
def Lv (lo hi:Nat)(s:St)(v:AV)(n:Nat)(cs:List AV)(z:Nat):Prop:=(v=.nils/\n=0/\cs=[])\/∃ b,v=.slice b 0 n n z false/\0<n/\cs.length=n * z/\Cl s b cs/\lo<=b/\b<hi
def aps (v:AV)(s:St)(news:List AV):St:=match v with | .slice b _ _ _ _ _=>ap s b news|_=>nw s news
def apv (z:Nat)(v:AV)(s:St):AV:=match v with | .slice _ _ n _ _ _=>.slice s.nx 0 (n+1) (n+1) z false|_=>.slice s.nx 0 1 1 z false
section
variable {lo hi n z:Nat} {s:St} {v:AV} {cs:List AV}
theorem Lv.nil:Lv lo hi s .nils 0 [] z:=.inl ⟨rfl,rfl,rfl⟩
theorem jA {b o:Nat}{vs:List AV}(h:b<lo\/hi<=b):Lv lo hi (wr s b o vs) v n cs z=Lv lo hi s v n cs z:=by
 unfold Lv;refine propext ⟨λk=>k.imp id λ⟨c,h1,h2,h3,h4,h5,h6⟩=>⟨c,h1,h2,h3,?_,h5,h6⟩,λk=>k.imp id λ⟨c,h1,h2,h3,h4,h5,h6⟩=>⟨c,h1,h2,h3,?_,h5,h6⟩⟩
 ·rwa [jB om] at h4
 ·rwa [jB om]
theorem jF {ds:List AV}(h:hi<=s.nx):Lv lo hi (nw s ds) v n cs z=Lv lo hi s v n cs z:=by
 unfold Lv;refine propext ⟨λk=>k.imp id λ⟨c,h1,h2,h3,h4,h5,h6⟩=>⟨c,h1,h2,h3,?_,h5,h6⟩,λk=>k.imp id λ⟨c,h1,h2,h3,h4,h5,h6⟩=>⟨c,h1,h2,h3,?_,h5,h6⟩⟩
 ·rwa [jD om] at h4
 ·rwa [jD om]
theorem jH:Lv lo hi s.bare v n cs z=Lv lo hi s v n cs z:=by unfold Lv;simp only[jz]
theorem Lv.up {hi':Nat}(h:Lv lo hi s v n cs z)(h2:hi<=hi'):Lv lo hi' s v n cs z:=h.imp id λ⟨c,h1,h2,h3,h4,h5,h6⟩=>⟨c,h1,h2,h3,h4,h5,om⟩
theorem jr (v:AV)(s:St)(news:List AV):(aps v s news).nx=s.nx+1:=by unfold aps;split<;>rfl
theorem Zc (v:AV)(s:St)(news:List AV):(aps v s news).fr=s.fr:=by unfold aps;split<;>rfl
theorem Lv.app {news:List AV}(h:Lv lo hi s v n cs z)(hl:news.length=z)(h1:lo<=s.nx):Lv lo (s.nx+1) (aps v s news) (apv z v s) (n+1) (cs ++ news) z:=by
 rcases h with ⟨rfl,rfl,rfl⟩|⟨b,rfl,h2,h3,h4,h5,h6⟩
 ·exact .inr ⟨s.nx,rfl,om,by simp[hl],Cl.new s news,h1,om⟩
 ·exact .inr ⟨s.nx,rfl,om,by rw[ψ,h3,hl,QaT],h4.ap news,h1,om⟩
theorem Cl.apO {s:St}{b c:Nat}{cs vs:List AV}(h:Cl s c cs)(hb:c≠b):Cl (Go.Sy.ap s b vs) c cs:=
 have e:jy (Go.Sy.ap s b vs).h c=jy s.h c:=jen (Qbk h.lt) hb
 ⟨Nat.lt_succ_of_lt h.lt,Jx e h.row,(yO e).trans h.len,λi hi=>(yD e i).trans (h.cell i hi)⟩
theorem Cl.aps {c:Nat}{ds news:List AV}(C:Cl s c ds)(h:Lv lo hi s v n cs z)(hc:c<lo\/hi<=c):Cl (Go.Sy.aps v s news) c ds:=by
 rcases h with ⟨rfl,rfl,rfl⟩|⟨b,rfl,h2,h3,h4,h5,h6⟩
 ·exact C.nw news
 ·exact C.apO (b:=b) om
theorem Lv.aps {lo' hi' n' z':Nat}{v':AV}{cs' news:List AV}(V:Lv lo' hi' s v' n' cs' z')(h:Lv lo hi s v n cs z)(hc:hi'<=lo\/hi<=lo'):Lv lo' hi' (Go.Sy.aps v s news) v' n' cs' z':=
 V.imp id λ⟨c,h1,h2,h3,h4,h5,h6⟩=>⟨c,h1,h2,h3,h4.aps h om,h5,h6⟩
theorem Lv.fz {m d:Nat}(h:Lv lo hi s v n cs z)(hm:m<=lo)(hp:cs.all pc=true):FzD m (d+2) s v (.lst n cs):=by
 rcases h with ⟨rfl,rfl,rfl⟩|⟨b,rfl,h2,h3,h4,h5,h6⟩
 ·exact FzD.nils
 ·refine FzD.slice h4.rw_ (QaU h3.symm) om ?_;rw[<-h3,Qaf];exact FzsD.pc hp
variable {K:AV->St->Prop}
theorem JS {bytes bv xc:Nat}{xx:Bool}(h:Lv lo hi s v n cs z)(hz:0<z)(hby:(n+1) * bytes<=140737488355328)(h63:n+1<=9223372036854775807)(hv:z<=qv s.h bv) :
  jp (J7 z bytes v (.slice bv 0 1 xc z xx) s) K=K (apv z v s) (aps v s (rats s.h bv 0 z)):=by
 obtain⟨m,zl,zz,ks,hg⟩:=QB (h:=s.h) (b:=bv) om;rw[zb hg] at hv;have e0:Qcv 1 z=z:=Qbv z;have e1:Qct (Qcu 0 z) m=true:=qG (by show 0+z<=m;omega);have er:jQ zl zz ks z 0=rats s.h bv 0 z:=by
  rw[QZ,qu];exact QaY λi _=>by rw[Qm hg]
 have el:(rats s.h bv 0 z).length=z:=J5 _ _ _ _;have e3:Qcr (jP (rats s.h bv 0 z)) z=true:=Zk (by rw[jN,el]);rcases h with ⟨rfl,rfl,rfl⟩|⟨b,rfl,h2,h3,h4,h5,h6⟩
 ·have e4:Qcr 1 0=false:=rfl;have e5:Qct (Qcv 1 bytes) 140737488355328=true:=qG (by show 1 * bytes<=_;omega);have e6:Qct 1 9223372036854775807=true:=qG dc;simp only[J7,Jk,firstCells,hg,yo,jG,e0,e1,cond_true,er,q7,e3,e4,cond_false,e5,e6,St.alloc_eq,jp];unfold apv Go.Sy.aps nw;rw[el]
 ·obtain⟨m',zl',zz',ks',hg'⟩:=h4.row;have h4l:=h4.len;rw[zb hg'] at h4l;have e4:Qct (Qcu n 1) n=false:=ja9 (Qbo _);have e5:Qct (Qcv (Qcu n 1) bytes) 140737488355328=true:=qG hby;have e6:Qct (Qcu n 1) 9223372036854775807=true:=qG h63;have e7:Qcr z z=true:=Zk rfl;have e8:Qcr 0 0=true:=rfl;have e9:Qcr (Qcv n z) m'=true:=Zk (by rw[h4l,h3];rfl);simp only[J7,Jk,firstCells,hg,yo,jG,e0,e1,cond_true,er,q7,e3,hg',e4,cond_false,e5,e6,e7,e8,e9,St.put_eq,St.alloc_eq,jp];have e10:Qcv (Qcu n 1) z=m'+(rats s.h bv 0 z).length:=by rw[el,h4l,h3];exact QaT n z
  rw[e10];have ea:ap s b (rats s.h bv 0 z)=⟨s.nx+1,(qf (jM s.nx)).run (.row (m'+(rats s.h bv 0 z).length) zl' zz' (qw (rats s.h bv 0 z) ks' m')) ((qf (jM b)).run .dead s.h),min s.dirty b,s.fr⟩:=by
   unfold ap apO;rw[hg']
  show _=K (.slice s.nx 0 (n+1) (n+1) z false) (ap s b (rats s.h bv 0 z));rw[ea]
theorem Lv.get (h:Lv lo hi s v n cs z)(st:St)(news:List AV)(c:Nat)(hc:c<lo\/hi<=c)(hn:c<st.nx):jy (Go.Sy.aps v st news).h c=jy st.h c:=by
 rcases h with ⟨rfl,rfl,rfl⟩|⟨b,rfl,h2,h3,h4,h5,h6⟩
 ·exact JF (Qbk hn)
 ·exact jen (Qbk hn) om
theorem Lv.at (h:Lv lo hi s v n cs z)(st:St)(news:List AV)(c i:Nat)(hc:c<lo\/hi<=c)(hn:c<st.nx):rat (Go.Sy.aps v st news).h c i=rat st.h c i:=yD (h.get st news c hc hn) i
theorem Lv.ln (h:Lv lo hi s v n cs z)(st:St)(news:List AV)(c:Nat)(hc:c<lo\/hi<=c)(hn:c<st.nx):qv (Go.Sy.aps v st news).h c=qv st.h c:=yO (h.get st news c hc hn)
theorem Lv.rts (h:Lv lo hi s v n cs z)(st:St)(news:List AV)(c o k:Nat)(hc:c<lo\/hi<=c)(hn:c<st.nx):rats (Go.Sy.aps v st news).h c o k=rats st.h c o k:=Z0 (h.get st news c hc hn) k o
theorem Lv.cl (h:Lv lo hi s v n cs z)(st:St)(news ds:List AV)(c:Nat)(hc:c<lo\/hi<=c)(hn:c<st.nx):Cl (Go.Sy.aps v st news) c ds=Cl st c ds:=
 propext ⟨λC=>have e:=h.get st news c hc hn;⟨hn,Jx e.symm C.row,(yO e.symm).trans C.len,λi hi=>(yD e.symm i).trans (C.cell i hi)⟩,λC=>have e:=h.get st news c hc hn;⟨by rw[jr];exact Nat.lt_succ_of_lt hn,Jx e C.row,(yO e).trans C.len,λi hi=>(yD e i).trans (C.cell i hi)⟩⟩
theorem Lv.put {news:List AV}(h:Lv lo hi s v n cs z)(hl:news.length=z)(h1:lo<=s.nx){m:Nat}(hm:m=s.nx+1):Lv lo m (Go.Sy.aps v s news) (apv z v s) (n+1) (cs ++ news) z:=by rw[hm];exact h.app hl h1
end
def kl (b:Nat)(s:St):St:=kills [b] s
section
variable {lo hi n z b c:Nat} {s:St} {v:AV} {cs:List AV}
theorem ju (b:Nat)(s:St):(kl b s).nx=s.nx:=nr rfl
theorem ja1 (b:Nat)(s:St):(kl b s).fr=s.fr:=nr rfl
theorem vF (h:c≠b):jy (kl b s).h c=jy s.h c:=by
 show jy ((qf (jM b)).run .dead s.h) c=_;rw[qb,if_neg h]
theorem jba {i:Nat}(h:c≠b):rat (kl b s).h c i=rat s.h c i:=yD (vF h) i
theorem u1 (h:c≠b):qv (kl b s).h c=qv s.h c:=yO (vF h)
theorem wX {o k:Nat}(h:c≠b):rats (kl b s).h c o k=rats s.h c o k:=Z0 (vF h) _ _
theorem jT (h:c≠b):Cl (kl b s) c cs=Cl s c cs:=
 propext ⟨λC=>have e:=vF (s:=s) h;⟨C.lt,Jx e.symm C.row,(yO e.symm).trans C.len,λi hi=>(yD e.symm i).trans (C.cell i hi)⟩,λC=>have e:=vF (s:=s) h;⟨C.lt,Jx e C.row,(yO e).trans C.len,λi hi=>(yD e i).trans (C.cell i hi)⟩⟩
theorem jJ (h:b<lo\/hi<=b):Lv lo hi (kl b s) v n cs z=Lv lo hi s v n cs z:=by
 unfold Lv;refine propext ⟨λk=>k.imp id λ⟨c,h1,h2,h3,h4,h5,h6⟩=>⟨c,h1,h2,h3,?_,h5,h6⟩,λk=>k.imp id λ⟨c,h1,h2,h3,h4,h5,h6⟩=>⟨c,h1,h2,h3,?_,h5,h6⟩⟩
 ·rwa [jT om] at h4
 ·rwa [jT om]
theorem Qf (h0:0<cs.length)(h1:b<s.nx)(h2:qv s.h b=cs.length)(h3:rats s.h b 0 cs.length=cs):Cl s b cs:=Cl.of_rats h1 h2 rfl h0 h3
def df (x:FuncId×List AV)(s:St):St:=⟨s.nx,s.h,s.dirty,x :: s.fr⟩
theorem v7 (x:FuncId×List AV)(s:St):(df x s).nx=s.nx:=nr rfl
theorem Gy (x:FuncId×List AV)(s:St):(df x s).h=s.h:=nr rfl
theorem ja2 (x:FuncId×List AV)(s:St):(df x s).fr=x :: s.fr:=nr rfl
theorem wn (f:FuncId)(caps vs:List AV){K:AV->St->Prop}:Uc (.fn f caps) vs s K=K qm (df (f,vs ++ caps) s):=nr rfl
theorem jiw:st0.fr=[]:=nr rfl
theorem jcz {m k:Nat}{x:Bool}{d:Nat}(C:Cl s b cs)(hl:n * z=cs.length)(hp:cs.all pc=true):fz (d+2) s.h (.slice b 0 n m z x)=some (.lst n cs,[b]):=by
 obtain⟨q,zl,zz,ct,h1,h2,h3⟩:=C.rw_.len;show(match jy s.h b with
  |some (.row n' zl z' cs)=>cond (Qct (Qcu 0 (Qcv n z)) n') ((fzs (fz (d+1) s.h) (jQ zl z' cs (Qcv n z) 0)).map λ(p:List AV×List Nat)=>(AV.lst n p.1,b :: p.2)) none
  |_=>none)=_
 rw[h1];dsimp only;have e1:Qct (Qcu 0 (Qcv n z)) q=true:=by rw[qt];show 0+n * z<=q;omega
 have e2:jQ zl zz ct (Qcv n z) 0=cs:=by
  rw[show Qcv n z=q by show n * z=q;omega];exact h2
 rw[e1,e2,VQ hp];rfl
def Fza (s:St)(aZ' aZ:List AV)(ks:List Nat):Prop:=fzs (fz 9 s.h) aZ'=some (aZ,ks)
theorem Fza.nil:Fza s [] [] []:=rfl
theorem Fza.pa {aZ' aZ:List AV}{ks:List Nat}(hv:pa v=true)(h:Fza s aZ' aZ ks):Fza s (v :: aZ') (v :: aZ) ks:=by
 unfold Fza at *;simp only[fzs];rw[jaZ (d:=7) hv,h];rfl
theorem Fza.sl {aZ' aZ:List AV}{ks:List Nat}{m:Nat}{x:Bool}(C:Cl s b cs)(hl:n * z=cs.length)(hp:cs.all pc=true)(h:Fza s aZ' aZ ks):Fza s (.slice b 0 n m z x :: aZ') (.lst n cs :: aZ) (b :: ks):=by
 unfold Fza at *;simp only[fzs];rw[jcz (d:=7) (k:=0) C hl hp,h];rfl
variable {P:Program} {base:Bs}
theorem WA {f:FuncId}{F:XF}(hl:jx P f=some F)(hm:base.pur f=1){aZ:List AV}{o:Oc}
 (h:xC P base F.body (jt F.ps aZ) st0 (GM P base F.res (XU G0 o) (XJ G0 o)) (Vy P base F.res (XU G0 o) (XJ G0 o))):PX P base f aZ o:=PX.of hm (jlC hl h)
theorem PX.xf {f:FuncId}{aZ aZ':List AV}{ks:List Nat}{o:Oc}(h:PX P base f aZ o){st:St}(hf:Fza st aZ' aZ ks)(hb:∀ st,base.run f aZ' st=.no)(K Kp:AV->St->Prop):XB P base f aZ' st K Kp=YC o K Kp (kills ks st):=h.cxk hf hb K Kp
end
end Go.Sy
end
noncomputable section
namespace Go.Sy
open Go.Ev
theorem Cl.q {s:St}{b:Nat}{cs:List AV}(h:Cl s b cs):type_of% (aI h.len (aI h.cell h.ratsP)):=aI h.len (aI h.cell h.ratsP)
theorem Cl.r {s:St}{b:Nat}{cs:List AV}(h:Cl s b cs):type_of% (aI h.len h.ratsP):=aI h.len h.ratsP
theorem rzA:type_of% (aI (@jek) (aI (@jbr) (aI (@jah) (aI (@jgE) (aI (@jgC) (aI (@jag) (aI (@Ut) (aI (@jbt) (aI (@jlS) (aI (@jbw) (aI (@jai) (aI (@Us) (aI (@jdD) (aI (@jgF) (aI (@jby) (aI (@jbx) (aI (@jgD) (aI (@jbv) (aI (@jbu) (aI (@jdB) (aI (@x_i) (aI (@jgG) (aI (@jlT) (aI (@jdC) (aI (@jbq) (aI (@jbp) (aI (@jgB) (aI (@wY) (aI (@UG) (aI (@jdZ) (aI (@He) (aI (@Hb) (aI (@Vw) (aI (@Hd) (aI (@jqC) (aI (@jft) (aI (@jfr) (aI (@jhE) (aI (@jfs) (aI (@jhF) (aI (@jd1) (aI (@Gk) (aI (@UH) (aI (@jmy) (aI (@jmx) (aI (@jd2) (aI (@jd3) (aI (@jhD) (aI (@jhC) (aI (@jhJ) (aI (@jhI) (aI (@jhH) (aI (@jhG) (aI (@H9) (aI (@Un) (aI (@jaa) (aI (@jeM) (@jeL)))))))))))))))))))))))))))))))))))))))))))))))))))))))))):=aI (@jek) (aI (@jbr) (aI (@jah) (aI (@jgE) (aI (@jgC) (aI (@jag) (aI (@Ut) (aI (@jbt) (aI (@jlS) (aI (@jbw) (aI (@jai) (aI (@Us) (aI (@jdD) (aI (@jgF) (aI (@jby) (aI (@jbx) (aI (@jgD) (aI (@jbv) (aI (@jbu) (aI (@jdB) (aI (@x_i) (aI (@jgG) (aI (@jlT) (aI (@jdC) (aI (@jbq) (aI (@jbp) (aI (@jgB) (aI (@wY) (aI (@UG) (aI (@jdZ) (aI (@He) (aI (@Hb) (aI (@Vw) (aI (@Hd) (aI (@jqC) (aI (@jft) (aI (@jfr) (aI (@jhE) (aI (@jfs) (aI (@jhF) (aI (@jd1) (aI (@Gk) (aI (@UH) (aI (@jmy) (aI (@jmx) (aI (@jd2) (aI (@jd3) (aI (@jhD) (aI (@jhC) (aI (@jhJ) (aI (@jhI) (aI (@jhH) (aI (@jhG) (aI (@H9) (aI (@Un) (aI (@jaa) (aI (@jeM) (@jeL)))))))))))))))))))))))))))))))))))))))))))))))))))))))))
theorem rzB:type_of% (aI (@jeK) (aI (@jc8) (aI (@jqE) (aI (@jqD) (aI (@jkU) (aI (@jli) (aI (@jig) (aI (@jmU) (aI (@jmP) (aI (@jmO) (aI (@jq1) (aI (@jih) (aI (@jaW) (aI (@jmM) (aI (@jib) (aI (@jq0) (aI (@jmT) (aI (@jmR) (aI (@jio) (aI (@jin) (aI (@jim) (aI (@jil) (aI (@jik) (aI (@jei) (aI (@jmS) (aI (@jmN) (aI (@jij) (aI (@jcx) (aI (@jcw) (aI (@jcv) (aI (@jie) (aI (@jid) (aI (@jic) (aI (@jcy) (aI (@HM) (aI (@jmQ) (aI (@jej) (aI (@jmV) (aI (@jdI) (aI (@jip) (aI (@jif) (aI (@jaV) (aI (@jmW) (aI (@jp1) (aI (@jl4) (aI (@jfe) (aI (@jl9) (aI (@jl6) (aI (@jma) (aI (@jmc) (aI (@jl5) (aI (@jdG) (aI (@jbC) (aI (@jbD) (aI (@jg8) (aI (@jgM) (aI (@jgV) (@jgU)))))))))))))))))))))))))))))))))))))))))))))))))))))))))):=aI (@jeK) (aI (@jc8) (aI (@jqE) (aI (@jqD) (aI (@jkU) (aI (@jli) (aI (@jig) (aI (@jmU) (aI (@jmP) (aI (@jmO) (aI (@jq1) (aI (@jih) (aI (@jaW) (aI (@jmM) (aI (@jib) (aI (@jq0) (aI (@jmT) (aI (@jmR) (aI (@jio) (aI (@jin) (aI (@jim) (aI (@jil) (aI (@jik) (aI (@jei) (aI (@jmS) (aI (@jmN) (aI (@jij) (aI (@jcx) (aI (@jcw) (aI (@jcv) (aI (@jie) (aI (@jid) (aI (@jic) (aI (@jcy) (aI (@HM) (aI (@jmQ) (aI (@jej) (aI (@jmV) (aI (@jdI) (aI (@jip) (aI (@jif) (aI (@jaV) (aI (@jmW) (aI (@jp1) (aI (@jl4) (aI (@jfe) (aI (@jl9) (aI (@jl6) (aI (@jma) (aI (@jmc) (aI (@jl5) (aI (@jdG) (aI (@jbC) (aI (@jbD) (aI (@jg8) (aI (@jgM) (aI (@jgV) (@jgU)))))))))))))))))))))))))))))))))))))))))))))))))))))))))
theorem rzC:type_of% (aI (@jgY) (aI (@jgX) (aI (@jgZ) (aI (@jff) (aI (@jbE) (aI (@jg0) (aI (@jg2) (aI (@jg1) (aI (@jl8) (aI (@jg4) (aI (@jdH) (aI (@jgT) (aI (@jmb) (aI (@jg3) (aI (@jdK) (aI (@jg6) (aI (@jg5) (aI (@jl7) (aI (@jgS) (aI (@jdJ) (aI (@jgR) (aI (@jgQ) (aI (@jgP) (aI (@jeJ) (aI (@jrK) (aI (@jrL) (aI (@ji1) (aI (@gn) (aI (@gq) (aI (@Jl) (aI (@jfz) (aI (@jiP) (aI (@jhP) (aI (@jgu) (aI (@jnd) (aI (@jrT) (aI (@jgv) (aI (@Zy) (aI (@Zx) (aI (@wW) (aI (@Zw) (aI (@Zt) (aI (@Zv) (aI (@jba) (aI (@u1) (aI (@wX) (aI (@v7) (aI (@Gy) (aI (@ja2) (aI (@ja1) (aI (@Zc) (aI (@jr) (aI (@ju) (aI (@Zs) (aI (@YX) (aI (@YY) (aI (@ZI) (@ZH)))))))))))))))))))))))))))))))))))))))))))))))))))))))))):=aI (@jgY) (aI (@jgX) (aI (@jgZ) (aI (@jff) (aI (@jbE) (aI (@jg0) (aI (@jg2) (aI (@jg1) (aI (@jl8) (aI (@jg4) (aI (@jdH) (aI (@jgT) (aI (@jmb) (aI (@jg3) (aI (@jdK) (aI (@jg6) (aI (@jg5) (aI (@jl7) (aI (@jgS) (aI (@jdJ) (aI (@jgR) (aI (@jgQ) (aI (@jgP) (aI (@jeJ) (aI (@jrK) (aI (@jrL) (aI (@ji1) (aI (@gn) (aI (@gq) (aI (@Jl) (aI (@jfz) (aI (@jiP) (aI (@jhP) (aI (@jgu) (aI (@jnd) (aI (@jrT) (aI (@jgv) (aI (@Zy) (aI (@Zx) (aI (@wW) (aI (@Zw) (aI (@Zt) (aI (@Zv) (aI (@jba) (aI (@u1) (aI (@wX) (aI (@v7) (aI (@Gy) (aI (@ja2) (aI (@ja1) (aI (@Zc) (aI (@jr) (aI (@ju) (aI (@Zs) (aI (@YX) (aI (@YY) (aI (@ZI) (@ZH)))))))))))))))))))))))))))))))))))))))))))))))))))))))))
theorem rzD:type_of% (aI (@ji) (aI (@jo) (aI (@jr) (aI (@jq) (aI (@u6) (aI (@wZ) (aI (@XM) (aI (@Xj) (aI (@gP) (aI (@vQ) (aI (@kd) (aI (@gN) (aI (@gO) (aI (@Z6) (aI (@YS) (aI (@ut) (aI (@ul) (aI (@wP) (aI (@ZU) (aI (@wO) (aI (@uo) (aI (@ur) (aI (@jdf) (aI (@jde) (aI (@jlH) (aI (@jgw) (aI (@jbd) (aI (@KI) (aI (@UF) (aI (@jmw) (aI (@jmv) (aI (@WX) (aI (@ja0) (aI (@jeq) (aI (@ym) (aI (@jhB) (aI (@jd0) (aI (@h_0) (aI (@h_1) (aI (@jq5) (aI (@jq4) (aI (@jq7) (aI (@jq6) (aI (@jqR) (aI (@jqQ) (aI (@jqh) (aI (@jqg) (aI (@jqf) (aI (@jp0) (aI (@jpY) (aI (@jlZ) (aI (@jpZ) (aI (@jl0) (aI (@jhu) (aI (@Gd) (aI (@Gc) (aI (@GO) (@jrp)))))))))))))))))))))))))))))))))))))))))))))))))))))))))):=aI (@ji) (aI (@jo) (aI (@jr) (aI (@jq) (aI (@u6) (aI (@wZ) (aI (@XM) (aI (@Xj) (aI (@gP) (aI (@vQ) (aI (@kd) (aI (@gN) (aI (@gO) (aI (@Z6) (aI (@YS) (aI (@ut) (aI (@ul) (aI (@wP) (aI (@ZU) (aI (@wO) (aI (@uo) (aI (@ur) (aI (@jdf) (aI (@jde) (aI (@jlH) (aI (@jgw) (aI (@jbd) (aI (@KI) (aI (@UF) (aI (@jmw) (aI (@jmv) (aI (@WX) (aI (@ja0) (aI (@jeq) (aI (@ym) (aI (@jhB) (aI (@jd0) (aI (@h_0) (aI (@h_1) (aI (@jq5) (aI (@jq4) (aI (@jq7) (aI (@jq6) (aI (@jqR) (aI (@jqQ) (aI (@jqh) (aI (@jqg) (aI (@jqf) (aI (@jp0) (aI (@jpY) (aI (@jlZ) (aI (@jpZ) (aI (@jl0) (aI (@jhu) (aI (@Gd) (aI (@Gc) (aI (@GO) (@jrp)))))))))))))))))))))))))))))))))))))))))))))))))))))))))
theorem rzL:type_of% (aI (@v7) (aI (@Gy) (aI (@ji) (aI (@jo) (aI (@jr) (aI (@ju) (aI (@jq) (aI (@u6) (aI (@ym) (aI (@u1) (aI (@wZ) (aI (@XM) (aI (@Xj) (aI (@Zy) (aI (@Zx) (aI (@wW) (aI (@Zw) (aI (@Zt) (aI (@Zv) (aI (@wX) (aI (@Zs) (aI (@YX) (aI (@YY) (aI (@ZI) (aI (@ZH) (aI (@GO) (aI (@Gc) (@Gd)))))))))))))))))))))))))))):=aI (@v7) (aI (@Gy) (aI (@ji) (aI (@jo) (aI (@jr) (aI (@ju) (aI (@jq) (aI (@u6) (aI (@ym) (aI (@u1) (aI (@wZ) (aI (@XM) (aI (@Xj) (aI (@Zy) (aI (@Zx) (aI (@wW) (aI (@Zw) (aI (@Zt) (aI (@Zv) (aI (@wX) (aI (@Zs) (aI (@YX) (aI (@YY) (aI (@ZI) (aI (@ZH) (aI (@GO) (aI (@Gc) (@Gd)))))))))))))))))))))))))))
theorem rzN:type_of% (aI (@ji) (aI (@jo) (aI (@jr) (aI (@ju) (aI (@jq) (aI (@ym) (aI (@v7) (aI (@WX) (aI (@ja0) (aI (@ja2) (aI (@ja1) (aI (@Zc) (@jiw))))))))))))):=aI (@ji) (aI (@jo) (aI (@jr) (aI (@ju) (aI (@jq) (aI (@ym) (aI (@v7) (aI (@WX) (aI (@ja0) (aI (@ja2) (aI (@ja1) (aI (@Zc) (@jiw))))))))))))
theorem rzG:type_of% (aI (@v7) (aI (@Gy) (aI (@Zy) (aI (@Zx) (aI (@wW) (aI (@Zw) (aI (@Zt) (aI (@Zv) (aI (@wX) (aI (@GO) (aI (@Gc) (aI (@Gd) (aI (@gP) (aI (@vQ) (aI (@kd) (aI (@gN) (aI (@gO) (aI (@Z6) (aI (@jba) (aI (@ji) (aI (@jo) (aI (@jr) (aI (@ju) (aI (@u1) (aI (@jq) (aI (@u6) (aI (@ym) (aI (@wZ) (aI (@XM) (aI (@Xj) (aI (@YS) (aI (@ut) (aI (@ul) (aI (@wP) (aI (@ZU) (aI (@wO) (aI (@uo) (aI (@ur) (aI (@jcp) (aI (@jcl) (aI (@HD) (aI (@ga) (aI (@HC) (aI (@jcm) (aI (@jco) (aI (@jcn) (aI (@Hj) (aI (@Hg) (aI (@KL) (aI (@kr) (aI (@KK) (aI (@Hh) (aI (@Hi) (aI (@Hk) (aI (@KI) (aI (@UF) (aI (@YY) (aI (@ZI) (aI (@YX) (@ZH)))))))))))))))))))))))))))))))))))))))))))))))))))))))))))):=aI (@v7) (aI (@Gy) (aI (@Zy) (aI (@Zx) (aI (@wW) (aI (@Zw) (aI (@Zt) (aI (@Zv) (aI (@wX) (aI (@GO) (aI (@Gc) (aI (@Gd) (aI (@gP) (aI (@vQ) (aI (@kd) (aI (@gN) (aI (@gO) (aI (@Z6) (aI (@jba) (aI (@ji) (aI (@jo) (aI (@jr) (aI (@ju) (aI (@u1) (aI (@jq) (aI (@u6) (aI (@ym) (aI (@wZ) (aI (@XM) (aI (@Xj) (aI (@YS) (aI (@ut) (aI (@ul) (aI (@wP) (aI (@ZU) (aI (@wO) (aI (@uo) (aI (@ur) (aI (@jcp) (aI (@jcl) (aI (@HD) (aI (@ga) (aI (@HC) (aI (@jcm) (aI (@jco) (aI (@jcn) (aI (@Hj) (aI (@Hg) (aI (@KL) (aI (@kr) (aI (@KK) (aI (@Hh) (aI (@Hi) (aI (@Hk) (aI (@KI) (aI (@UF) (aI (@YY) (aI (@ZI) (aI (@YX) (@ZH)))))))))))))))))))))))))))))))))))))))))))))))))))))))))))
theorem rzP:type_of% (aI (@Qak) (aI (@Qbq) (aI (@Qbg) (aI (@QaN) (aI (@Qbv) (aI (@QbZ) (aI (@Int.toNat_zero) (aI (@Int.toNat_one) (aI (@true_and) (aI (@and_true) (aI (@and_self) (aI (@QbG) (aI (@Bool.not_false) (aI (@QaO) (aI (@QaP) (aI (@decide_eq_true_eq) (aI (@decide_eq_false_iff_not) (aI (@Nat.beq_eq) (@not_false_eq_true))))))))))))))))))):=aI (@Qak) (aI (@Qbq) (aI (@Qbg) (aI (@QaN) (aI (@Qbv) (aI (@QbZ) (aI (@Int.toNat_zero) (aI (@Int.toNat_one) (aI (@true_and) (aI (@and_true) (aI (@and_self) (aI (@QbG) (aI (@Bool.not_false) (aI (@QaO) (aI (@QaP) (aI (@decide_eq_true_eq) (aI (@decide_eq_false_iff_not) (aI (@Nat.beq_eq) (@not_false_eq_true))))))))))))))))))
theorem rzQ:type_of% (aI (@eq_self.{1}) (aI (@ν.{0}) (aI (@ξ.{0}) (aI (@υ.{0}) (aI (@ω.{0}) (aI (@Qag.{0}) (aI (@Qal.{0}) (aI (@QaW.{0}) (aI (@cond_true.{1}) (aI (@cond_false.{1}) (@ne_eq.{1}))))))))))):=aI (@eq_self.{1}) (aI (@ν.{0}) (aI (@ξ.{0}) (aI (@υ.{0}) (aI (@ω.{0}) (aI (@Qag.{0}) (aI (@Qal.{0}) (aI (@QaW.{0}) (aI (@cond_true.{1}) (aI (@cond_false.{1}) (@ne_eq.{1}))))))))))
theorem rzZ:type_of% (aI (@rzA) (aI (@rzB) (aI (@rzC) (aI (@rzD) (aI (@rzP) (@rzQ)))))):=aI (@rzA) (aI (@rzB) (aI (@rzC) (aI (@rzD) (aI (@rzP) (@rzQ)))))
instance iA (n:Nat):OfNat A n:=⟨.t n⟩
theorem nA (n:Nat):(@OfNat.ofNat A n (iA n))=A.t (@OfNat.ofNat Nat n _):=rfl
def oe(a:Nat)(b:Bool)(c:Option (Nat×Bool))(d:XK):XS:=⟨some a,b,c,d⟩
def oi(a:Nat)(b:Bool)(c:Option (Nat×Bool))(d:Ins):XS:=oe a b c (.i d)
def oj(a:Nat)(b:Bool)(c:Ins):XS:=oi a b none c
def ol(a:Nat)(b:Ins):XS:=oj a false b
def ou(a:Int):AV:=.int .i64 a
def ov(a:List XS)(b:XC):XC:=.seq (.ops a) b
def ow(a:Nat)(b:Ins):XS:=oj a true b
def oy(a:Nat)(b:A):XS:=ow a (.mv b)
def oz(a:Nat)(b:A):XS:=ol a (.mv b)
def oB:AV:=ou 0
def oC(a:Nat)(b:Bool)(c:Nat×Bool)(d:Ins):XS:=oi a b (some c) d
def oD(a:Nat)(b:Nat×Bool)(c:Ins):XS:=oC a false b c
def oE(a:Nat)(b:Nat)(c:A):XS:=ol a (.fad b c)
def oF(a:Bool):A:=.c (.bool a)
def oG(a:Nat)(b:Bool)(c:Option (Nat×Bool))(d:A)(e:List A):XS:=oe a b c (.call d e)
def oH(a:Nat)(b:A):XS:=ol a (.ld1 b)
def oI(a:BinOp)(b:A)(c:AV):Ins:=.bin a b (.c c)
def oJ:AV:=.str []
def oK(a:List XS)(b:A)(c:XC)(d:XC):XC:=ov a (.cond b c d)
def oL(a:XS)(b:Nat)(c:List (Nat×Nat)):XD:=⟨a,none,b,c⟩
def oM(a:Option Nat)(b:Option (Nat×Bool))(c:XK):XS:=⟨a,false,b,c⟩
def oQ(a:Nat)(b:List AV):A:=.c (.fn a b)
def oR(a:XS)(b:Option A)(c:Nat)(d:List (Nat×Nat)):XD:=⟨a,some b,c,d⟩
def oS(a:Nat)(b:Option (Nat×Bool))(c:A)(d:List A):XS:=oG a false b c d
def oU(a:Nat)(b:Nat)(c:A):XS:=ol a (.ldA b c)
def oV(a:Nat)(b:A)(c:A):XK:=.i (.st a b c)
def oW:A:=oF false
def oX(a:List XS)(b:XC)(c:XC):XC:=ov a (.seq b c)
def oY(a:Nat)(b:Option (Nat×Bool))(c:Nat)(d:List AV)(e:List A):XS:=oS a b (oQ c d) e
def oZ(a:BinOp)(b:A)(c:Int):Ins:=oI a b (ou c)
def o0(a:Option (Nat×Bool))(b:XK):XS:=oM none a b
def o3(a:XK):XS:=o0 none a
def o4(a:List XS):XC:=ov a .ret
def o5(a:Nat)(b:A)(c:A):XS:=o3 (oV a b c)
def o6(a:Nat)(b:Nat)(c:List AV)(d:List A):XS:=oY a none b c d
def o7(a:List Nat):A:=.c (.str a)
def o8(a:Nat)(b:List AV):XS:=ow a (.alloc b)
def o9(a:XS)(b:Nat):XD:=oL a b []
def Ia(a:Nat)(b:AV):XS:=oy a (.c b)
def Ib(a:Nat)(b:BinOp)(c:A)(d:Int):XS:=ol a (oZ b c d)
def Ic(a:List XS)(b:A)(c:XC):XC:=oK a b c .skip
def Id(a:Nat)(b:XC):XC:=.block a (.loop b)
def Ie(a:Nat)(b:Nat)(c:Bool)(d:Ins):XS:=oD a (b,c) d
def If(a:Nat)(b:Nat)(c:Ins):XS:=Ie a b false c
def Ig(a:Nat)(b:Nat)(c:Ins):XS:=Ie a b true c
def Ih:A:=oF true
def Ii(a:Nat)(b:A)(c:Nat):XS:=ol a (.ext b c)
def Ij(a:XS)(b:A)(c:Nat)(d:List (Nat×Nat)):XD:=oR a (some b) c d
def Ik(a:Nat)(b:Nat)(c:A)(d:A):XS:=ol a (.idxS b c d)
def Il(a:Nat)(b:XC)(c:XC):XC:=.seq (.block a b) c
def Im(a:XD):XD×(Option (List XD)):=(a,none)
def Io(a:XS)(b:Nat):XD×(Option (List XD)):=Im (o9 a b)
def Ip(a:Nat)(b:Nat)(c:List A):XS:=o6 a b [] c
def Iq:AV:=.tup []
def Ir(a:Nat)(b:A)(c:A)(d:A):XS:=ol a (.pick b c d)
def Is(a:Nat)(b:Nat)(c:Nat)(d:List AV)(e:List ((Nat×Nat)×A)):XS:=ol a (.buildS b c d e)
def Iu(a:A)(b:XC)(c:Nat):XC:=.cond a b (.exit c)
def Iv(a:Nat)(b:List AV)(c:List ((Nat×Nat)×A)):XS:=ol a (.build b c)
def Iw(a:Nat)(b:BinOp)(c:A)(d:A):XS:=ow a (.bin b c d)
def Ix(a:XS)(b:Nat)(c:List (Nat×Nat)):XD:=oR a none b c
def Iy(a:List XS)(b:A)(c:List XS):XC:=Ic a b (o4 c)
def Iz(a:Nat)(b:XC)(c:List XS):XC:=Il a b (.ops c)
def IA(a:A):Ins:=.un .not a
def IB(a:XS)(b:A)(c:Nat)(d:List (Nat×Nat)):XD×(Option (List XD)):=Im (Ij a b c d)
def ID(a:Nat)(b:A):XS:=ow a (.box b)
def IE(a:XS):XS×(Option (List XD)):=(a,none)
def IG(a:Nat)(b:BinOp)(c:A)(d:A):XS:=ol a (.strb b c d)
def IH(a:Nat)(b:Nat)(c:A):XS:=If a b (.mv c)
def II:A:=.c Iq
def IJ(a:Nat)(b:A)(c:Nat):XD:=o9 (oz a b) c
def IK(a:XS)(b:Nat)(c:A):List XS:=[a,oy b c]
def IM(a:Nat)(b:BinOp)(c:A)(d:Int)(e:Nat)(f:A):List XS:=IK (Ib a b c d) e f
def IO(a:XS):XD×(Option (List XD)):=Io a 0
def IP(a:Nat)(b:A):XS:=ow a (.len b)
def IQ(a:Nat)(b:A):XS:=ol a (.nilc b)
def IR(a:Int):A:=.c (ou a)
def IT(a:A)(b:Nat):XC:=Iu a .skip b
def IU(a:List XS)(b:Nat)(c:XC):XC:=ov a (Id b c)
def IV(a:Nat)(b:A)(c:Int)(d:Nat)(e:A):List XS:=IM a .eql b c d e
def IW(a:Nat)(b:BinOp)(c:A)(d:A):XS:=ol a (.bin b c d)
def IX(a:Nat)(b:Nat)(c:A):XD×(Option (List XD)):=IO (oE a b c)
def IY(a:Nat):XS:=oz a 0
def IZ(a:Nat)(b:Nat)(c:A):XS:=Ig a b (.mv c)
def I0(a:Nat):XS:=Ia a oB
def I3(a:XS)(b:Nat)(c:List (Nat×Nat)):XD×(Option (List XD)):=Im (Ix a b c)
def I4(a:Nat)(b:A):XS:=ol a (.len b)
def I5(a:Nat)(b:A)(c:A):XS:=Iw a .lss b c
def I6(a:Nat)(b:A)(c:A)(d:A):XS:=ow a (.pick b c d)
def I7(a:Nat)(b:A)(c:Int)(d:Nat)(e:A):List XS:=IM a .add b c d e
def I8(a:Nat)(b:XC)(c:Nat)(d:A)(e:Int)(f:Nat)(g:A):XC:=Iz a b (I7 c d e f g)
def I9(a:List XS)(b:A)(c:Nat)(d:XC):XC:=oX a (IT b c) d
def Oa(a:List XS)(b:A)(c:Nat)(d:Nat)(e:XC)(f:Nat)(g:A)(h:Int)(i:Nat)(j:A):XC:=I9 a b c (I8 d e f g h i j)
def Ob(a:List XS)(b:Nat)(c:List XS)(d:A)(e:Nat)(f:Nat)(g:XC)(h:Nat)(i:A)(j:Int)(k:Nat)(l:A):XC:=IU a b (Oa c d e f g h i j k l)
def Oe(a:List XS)(b:List XS)(c:A)(d:List XS)(e:XC):XC:=oX a (Iy b c d) e
def Og(a:Nat)(b:A)(c:A)(d:Nat)(e:List (Nat×Nat)):XD×(Option (List XD)):=I3 (o5 a b c) d e
def Oh(a:Nat)(b:A):XS:=ow a (.ld1 b)
def Oi(a:Nat)(b:A)(c:Int)(d:Nat)(e:A)(f:A)(g:XC)(h:XC):XC:=oK (IV a b c d e) f g h
def Oj(a:Nat)(b:Nat×Bool)(c:Nat)(d:List AV)(e:List A):XS:=oY a (some b) c d e
def Ok(a:Nat)(b:Nat):XD:=IJ a II b
def Ol(a:Nat):XS:=oy a oW
def Om(a:Nat)(b:A)(c:A)(d:Nat)(e:List (Nat×Nat)):XD×(Option (List XD)):=IB (oH a b) c d e
def On(a:List XS)(b:Nat)(c:List XS)(d:A)(e:Nat)(f:Nat)(g:List XS)(h:XC)(i:Nat)(j:A)(k:Int)(l:Nat)(m:A):XC:=Ob a b c d e f (ov g h) i j k l m
def Oo(a:Nat)(b:Nat)(c:Nat)(d:A):XS:=If a b (.fad c d)
def Oq(a:Nat)(b:Nat)(c:Nat)(d:A)(e:A):XS:=ol a (.app b c d e)
def Or(a:List (XD×(Option (List XD))))(b:XC):XC:=.seq (.dops a) b
def Os(a:Nat×Nat)(b:List Nat):(Nat×Nat)×A:=(a,o7 b)
def Ot(a:Nat)(b:Nat)(c:List Nat):(Nat×Nat)×A:=Os (a,b) c
def Ou(a:Nat)(b:List Nat):(Nat×Nat)×A:=Ot a 1 b
def Ov(a:Nat)(b:Nat)(c:A):XS:=If a b (.ld1 c)
def Ow(a:Nat)(b:Nat)(c:A):XS:=Ig a b (.ld1 c)
def Ox(a:Nat)(b:Nat)(c:A):XS:=Ip a b [c]
def Oy(a:Nat)(b:Nat)(c:Nat)(d:A):XS:=Ig a b (.fad c d)
def Oz(a:List XS)(b:A)(c:List XS):XC:=Ic a b (.ops c)
def OA(a:Nat)(b:Nat)(c:A)(d:A):XS:=Ip a b [c,d]
def OB(a:AV)(b:AV)(c:AV)(d:AV)(e:AV):List AV:=[a,b,c,.nils,d,e]
def OC(a:AV)(b:AV)(c:AV)(d:AV):List AV:=OB oB a b c d
def OE(a:AV)(b:AV)(c:AV):List AV:=OC oB a b c
def OG(a:AV)(b:AV):List AV:=OE oJ a b
def OH(a:AV):List AV:=OG oB a
def OI:List AV:=OH oB
def OJ:Option (List XD):=some []
def OK(a:List XS)(b:List XS):XC:=ov a (o4 b)
def OL(a:Nat)(b:Nat)(c:Nat)(d:A)(e:A):XS:=ol a (.idxA b c d e)
def OM:A:=.c oB
def ON(a:Nat)(b:Nat)(c:A)(d:A)(e:Nat)(f:List (Nat×Nat)):XD×(Option (List XD)):=IB (oU a b c) d e f
def OO(a:Nat)(b:A):XS:=oE a 0 b
def OP(a:Nat):XD:=Ok a 0
def OQ(a:Nat)(b:A):XS×(Option (List XD)):=IE (oH a b)
def OS(a:Nat)(b:A)(c:A):XS:=IG a .add b c
def OT(a:Nat)(b:Nat):(Nat×Nat)×A:=Ou a [b]
def OU(a:List XS)(b:XC)(c:List XS):XC:=oX a b (o4 c)
def OV(a:Nat)(b:A):XS:=ow a (IA b)
def OW(a:XC)(b:List XS):XC:=.seq a (o4 b)
def OY(a:Nat):XS:=oz a 1
def OZ(a:Nat)(b:Int):XS:=Ia a (ou b)
def O0(a:Nat)(b:Nat)(c:Nat)(d:A):XS:=If a b (.ldA c d)
def O1(a:Nat)(b:BinOp)(c:A)(d:Int):XS:=ow a (oZ b c d)
def O4(a:List XS)(b:A)(c:XC):XC:=oK a b .skip c
def O5(a:Nat):XS:=Ia a .nils
def O6(a:Nat)(b:Nat)(c:BinOp)(d:A)(e:Int):XS:=If a b (oZ c d e)
def O7(a:BinOp)(b:A):Ins:=oI a b oB
def O8(a:List XS)(b:List XS)(c:XC):XC:=ov a (ov b c)
def O9(a:Nat)(b:A):XS:=oU a 6 b
def Ta(a:Nat):XS:=oy a Ih
def Tb(a:Nat)(b:A)(c:A):XS:=Ir a b c oW
def Tc(a:Nat)(b:A)(c:A):XS:=Ir a b Ih c
def Td(a:Nat)(b:Nat)(c:BinOp)(d:A)(e:Int):XS:=Ig a b (oZ c d e)
def Te(a:Nat)(b:A)(c:Int)(d:Nat)(e:A)(f:A)(g:List XS)(h:XC):XC:=Oi a b c d e f (o4 g) h
def Tf(a:Nat)(b:A)(c:Nat)(d:A):List XS:=IK (oz a b) c d
def Tg:A:=IR 1
def Th(a:Nat):List XS:=[Ol a]
def Ti(a:A)(b:List XS)(c:XC):XC:=.cond a (o4 b) c
def Tj:AV:=.bool false
def Tl(a:Nat)(b:A):XS:=oE a 3 b
def Tm(a:Nat)(b:Nat×Bool)(c:Nat)(d:List A):XS:=Oj a b c [] d
def Tn(a:Nat)(b:A)(c:A):List XS:=[I5 a b c]
def To(a:List XS)(b:Nat)(c:Nat)(d:A)(e:A)(f:A)(g:Nat)(h:Nat)(i:List XS)(j:XC)(k:Nat)(l:A)(m:Int)(n:Nat)(p:A):XC:=On a b (Tn c d e) f g h i j k l m n p
def Tp(a:A):XS:=oy 2 a
def Tq(a:Nat)(b:A):XD×(Option (List XD)):=IO (oz a b)
def Tr(a:Nat)(b:A)(c:A):XS:=IG a .eql b c
def Ts(a:Nat)(b:A)(c:A)(d:Nat):XD×(Option (List XD)):=Om a b c d []
def Tt(a:Nat)(b:A)(c:Int)(d:Nat)(e:A)(f:A)(g:XC):XC:=Oi a b c d e f .skip g
def Tu:List XS:=Th 4
def Tv(a:Nat)(b:A):XS:=oE a 1 b
def Tw(a:Nat)(b:A):XS:=Ii a b 0
def Tx(a:Nat)(b:A):XS:=Ii a b 1
def Ty(a:Nat)(b:A)(c:A)(d:List (Nat×Nat)):XD×(Option (List XD)):=Og a b c 0 d
def Tz(a:Nat):XS:=o8 a OI
def TA(a:Nat)(b:A)(c:Int):XS:=Ib a .add b c
def TB(a:Nat)(b:A):XS×(Option (List XD)):=IE (oz a b)
def TC(a:Int):AV:=.int .u8 a
def TF(a:Nat)(b:List AV)(c:List ((Nat×Nat)×A)):XD×(Option (List XD)):=IO (Iv a b c)
def TG(a:XS)(b:Nat):List XS:=IK a b oW
def TH(a:Nat)(b:Nat)(c:List AV)(d:List ((Nat×Nat)×A)):XS:=Is a b 1 c d
def TI(a:Nat)(b:Nat)(c:AV)(d:List ((Nat×Nat)×A)):XS:=TH a b [c] d
def TJ(a:A):Ins:=O7 .eql a
def TK(a:A):XS:=oy 4 a
def TM(a:Nat)(b:A):XS:=ol a (IA b)
def TN(a:List (XS×(Option (List XD))))(b:XC):XC:=.seq (.cops a) b
def TO(a:BinOp)(b:Nat)(c:A)(d:A):Ins:=.gen a b false c d
def TQ(a:Nat)(b:Nat)(c:A):XS:=If a b (.len c)
def TR(a:Nat)(b:Nat)(c:A)(d:Nat)(e:List (Nat×Nat)):XD:=Ix (Ox a b c) d e
def TS(a:Nat)(b:Nat)(c:A):XS:=If a b (IA c)
def TT(a:Nat):XS:=ID a 0
def TU(a:Nat)(b:A)(c:A):XD×(Option (List XD)):=Ty a b c []
def TV(a:A)(b:A):XS:=o5 6 a b
def TW(a:Nat):XS:=oz a 4
def TY(a:Nat):XS:=oz a 6
def TZ(a:Nat)(b:A):XS:=oU a 3 b
def T0(a:Nat)(b:Nat):List XS:=TG (TT a) b
def T1(a:Nat)(b:Option (Nat×Bool))(c:A)(d:List A):XS:=oG a true b c d
def T4(a:Nat)(b:A)(c:List A):XS:=T1 a none b c
def T5(a:Nat)(b:A)(c:List Nat):XS:=Tr a b (o7 c)
def T6(a:List XS)(b:Nat)(c:Nat)(d:A)(e:A)(f:A)(g:Nat)(h:Nat)(i:List XS)(j:XC)(k:Nat)(l:A)(m:Nat)(n:A):XC:=To a b c d e f g h i j k l 1 m n
def T7(a:List XS)(b:Nat)(c:XC):XC:=ov a (.block b c)
def T8(a:Nat)(b:Nat)(c:A)(d:A)(e:Nat):XD×(Option (List XD)):=ON a b c d e []
def T9(a:List XS)(b:A)(c:List XS)(d:XC):XC:=.seq (Iy a b c) d
def La(a:Nat):XS×(Option (List XD)):=IE (IY a)
def Lb(a:Nat):XS:=oz a 5
def Lc(a:Nat)(b:A)(c:A):XS:=I6 a b Ih c
def Ld(a:Nat)(b:A):XS:=oE a 2 b
def Lf(a:Nat):Nat×Bool:=(a,false)
def Lg(a:Nat)(b:Nat)(c:Nat)(d:List A):XS:=Tm a (Lf b) c d
def Lh(a:List (XD×(Option (List XD)))):XC:=Or a .ret
def Li(a:Nat)(b:A)(c:A):XS:=Ik a 1 b c
def Lj:List XS:=Th 2
def Lk(a:Nat)(b:Nat)(c:A)(d:A)(e:A):XS:=If a b (.pick c d e)
def Ll(a:Nat)(b:Nat)(c:List ((Nat×Nat)×A)):XS:=TI a b .nils c
def Lm(a:Nat)(b:A)(c:List Nat)(d:Nat)(e:A):List XS:=IK (T5 a b c) d e
theorem qq:type_of% (aI @nA (aI @oe.eq_1 (aI @oi.eq_1 (aI @oj.eq_1 (aI @ol.eq_1 (aI @ou.eq_1 (aI @ov.eq_1 (aI @ow.eq_1 (aI @oy.eq_1 (aI @oz.eq_1 (aI @oB.eq_1 (aI @oC.eq_1 (aI @oD.eq_1 (aI @oE.eq_1 (aI @oF.eq_1 (aI @oG.eq_1 (aI @oH.eq_1 (aI @oI.eq_1 (aI @oJ.eq_1 (aI @oK.eq_1 (aI @oL.eq_1 (aI @oM.eq_1 (aI @oQ.eq_1 (aI @oR.eq_1 (aI @oS.eq_1 (aI @oU.eq_1 (aI @oV.eq_1 (aI @oW.eq_1 (aI @oX.eq_1 (aI @oY.eq_1 (aI @oZ.eq_1 (aI @o0.eq_1 (aI @o3.eq_1 (aI @o4.eq_1 (aI @o5.eq_1 (aI @o6.eq_1 (aI @o7.eq_1 (aI @o8.eq_1 (aI @o9.eq_1 (aI @Ia.eq_1 (aI @Ib.eq_1 (aI @Ic.eq_1 (aI @Id.eq_1 (aI @Ie.eq_1 (aI @If.eq_1 (aI @Ig.eq_1 (aI @Ih.eq_1 (aI @Ii.eq_1 (aI @Ij.eq_1 (aI @Ik.eq_1 (aI @Il.eq_1 (aI @Im.eq_1 (aI @Io.eq_1 (aI @Ip.eq_1 (aI @Iq.eq_1 (aI @Ir.eq_1 (aI @Is.eq_1 (aI @Iu.eq_1 (aI @Iv.eq_1 (aI @Iw.eq_1 (aI @Ix.eq_1 (aI @Iy.eq_1 (aI @Iz.eq_1 (aI @IA.eq_1 (aI @IB.eq_1 (aI @ID.eq_1 (aI @IE.eq_1 (aI @IG.eq_1 (aI @IH.eq_1 (aI @II.eq_1 (aI @IJ.eq_1 (aI @IK.eq_1 (aI @IM.eq_1 (aI @IO.eq_1 (aI @IP.eq_1 (aI @IQ.eq_1 (aI @IR.eq_1 (aI @IT.eq_1 (aI @IU.eq_1 (aI @IV.eq_1 (aI @IW.eq_1 (aI @IX.eq_1 (aI @IY.eq_1 (aI @IZ.eq_1 (aI @I0.eq_1 (aI @I3.eq_1 (aI @I4.eq_1 (aI @I5.eq_1 (aI @I6.eq_1 (aI @I7.eq_1 (aI @I8.eq_1 (aI @I9.eq_1 (aI @Oa.eq_1 (aI @Ob.eq_1 (aI @Oe.eq_1 (aI @Og.eq_1 (aI @Oh.eq_1 (aI @Oi.eq_1 (aI @Oj.eq_1 (aI @Ok.eq_1 (aI @Ol.eq_1 (aI @Om.eq_1 (aI @On.eq_1 (aI @Oo.eq_1 (aI @Oq.eq_1 (aI @Or.eq_1 (aI @Os.eq_1 (aI @Ot.eq_1 (aI @Ou.eq_1 (aI @Ov.eq_1 (aI @Ow.eq_1 (aI @Ox.eq_1 (aI @Oy.eq_1 (aI @Oz.eq_1 (aI @OA.eq_1 (aI @OB.eq_1 (aI @OC.eq_1 (aI @OE.eq_1 (aI @OG.eq_1 (aI @OH.eq_1 (aI @OI.eq_1 (aI @OJ.eq_1 (aI @OK.eq_1 (aI @OL.eq_1 (aI @OM.eq_1 (aI @ON.eq_1 (aI @OO.eq_1 (aI @OP.eq_1 (aI @OQ.eq_1 (aI @OS.eq_1 (aI @OT.eq_1 (aI @OU.eq_1 (aI @OV.eq_1 (aI @OW.eq_1 (aI @OY.eq_1 (aI @OZ.eq_1 (aI @O0.eq_1 (aI @O1.eq_1 (aI @O4.eq_1 (aI @O5.eq_1 (aI @O6.eq_1 (aI @O7.eq_1 (aI @O8.eq_1 (aI @O9.eq_1 (aI @Ta.eq_1 (aI @Tb.eq_1 (aI @Tc.eq_1 (aI @Td.eq_1 (aI @Te.eq_1 (aI @Tf.eq_1 (aI @Tg.eq_1 (aI @Th.eq_1 (aI @Ti.eq_1 (aI @Tj.eq_1 (aI @Tl.eq_1 (aI @Tm.eq_1 (aI @Tn.eq_1 (aI @To.eq_1 (aI @Tp.eq_1 (aI @Tq.eq_1 (aI @Tr.eq_1 (aI @Ts.eq_1 (aI @Tt.eq_1 (aI @Tu.eq_1 (aI @Tv.eq_1 (aI @Tw.eq_1 (aI @Tx.eq_1 (aI @Ty.eq_1 (aI @Tz.eq_1 (aI @TA.eq_1 (aI @TB.eq_1 (aI @TC.eq_1 (aI @TF.eq_1 (aI @TG.eq_1 (aI @TH.eq_1 (aI @TI.eq_1 (aI @TJ.eq_1 (aI @TK.eq_1 (aI @TM.eq_1 (aI @TN.eq_1 (aI @TO.eq_1 (aI @TQ.eq_1 (aI @TR.eq_1 (aI @TS.eq_1 (aI @TT.eq_1 (aI @TU.eq_1 (aI @TV.eq_1 (aI @TW.eq_1 (aI @TY.eq_1 (aI @TZ.eq_1 (aI @T0.eq_1 (aI @T1.eq_1 (aI @T4.eq_1 (aI @T5.eq_1 (aI @T6.eq_1 (aI @T7.eq_1 (aI @T8.eq_1 (aI @T9.eq_1 (aI @La.eq_1 (aI @Lb.eq_1 (aI @Lc.eq_1 (aI @Ld.eq_1 (aI @Lf.eq_1 (aI @Lg.eq_1 (aI @Lh.eq_1 (aI @Li.eq_1 (aI @Lj.eq_1 (aI @Lk.eq_1 (aI @Ll.eq_1 @Lm.eq_1))))))))))))))))))))))))))))))))))))))))))))))))))))))))))))))))))))))))))))))))))))))))))))))))))))))))))))))))))))))))))))))))))))))))))))))))))))))))))))))))))))))))))))))))))))))))))))))))))))))))))))))))):=aI @nA (aI @oe.eq_1 (aI @oi.eq_1 (aI @oj.eq_1 (aI @ol.eq_1 (aI @ou.eq_1 (aI @ov.eq_1 (aI @ow.eq_1 (aI @oy.eq_1 (aI @oz.eq_1 (aI @oB.eq_1 (aI @oC.eq_1 (aI @oD.eq_1 (aI @oE.eq_1 (aI @oF.eq_1 (aI @oG.eq_1 (aI @oH.eq_1 (aI @oI.eq_1 (aI @oJ.eq_1 (aI @oK.eq_1 (aI @oL.eq_1 (aI @oM.eq_1 (aI @oQ.eq_1 (aI @oR.eq_1 (aI @oS.eq_1 (aI @oU.eq_1 (aI @oV.eq_1 (aI @oW.eq_1 (aI @oX.eq_1 (aI @oY.eq_1 (aI @oZ.eq_1 (aI @o0.eq_1 (aI @o3.eq_1 (aI @o4.eq_1 (aI @o5.eq_1 (aI @o6.eq_1 (aI @o7.eq_1 (aI @o8.eq_1 (aI @o9.eq_1 (aI @Ia.eq_1 (aI @Ib.eq_1 (aI @Ic.eq_1 (aI @Id.eq_1 (aI @Ie.eq_1 (aI @If.eq_1 (aI @Ig.eq_1 (aI @Ih.eq_1 (aI @Ii.eq_1 (aI @Ij.eq_1 (aI @Ik.eq_1 (aI @Il.eq_1 (aI @Im.eq_1 (aI @Io.eq_1 (aI @Ip.eq_1 (aI @Iq.eq_1 (aI @Ir.eq_1 (aI @Is.eq_1 (aI @Iu.eq_1 (aI @Iv.eq_1 (aI @Iw.eq_1 (aI @Ix.eq_1 (aI @Iy.eq_1 (aI @Iz.eq_1 (aI @IA.eq_1 (aI @IB.eq_1 (aI @ID.eq_1 (aI @IE.eq_1 (aI @IG.eq_1 (aI @IH.eq_1 (aI @II.eq_1 (aI @IJ.eq_1 (aI @IK.eq_1 (aI @IM.eq_1 (aI @IO.eq_1 (aI @IP.eq_1 (aI @IQ.eq_1 (aI @IR.eq_1 (aI @IT.eq_1 (aI @IU.eq_1 (aI @IV.eq_1 (aI @IW.eq_1 (aI @IX.eq_1 (aI @IY.eq_1 (aI @IZ.eq_1 (aI @I0.eq_1 (aI @I3.eq_1 (aI @I4.eq_1 (aI @I5.eq_1 (aI @I6.eq_1 (aI @I7.eq_1 (aI @I8.eq_1 (aI @I9.eq_1 (aI @Oa.eq_1 (aI @Ob.eq_1 (aI @Oe.eq_1 (aI @Og.eq_1 (aI @Oh.eq_1 (aI @Oi.eq_1 (aI @Oj.eq_1 (aI @Ok.eq_1 (aI @Ol.eq_1 (aI @Om.eq_1 (aI @On.eq_1 (aI @Oo.eq_1 (aI @Oq.eq_1 (aI @Or.eq_1 (aI @Os.eq_1 (aI @Ot.eq_1 (aI @Ou.eq_1 (aI @Ov.eq_1 (aI @Ow.eq_1 (aI @Ox.eq_1 (aI @Oy.eq_1 (aI @Oz.eq_1 (aI @OA.eq_1 (aI @OB.eq_1 (aI @OC.eq_1 (aI @OE.eq_1 (aI @OG.eq_1 (aI @OH.eq_1 (aI @OI.eq_1 (aI @OJ.eq_1 (aI @OK.eq_1 (aI @OL.eq_1 (aI @OM.eq_1 (aI @ON.eq_1 (aI @OO.eq_1 (aI @OP.eq_1 (aI @OQ.eq_1 (aI @OS.eq_1 (aI @OT.eq_1 (aI @OU.eq_1 (aI @OV.eq_1 (aI @OW.eq_1 (aI @OY.eq_1 (aI @OZ.eq_1 (aI @O0.eq_1 (aI @O1.eq_1 (aI @O4.eq_1 (aI @O5.eq_1 (aI @O6.eq_1 (aI @O7.eq_1 (aI @O8.eq_1 (aI @O9.eq_1 (aI @Ta.eq_1 (aI @Tb.eq_1 (aI @Tc.eq_1 (aI @Td.eq_1 (aI @Te.eq_1 (aI @Tf.eq_1 (aI @Tg.eq_1 (aI @Th.eq_1 (aI @Ti.eq_1 (aI @Tj.eq_1 (aI @Tl.eq_1 (aI @Tm.eq_1 (aI @Tn.eq_1 (aI @To.eq_1 (aI @Tp.eq_1 (aI @Tq.eq_1 (aI @Tr.eq_1 (aI @Ts.eq_1 (aI @Tt.eq_1 (aI @Tu.eq_1 (aI @Tv.eq_1 (aI @Tw.eq_1 (aI @Tx.eq_1 (aI @Ty.eq_1 (aI @Tz.eq_1 (aI @TA.eq_1 (aI @TB.eq_1 (aI @TC.eq_1 (aI @TF.eq_1 (aI @TG.eq_1 (aI @TH.eq_1 (aI @TI.eq_1 (aI @TJ.eq_1 (aI @TK.eq_1 (aI @TM.eq_1 (aI @TN.eq_1 (aI @TO.eq_1 (aI @TQ.eq_1 (aI @TR.eq_1 (aI @TS.eq_1 (aI @TT.eq_1 (aI @TU.eq_1 (aI @TV.eq_1 (aI @TW.eq_1 (aI @TY.eq_1 (aI @TZ.eq_1 (aI @T0.eq_1 (aI @T1.eq_1 (aI @T4.eq_1 (aI @T5.eq_1 (aI @T6.eq_1 (aI @T7.eq_1 (aI @T8.eq_1 (aI @T9.eq_1 (aI @La.eq_1 (aI @Lb.eq_1 (aI @Lc.eq_1 (aI @Ld.eq_1 (aI @Lf.eq_1 (aI @Lg.eq_1 (aI @Lh.eq_1 (aI @Li.eq_1 (aI @Lj.eq_1 (aI @Lk.eq_1 (aI @Ll.eq_1 @Lm.eq_1))))))))))))))))))))))))))))))))))))))))))))))))))))))))))))))))))))))))))))))))))))))))))))))))))))))))))))))))))))))))))))))))))))))))))))))))))))))))))))))))))))))))))))))))))))))))))))))))))))))))))))))))
theorem dzA {p:Prop}(h:p:=by first|assumption|decide|omega|(simp only[rzN,υ,ω];first|done|omega)|(apply Qf<;>first|omega|((simp(disch:=first|assumption|omega|(simp only[rzN,υ,ω];first|done|omega)) only[rzL,υ,ω,Qak,γ ])<;>first|done|omega))|(simp(disch:=first|assumption|omega|(simp only[rzN,υ,ω];first|done|omega)) only[rzG,ν,ξ,δ,QaL,υ,ω,Qag,Qal];first|done|omega|decide)):p:=h
theorem vJ {p:Prop}(h:p:=by first|assumption|decide|omega|(simp only[zz,rzN,υ,ω];first|done|omega)|(apply Qf<;>first|omega|((simp(disch:=first|assumption|omega|(simp only[zz,rzN,υ,ω];first|done|omega)) only[rzL,υ,ω,Qak,γ,zz ])<;>first|done|omega))|(simp(disch:=first|assumption|omega|(simp only[zz,rzN,υ,ω];first|done|omega)) only[zz,rzG,ν,ξ,δ,QaL,υ,ω,Qag,Qal];first|done|omega|decide)):p:=h
end Go.Sy
end
noncomputable section
namespace Go.Sy
open Go.Ev Go.Proofs
def jfv (f:FuncId):Nat:=if f∈[52,11,12,54,78,35,34,55,53,64,37,15,74,104,105,77,56,57,58,59,39,40,87,79,81,80,60,101,102,76,94,91,95,96,18,38,14,108,109,110,111,124,113,114,115,116,118,119,106,82,129,130,132,133,134,41,139,144,147,148,149,153,164,165,167,168,93,99,126,10,13,19,20,22,23,24,28,29,30,31,33,42,43,44,48,50,61,47,51] then 1
 else if f∈[66,72,73,86,88,89,90,100,120,121,122,123,128,145,146,84,85,112] then 3 else if f∈[36,97,131,125,92,127,98,152,46,63,25,32,16,17,26] then 5 else if f∈[103,75,45,27] then 2 else 0
def VA (f:FuncId):Bool:=!(Qcr f 9) && !(Qcr f 117) && !(Qcr f 49) && !(Qcr f 62)
structure NB (base:Bs):Prop where
 nob:∀ f,VA f=true->∀ args st,base.run f args st=.no
 purE:base.pur=jfv
theorem NB.pur {base:Bs}(h:NB base)(f m:Nat)(e:jfv f=m):base.pur f=m:=by rw[h.purE];exact e
theorem NB.no {base:Bs}(h:NB base)(f:FuncId)(e:VA f=true)(args:List AV)(st:St):base.run f args st=.no:=h.nob f e args st
theorem NB.at0 {base:Bs}(h:NB base)(f:FuncId)(e:VA f=true)(e2:jfv f=0)(args:List AV)(st:St):base.at0 f args st:=⟨h.nob f e args st,h.pur f 0 e2⟩
abbrev Ret (base:Bs)(f:FuncId)(xs:List AV)(o:Oc):Prop:=∀ st K Kp,XB ε base f xs st K Kp=YC o K Kp st
abbrev Tot (base:Bs)(f:FuncId)(xs:List AV)(v:AV):Prop:=∀ st K Kp,XB ε base f xs st K Kp=K v st
theorem NB.tot {base:Bs}(hb:NB base){f:FuncId}{xs:List AV}{v:AV}(h:PX ε base f xs (.ok v))(hp:xs.all pa=true)(e:VA f=true):Tot base f xs v:=λst K Kp=>h.xb hp (hb.no f e _) st K Kp
theorem NB.ret {base:Bs}(hb:NB base){f:FuncId}{xs:List AV}{o:Oc}(h:PX ε base f xs o)(hp:xs.all pa=true)(e:VA f=true):Ret base f xs o:=λst K Kp=>h.xb hp (hb.no f e _) st K Kp
inductive Ex where
 |mk (op num:Int) (name:List Nat) (kids:List Ex) (line col:Int)
def Ex.op:Ex->Int | .mk o _ _ _ _ _=>o
def Ex.num:Ex->Int | .mk _ n _ _ _ _=>n
def Ex.name:Ex->List Nat | .mk _ _ n _ _ _=>n
def Ex.kids:Ex->List Ex | .mk _ _ _ k _ _=>k
def Ex.line:Ex->Int | .mk _ _ _ _ l _=>l
def Ex.col:Ex->Int | .mk _ _ _ _ _ c=>c
theorem Ex.ind {p:Ex->Prop}(h:∀ op num name kids l c,(∀ k∈kids,p k)->p (.mk op num name kids l c)):∀ x,p x
 |.mk op num name kids l c=>h op num name kids l c (inds h kids)
where inds {p:Ex->Prop} (h:∀ op num name kids l c,(∀ k∈kids,p k)->p (.mk op num name kids l c)):∀ (xs:List Ex),∀ k∈xs,p k
 |[],k,hk=>by cases hk
 |x :: xs,k,hk=>by
  rcases QaS.1 hk with e|e
  ·exact e▸Ex.ind h x
  ·exact inds h xs k e
theorem Ex.indk {p:Ex->Prop}(h:∀ x:Ex,(∀ k∈x.kids,p k)->p x):∀ x,p x:=Ex.ind λop num name ks l c ih=>h (.mk op num name ks l c) ih
mutual
def eE:Ex->List AV
 |.mk op num name kids l c=>[.int .i64 op,.int .i64 num,.str name,.lst kids.length (eEs kids),.int .i64 l,.int .i64 c]
def eEs:List Ex->List AV
 |[]=>[]
 |x :: xs=>eE x ++ eEs xs
end
theorem jiS:∀ xs,eEs xs=fl eE xs
 |[]=>rfl
 |x :: xs=>by rw[XT,<-jiS xs];rfl
theorem qJ (x:Ex):eE x=[.int .i64 x.op,.int .i64 x.num,.str x.name,.lst x.kids.length (fl eE x.kids),.int .i64 x.line,.int .i64 x.col]:=by
 cases x;simp only[eE,jiS];rfl
theorem zK (x:Ex):(eE x).length=6:=by rw[qJ];rfl
theorem GN (x:Ex)(k:Nat):(eE x).getD k .bad=([.int .i64 x.op,.int .i64 x.num,.str x.name,.lst x.kids.length (fl eE x.kids),.int .i64 x.line,.int .i64 x.col]:List AV).getD k .bad:=by rw[qJ]
theorem jro (x:Ex)(k:Nat):(eE x).drop k=([.int .i64 x.op,.int .i64 x.num,.str x.name,.lst x.kids.length (fl eE x.kids),.int .i64 x.line,.int .i64 x.col]:List AV).drop k:=by rw[qJ]
theorem qZ (x:Ex):(eE x).all pc=true:=by rw[qJ];rfl
theorem jgc (x:Ex):lall AV.cell (eE x)=true:=by rw[qJ];rfl
theorem jcK {st:St}{K:AV->St->Prop}{xs:List Ex}{i:Nat}(h:i<xs.length):jp (zr 6 (.lptr (fl eE xs) (i * 6)) st) K=K (.agg (eE xs[i])) st:=J9 zK h
theorem jm3 {st:St}{K:AV->St->Prop}{xs:List Ex}{i:Nat}(h:i<xs.length){k:Nat}(hk:k<6):jp (q9 (.lptr (fl eE xs) (i * 6+k)) st) K=K ((eE xs[i]).getD k .bad) st:=ye zK h hk
theorem jm4 {st:St}{K:AV->St->Prop}{xs:List Ex}{i:Nat}(h:i<xs.length):jp (q9 (.lptr (fl eE xs) (i * 6)) st) K=K ((eE xs[i]).getD 0 .bad) st:=ye (k:=0) zK h dc
theorem je:type_of% (aI @zK (aI @GN (aI @jro (aI @jgc (aI @jcK (aI @jm4 @jm3)))))):=aI @zK (aI @GN (aI @jro (aI @jgc (aI @jcK (aI @jm4 @jm3)))))
theorem qS:type_of% (aI @zK (aI @jgc @GN)):=aI @zK (aI @jgc @GN)
theorem dzB {p:Prop}(h:p:=by first|assumption|decide|omega|(simp only[qS,rzN,υ,ω];first|done|omega)|(apply Qf<;>first|omega|((simp(disch:=first|assumption|omega|(simp only[qS,rzN,υ,ω];first|done|omega)) only[rzL,υ,ω,Qak,γ,qS ])<;>first|done|omega))|(simp(disch:=first|assumption|omega|(simp only[qS,rzN,υ,ω];first|done|omega)) only[qS,rzG,ν,ξ,δ,QaL,υ,ω,Qag,Qal];first|done|omega|decide)):p:=h
theorem jcL {p:Prop}(h:p:=by first|assumption|decide|omega|(simp only[qS,zz,rzN,υ,ω];first|done|omega)|(apply Qf<;>first|omega|((simp(disch:=first|assumption|omega|(simp only[qS,zz,rzN,υ,ω];first|done|omega)) only[rzL,υ,ω,Qak,γ,qS,zz ])<;>first|done|omega))|(simp(disch:=first|assumption|omega|(simp only[qS,zz,rzN,υ,ω];first|done|omega)) only[qS,zz,rzG,ν,ξ,δ,QaL,υ,ω,Qag,Qal];first|done|omega|decide)):p:=h
set_option maxRecDepth 100000
def z14:XC:=(ov [TT 1,I0 2] (OU [I0 3] (T6 [Tl 6 1,Oh 7 6,IP 8 7,I0 9] 0 10 9 8 10 0 1 [Ik 11 6 7 9,O9 12 11,Tz 5,TV 5 12] (.ops [oz 13 3,O9 14 5,Ox 15 12 14,ol 16 (.bi .max #[3,3] [13,15]),oy 3 16]) 17 9 9 17) [oz 18 3,TA 19 18 1,Tp 19]))
def y14:XF:=⟨[0],z14,[(.t 2)]⟩
theorem x14:jx ε 12=some y14:=by kernel_rfl
def z47:XC:=(Oe (T0 2 4) [OO 7 2,oH 8 7,OY 9,Iw 10 .eql 8 9] 10 [Ta 4] (OW (T6 [Tl 11 2,Oh 12 11,IP 13 12,I0 14] 0 15 14 13 15 0 1 [Ik 16 6 12 14,O9 17 16,Tz 6,TV 6 17] (Iy [O9 18 6,OY 19,T4 20 (oQ 15 []) [18,19]] 20 [Ta 4]) 21 14 14 21) Tu))
def y47:XF:=⟨[0,1],z47,[(.t 4)]⟩
theorem x47:jx ε 15=some y47:=by kernel_rfl
def jj7:XC:=(Oe [I0 2] [IY 3,Ib 4 .geq 3 1,TW 5,IZ 6 5 0,Td 7 5 .leq 6 4,I6 8 5 7 oW] 8 [I0 2] (T9 [IY 9,Ib 10 .geq 9 5,oz 11 10,IZ 12 11 0,Td 13 11 .leq 12 13,I6 14 11 13 oW] 14 [OZ 2 1] (OW (Iy [IY 15,Ib 16 .geq 15 14,oz 17 16,IZ 18 17 0,Td 19 17 .leq 18 30,I6 20 17 19 oW] 20 [OZ 2 2]) [OZ 2 (-(0+1))])))
def jpw:XF:=⟨[0],jj7,[(.t 2)]⟩
theorem jtR:jx ε 82=some jpw:=by kernel_rfl
def z52:XC:=(Oe [Ia 2 oJ] [IY 3,Ib 4 .lss 3 5,TW 5,IH 6 5 0,O6 7 5 .gtr 6 30,Lc 8 5 7] 8 [Ia 2 oJ] (o4 [TI 9 26 oJ [OT 0 45,OT 1 33,OT 2 88,OT 3 70,OT 4 71,OT 5 89,OT 6 90,OT 7 79,OT 8 72,OT 9 42,OT 10 43,OT 11 45,OT 12 61,Ou 13 [33,61],OT 14 60,Ou 15 [60,61],OT 16 62,Ou 17 [62,61],OT 18 85,OT 19 82,OT 20 83,OT 21 84,OT 22 38,OT 23 124,Ou 24 [45,62],Ou 25 [60,45,62]],IY 10,Ib 11 .sub 10 5,Li 12 9 11,oH 13 12,Tp 13]))
def y52:XF:=⟨[0],z52,[(.t 2)]⟩
theorem x52:jx ε 105=some y52:=by kernel_rfl
def z92:XC:=(oX (T0 1 2) (Or [IX 5 0 1,Ts 6 5 5 3,(TR 7 82 6 0 [],some [OP 7,o9 (Tl 8 1) 0,Ij (oH 9 8) 8 27 [(1,0)],o9 (I4 10 9) 0,o9 (Ia 11 Iq) 0]),IX 8 3 1,Om 9 8 8 27 [(1,0)],IO (I4 10 9),IO (Iw 11 .neq 7 10)] (Ti 11 Lj .skip)) (.seq (T6 [Tl 12 1,Oh 13 12,IP 14 13,I0 15] 0 16 15 14 16 0 1 [Ik 17 6 13 15,O9 18 17,Tz 4,TV 4 18] (Iy [O9 19 4,Ox 20 60 19,OV 21 20] 21 Lj) 22 15 15 22) (T9 [OO 23 1,oH 24 23,Ib 25 .neq 24 3,oz 26 25,Oy 27 26 2 1,Ow 28 26 27,Ig 29 26 (.strb .neq 28 (.c oJ)),I6 30 26 29 oW] 30 Lj (OW (T7 [OO 31 1,Oh 32 31] 2 (Te 34 32 1 33 34 33 [Tv 35 1,oH 36 35,ol 37 (O7 .geq 36),oz 38 37,Oy 39 38 1 1,Ow 40 38 39,Td 41 38 .leq 40 1000000,Tb 42 38 41,Tp 42] (Te 44 32 2 43 44 43 [Tv 45 1,oH 46 45,ol 47 (TJ 46),oz 48 47,Oo 49 48 1 1,Ov 50 48 49,O6 51 48 .eql 50 1,Tc 52 48 51,Tp 52] (Te 54 32 3 53 54 53 [Tv 55 1,oH 56 55,ol 57 (TJ 56),oz 58 57,Oy 59 58 2 1,Ow 60 58 59,Tm 61 (58,true) 58 [60],Tb 62 58 61,Tp 62] (Iy (IV 64 32 4 63 64) 63 [Ta 2]))))) [Tv 65 1,oH 66 65,ol 67 (TJ 66),Tp 67]))))
def y92:XF:=⟨[0],z92,[(.t 2)]⟩
theorem x92:jx ε 60=some y92:=by kernel_rfl
def z46:XC:=(OK (T0 1 2) [O9 3 1,Ox 4 12 3,Ib 5 .leq 4 60,Lb 6,Ig 7 6 (.ldA 6 1),Tm 8 (6,true) 60 [7],Tb 9 6 8,Tp 9])
def y46:XF:=⟨[0],z46,[(.t 2)]⟩
theorem x46:jx ε 37=some y46:=by kernel_rfl
def z12:XC:=(OK (T0 1 2) [O9 3 1,Ox 4 37 3,TW 5,Ig 6 5 (.ldA 6 1),Tm 7 (5,true) 15 [6,IR 4],Ig 8 5 (IA 7),Tb 9 5 8,Tp 9])
def y12:XF:=⟨[0],z12,[(.t 2)]⟩
theorem x12:jx ε 11=some y12:=by kernel_rfl
def z96:XC:=(OK Lj [IY 3,Ib 4 .geq 3 (-(999999+1)),TW 5,IZ 6 5 0,Td 7 5 .leq 6 1000000,Tb 8 5 7,Tp 8])
def y96:XF:=⟨[0],z96,[(.t 2)]⟩
theorem x96:jx ε 76=some y96:=by kernel_rfl
variable {base:Bs}
def JX (op:Int):Int:=if 1<=op/\op<=4 then 0 else if 5<=op/\op<=13 then 1 else if 14<=op/\op<=30 then 2 else -1
theorem r7:type_of%(aI @je @rzZ):=aI @je @rzZ
theorem jr0 (hb:NB base)(op:Int):Tot base 82 [.int .i64 op] (.int .i64 (JX op)):=by
 refine hb.tot ?_ rfl rfl;refine jE jtR (by rfl) (hb.pur 82 1 dc) ?_;simp only[jpw,jt,κ,μ,ν,ξ];rw[(by unfold jj7;simp only[qq];rfl:jj7=_)];repeat'(first|apply jc<;>intro _|simp(disch:=first|exact dzB|fail) only[r7,γ,δ,ζ,η,θ])
 all_goals(refine G0.v ?_ rfl;unfold JX;repeat' split)<;>first|rfl|(exfalso;omega)|(simp_all;done)|(simp;omega)|(simp_all;omega)
theorem jdS (hb:NB base)(n:Int):Tot base 76 [.int .i64 n] (.bool (decide (-1000000<=n) && decide (n<=1000000))):=by
 refine hb.tot ?_ rfl rfl;refine jE x96 (by rfl) (hb.pur 76 1 dc) ?_;simp only[y96,jt,κ,μ,ν,ξ];rw[(by unfold z96;simp only[qq];rfl:z96=_)];repeat'(first|apply jc<;>intro _|simp(disch:=first|exact dzB|fail) only[r7,γ,δ,ζ,η,θ])
 all_goals(refine G0.v ?_ rfl;repeat' split)<;>first|rfl|(exfalso;omega)|(simp_all;done)|(simp;omega)|(simp_all;omega)
mutual
def szE:Ex->Nat
 |.mk _ _ nm ks _ _=>yJ ks+nm.length+1
def yJ:List Ex->Nat
 |[]=>0
 |x :: xs=>szE x+yJ xs
end
mutual
def wN:Ex->Nat
 |.mk _ _ _ ks _ _=>yw ks+1
def yw:List Ex->Nat
 |[]=>0
 |x :: xs=>max (wN x) (yw xs)
end
mutual
def Kw:Ex->Nat
 |.mk _ _ _ ks _ _=>uT ks+1
def uT:List Ex->Nat
 |[]=>0
 |x :: xs=>Kw x+uT xs
end
mutual
def jfN (op:Int):Ex->Bool
 |.mk o _ _ ks _ _=>decide (o=op) ||XQ op ks
def XQ (op:Int):List Ex->Bool
 |[]=>false
 |x :: xs=>jfN op x ||XQ op xs
end
theorem X7 (x:Ex):szE x=yJ x.kids+x.name.length+1:=by cases x;rfl
theorem kZ (x:Ex):wN x=yw x.kids+1:=by cases x;rfl
theorem job (op:Int)(x:Ex):jfN op x=(decide (x.op=op) ||XQ op x.kids):=by cases x;rfl
theorem Xy:∀ {xs:List Ex} {k:Nat} (h:k<xs.length),szE xs[k]<=yJ xs
 |x :: xs,0,h=>by simp[yJ]
 |x :: xs,k+1,h=>by
  have:=Xy (xs:=xs) (k:=k) (by simpa using h);simp[yJ];omega
theorem Yz:∀ xs:List Ex,xs.length<=yJ xs
 |[]=>by simp
 |x :: xs=>by
  have:=Yz xs;have:=X7 x;simp[yJ];omega
theorem gI:∀ xs ys,yw (xs ++ ys)=max (yw xs) (yw ys)
 |[],ys=>by simp[yw]
 |x :: xs,ys=>by rw[Qag,yw,yw,gI,Nat.max_assoc]
theorem ue (op:Int):∀ xs ys,XQ op (xs ++ ys)=(XQ op xs ||XQ op ys)
 |[],ys=>by simp[XQ]
 |x :: xs,ys=>by rw[Qag,XQ,XQ,ue,Bool.or_assoc]
theorem yI {α:Type}{xs:List α}{k:Nat}(h:k<xs.length):xs.take (k+1)=xs.take k ++ [xs[k]]:=by rw[QbU,Qai h];rfl
mutual
theorem jlw:∀ x,wN x<=Kw x
 |.mk _ _ _ ks _ _=>by have:=Ud ks;simp only[wN,Kw];omega
theorem Ud:∀ xs,yw xs<=uT xs
 |[]=>τ _
 |x :: xs=>by have:=jlw x;have:=Ud xs;simp only[yw,uT];omega
end
mutual
theorem jkN:∀ x,Kw x<=szE x
 |.mk _ _ _ ks _ _=>by have:=Vp ks;simp only[szE,Kw];omega
theorem Vp:∀ xs,uT xs<=yJ xs
 |[]=>τ _
 |x :: xs=>by have:=jkN x;have:=Vp xs;simp only[yJ,uT];omega
end
def BIG:Nat:=1099511627776
theorem h12:type_of%(aI @φ (aI @χ (aI @z0 (aI @z1 (aI @jf (aI @jb (aI @and_true @true_and))))))):=aI @φ (aI @χ (aI @z0 (aI @z1 (aI @jf (aI @jb (aI @and_true @true_and))))))
theorem jr6 (hb:NB base):∀ x:Ex,szE x<=BIG->Tot base 12 [.agg (eE x)] (.int .i64 (wN x)):=by
 refine Ex.indk λx ih hx=>?_;refine hb.tot ?_ (by first|rfl|simp[pa,pc,qZ]) rfl;have hd:=kZ x;have hz:=X7 x;generalize hks:x.kids=ks at *;have hlen:=Yz ks;unfold BIG at *;have hle:=Ud ks;have hle2:=Vp ks;refine jE x14 (by rfl) (hb.pur 12 1 dc) ?_;simp only[y14,jt,κ,μ,ν,ξ];rw[(by unfold z14;simp only[qq];rfl:z14=_)];repeat'(first|apply jc<;>intro _|simp(disch:=first|exact dzB|fail) only[hks,r7,γ,δ,ζ,η,θ])
 refine jZ ks.length (λk L s=>Has L 3 (.int .i64 (yw (ks.take k):Nat))/\Has L 7 (.lst ks.length (fl eE ks))) (by first|assumption|omega) dc (by simp(disch:=decide) only[jf,jb]) (by simp(disch:=decide) only[jf,jb]) ?_ (λk L s v h=>by simp(disch:=decide) only[jb];exact h) (λk L s v h=>by simp(disch:=decide) only[jb];exact h) (λk L s hk hI hi hn=>?_) (λL s hI=>?_)
 ·simp(disch:=decide) only[h12,QaG,yw]
 ·obtain⟨i3,i7⟩:=hI;have hk2:=Xy hk;have e:=ih ks[k] (Qac hk) om;repeat'(first|apply jc<;>intro _|simp(disch:=first|exact dzB|fail) only[ja i3,ja i7,ja hi,ja hn,e,r7,γ,δ,ζ,η,θ])
  have e2:((yw (ks.take (k+1)):Nat):Int)=max (yw (ks.take k):Int) (wN ks[k]):=by rw[yI hk,gI];simp only[yw];omega
  simp(disch:=decide) only[h12,e2,i7,hi,hn]
 ·rw[Qaf] at hI;repeat'(first|apply jc<;>intro _|simp(disch:=first|exact dzB|fail) only[ja hI.1,ja hI.2,r7,γ,δ,ζ,η,θ])
  (refine G0.v ?_ rfl;repeat' split)<;>first|rfl|(exfalso;omega)|(simp_all;done)|(simp;omega)|(simp_all;omega)
theorem js3 (hb:NB base)(op:Int):∀ x:Ex,szE x<=BIG->Tot base 15 [.agg (eE x),.int .i64 op] (.bool (jfN op x)):=by
 refine Ex.indk λx ih hx=>?_;refine hb.tot ?_ (by first|rfl|simp[pa,pc,qZ]) rfl;have hd:=job op x;have hz:=X7 x;generalize hks:x.kids=ks at *;have hlen:=Yz ks;unfold BIG at *;refine jE x47 (by rfl) (hb.pur 15 1 dc) ?_;simp only[y47,jt,κ,μ,ν,ξ];rw[(by unfold z47;simp only[qq];rfl:z47=_)];repeat'(first|apply jc<;>intro _|simp(disch:=first|exact dzB|fail) only[hks,r7,γ,δ,ζ,η,θ])
 ·(refine G0.v ?_ rfl;repeat' split)<;>first|rfl|(exfalso;omega)|(simp_all;done)|(simp;omega)|(simp_all;omega)
 refine jZ ks.length (λk L s=>XQ op (ks.take k)=false/\Has L 1 (.int .i64 op)/\Has L 12 (.lst ks.length (fl eE ks))) (by first|assumption|omega) dc (by simp(disch:=decide) only[jf,jb]) (by simp(disch:=decide) only[jf,jb]) ?_ (λk L s v h=>by simp(disch:=decide) only[jb];exact h) (λk L s v h=>by simp(disch:=decide) only[jb];exact h) (λk L s hk hI hi hn=>?_) (λL s hI=>?_)
 ·simp(disch:=decide) only[h12,QaG,XQ]
 ·obtain⟨h0,i1,i12⟩:=hI;have hk2:=Xy hk;have e:=ih ks[k] (Qac hk) om;repeat'(first|apply jc<;>intro _|simp(disch:=first|exact dzB|fail) only[ja i1,ja i12,ja hi,ja hn,e,r7,γ,δ,ζ,η,θ])
  ·have e3:=ue op (ks.take (k+1)) (ks.drop (k+1));rw[Qbp,yI hk,ue] at e3;simp only[XQ] at e3
   (refine G0.v ?_ rfl;repeat' split)<;>first|rfl|(exfalso;omega)|(simp_all;done)|(simp;omega)|(simp_all;omega)
  ·simp(disch:=decide) only[h12,i1,i12,hi,hn];rw[yI hk,ue,h0];simp_all [XQ]
 ·rw[Qaf] at hI;repeat'(first|apply jc<;>intro _|simp(disch:=first|exact dzB|fail) only[ja hI.2.1,r7,γ,δ,ζ,η,θ])
  (refine G0.v ?_ rfl;repeat' split)<;>first|rfl|(exfalso;omega)|(simp_all;done)|(simp;omega)|(simp_all;omega)
def zV (c:Nat):Bool:=(decide (97<=c) && decide (c<=122)) ||(decide (65<=c) && decide (c<=90))
def qj (c:Nat):Bool:=decide (48<=c) && decide (c<=57)
def Jn (c:Nat):Bool:=zV c ||qj c ||decide (c=95)
def q8 (p:Nat->Bool):List Nat->Nat
 |[]=>0
 |c :: l=>if p c then q8 p l+1 else 0
theorem ZD (p:Nat->Bool):∀ l,q8 p l<=l.length
 |[]=>τ _
 |c :: l=>by simp only[q8,υ];have:=ZD p l;split<;>omega
theorem UV {p:Nat->Bool}:∀ {l:List Nat} {k:Nat},k<=l.length->(∀ j,j<k->p (l.getD j 0)=true)->(k=l.length\/p (l.getD k 0)=false)->q8 p l=k
 |[],k,h,_,_=>by simp at h;simp[q8,h]
 |c :: l,0,h,h1,h2=>by
  simp only[q8];rcases h2 with h2|h2
  ·simp at h2
  ·simp at h2;simp[h2]
 |c :: l,k+1,h,h1,h2=>by
  have h0:=h1 0 om;simp at h0;simp only[q8,h0,if_true];have:=UV (l:=l) (k:=k) (by simpa using h) (λj hj=>by simpa using h1 (j+1) om) (by simpa using h2);omega
def UW:List (List Nat):=[[101,110,117,109],[118,97,114],[98,111,111,108],[112,114,111,99,101,115,115],[119,104,101,110],[100,111],[116,114,117,101],[102,97,108,115,101],[88],[70],[71],[85],[82],[89],[90],[79],[72],[83],[84]]
def Gw (l:List Nat):Bool:=decide (l∈UW)
def begins (p l:List Nat):Bool:=decide (l.take p.length=p)
theorem gM {p l:List Nat}(h:l.length<p.length):begins p l=false:=by
 unfold begins;refine decide_eq_false λe=>?_;have:=congrArg List.length e;rw[Qat] at this;omega
def YP (c:Nat):Bool:=decide (c=32) ||decide (c=9) ||decide (c=10)
def KW (c:Nat):Bool:=decide (c≠10)
def Y1 (p:Nat×Nat)(x:Nat):Nat×Nat:=if x=10 then(p.1+1,1) else(p.1,p.2+1)
def qh (p:Nat×Nat)(l:List Nat):Nat×Nat:=l.foldl Y1 p
theorem Wm (l:List Nat):∀ p:Nat×Nat,1<=p.2->(qh p l).1<=p.1+l.length/\(qh p l).2<=p.2+l.length/\1<=(qh p l).2:=by
 induction l with
 |nil=>exact λp h=>⟨τ _,τ _,h⟩
 |cons x l ih=>
  intro p h;have hs:(Y1 p x).1<=p.1+1/\(Y1 p x).2<=p.2+1/\1<=(Y1 p x).2:=by
   unfold Y1;split<;>simp<;>omega
  have:=ih (Y1 p x) hs.2.2;show(qh (Y1 p x) l).1<=p.1+(l.length+1)/\(qh (Y1 p x) l).2<=p.2+(l.length+1)/\_;exact⟨om,om,this.2.2⟩
theorem GY (p:Nat×Nat)(l k:List Nat):qh p (l ++ k)=qh (qh p l) k:=Qbm ..
def gap (r:List Nat):Nat:=if q8 YP r=0/\begins [47,47] r=true then q8 KW r else q8 YP r
theorem gu (r:List Nat):gap r<=r.length:=by
 unfold gap;split
 ·exact ZD _ _
 ·exact ZD _ _
def qe (r:List Nat):Nat:=if h:gap r=0 then 0 else gap r+qe (r.drop (gap r))
termination_by r.length
decreasing_by
 rw[QaD];have:=gu r;omega
theorem jiu {r:List Nat}(h:gap r=0):qe r=0:=by rw[qe,dif_pos h]
theorem jit {r:List Nat}(h:gap r≠0):qe r=gap r+qe (r.drop (gap r)):=by rw[qe,dif_neg h]
theorem U2 (r:List Nat):qe r<=r.length:=by
 by_cases h:gap r=0
 ·rw[jiu h];exact Qae _
 ·have e:=gu r;have ih:=U2 (r.drop (gap r));rw[QaD] at ih;rw[jit h];omega
termination_by r.length
decreasing_by
 rw[QaD];have:=gu r;omega
def Y3:List (List Nat):=[[60,45,62],[46,46],[58,61],[33,61],[60,61],[62,61],[45,62],[123],[125],[40],[41],[58],[44],[59],[61],[60],[62],[43],[45],[42],[33],[38],[124]]
def Zd (r:List Nat):List (List Nat)->Nat
 |[]=>0
 |x :: xs=>if begins x r=true then x.length else Zd r xs
def UC (r:List Nat):Nat:=Zd r Y3
structure Tk where
 kind:Nat
 text:List Nat
 num:Nat
 line:Nat
 col:Nat
def Tk.cells (t:Tk):List AV:=[.int .i64 (t.kind:Int),.str t.text,.int .i64 (t.num:Int),.int .i64 (t.line:Int),.int .i64 (t.col:Int)]
def vi (s:List Nat):Nat:=s.foldl (λv c=>10 * v+(c - 48)) 0
def yY (r:List Nat)(p:Nat×Nat):Nat×Tk×Nat:=
 match r with
 |[]=>(0,⟨5,[],0,p.1,p.2⟩,0)
 |x :: r'=>
  if zV x=true then
   let n:=q8 Jn (x :: r')
   if 32<n then(132,⟨1,[],0,p.1,p.2⟩,0) else(0,⟨if Gw ((x :: r').take n)=true then 4 else 1,(x :: r').take n,0,p.1,p.2⟩,n)
  else if qj x=true then
   let n:=q8 qj (x :: r')
   if 7<n\/1000000<vi ((x :: r').take n) then(132,⟨2,[],0,p.1,p.2⟩,0) else(0,⟨2,(x :: r').take n,vi ((x :: r').take n),p.1,p.2⟩,n)
  else
   let n:=UC (x :: r')
   if n=0 then(131,⟨3,[],0,p.1,p.2⟩,0) else(0,⟨3,(x :: r').take n,0,p.1,p.2⟩,n)
def Wc (s:List Nat):Prop:=s≠[]/\∀ c∈s,qj c=true
theorem jch (p:Nat->Bool):∀ l:List Nat,∀ c∈l.take (q8 p l),p c=true
 |[],c,h=>by simp at h
 |y :: l,c,h=>by
  simp only[q8] at h;by_cases hy:p y=true
  ·rw[if_pos hy,Qcj] at h;rcases QaS.1 h with h|h
   ·rw[h];exact hy
   ·exact jch p l c h
  ·rw[if_neg hy] at h;simp at h
theorem jdq {x:Nat}{r:List Nat}(h:qj x=true):Wc ((x :: r).take (q8 qj (x :: r))):=by
 refine⟨?_,jch qj _⟩;have:q8 qj (x :: r)=q8 qj r+1:=by simp only[q8,if_pos h]
 rw[this,Qcj];simp
theorem jkA (s:List Nat):∀ v,(∀ c∈s,qj c=true)->s.foldl (λv c=>10 * v+(c - 48)) v+1<=(v+1) * 10 ^ s.length:=by
 induction s with
 |nil=>exact λv _=>by simp
 |cons c s ih=>
  intro v h;have hc:=h c (by simp);have hc9:c - 48<=9:=by
   unfold qj at hc;simp at hc;omega
  have:=ih (10 * v+(c - 48)) λd hd=>h d (by simp[hd]);refine Qab this ?_;rw[υ,Nat.pow_succ,<-Nat.mul_assoc,Nat.mul_right_comm];exact Qaz _ om
theorem jns {s:List Nat}{n:Nat}(hn:s.length=n)(h7:n<=7)(h:∀ c∈s,qj c=true):vi s<=99999999:=by
 have:=jkA s 0 h;have e:10 ^ s.length<=10 ^ 7:=Nat.pow_le_pow_right dc om;have e7:10 ^ 7=10000000:=dc
 unfold vi;omega
theorem HQ (r:List Nat):∀ xs,Zd r xs<=r.length
 |[]=>Qae _
 |y :: xs=>by
  show(if begins y r=true then y.length else Zd r xs)<=r.length;by_cases h:begins y r=true
  ·rw[if_pos h];rcases Qau r.length y.length with h2|h2
   ·rw[gM h2] at h;exact absurd h dc
   ·exact h2
  ·rw[if_neg h];exact HQ r xs
theorem jbL (r:List Nat):UC r<=r.length:=HQ r _
theorem kT {r:List Nat}{p:Nat×Nat}{e n:Nat}{t:Tk}(h:yY r p=(e,t,n)):n<=r.length:=by
 cases r with
 |nil=>simp[yY] at h;omega
 |cons x r'=>
  unfold yY at h;simp only at h;have h1:=ZD Jn (x :: r');have h2:=ZD qj (x :: r');have h3:=jbL (x :: r');split at h
  ·split at h<;>simp only[Prod.mk.injEq] at h<;>omega
  ·split at h
   ·split at h<;>simp only[Prod.mk.injEq] at h<;>omega
   ·split at h<;>simp only[Prod.mk.injEq] at h<;>omega
theorem jci {p:Nat->Bool}{x:Nat}{r:List Nat}(h:p x=true):0<q8 p (x :: r):=by
 simp only[q8,if_pos h];omega
theorem KX {r:List Nat}{p:Nat×Nat}{t:Tk}{n:Nat}(h:yY r p=(0,t,n)):(t.kind=5↔n=0)/\(n=0↔r=[]):=by
 cases r with
 |nil=>simp[yY] at h;obtain⟨h1,h2⟩:=h;subst h1 h2;simp
 |cons x r'=>
  unfold yY at h;simp only at h;split at h
  ·rename_i hL;have hp:=jci (p:=Jn) (r:=r') (show Jn x=true by unfold Jn;rw[hL];rfl);split at h
   ·simp at h
   ·simp only[Prod.mk.injEq] at h;obtain⟨_,h1,h2⟩:=h;subst h1 h2;refine⟨?_,?_⟩
    ·show((if _ then 4 else 1)=5↔_);split<;>constructor<;>intro h<;>omega
    ·constructor
     ·intro h;omega
     ·intro h;simp at h
  ·split at h
   ·rename_i hD;have hp:=jci (p:=qj) (r:=r') hD;split at h
    ·simp at h
    ·simp only[Prod.mk.injEq] at h;obtain⟨_,h1,h2⟩:=h;subst h1 h2;refine⟨?_,?_⟩
     ·show(2=5↔_);constructor<;>intro h<;>omega
     ·constructor
      ·intro h;omega
      ·intro h;simp at h
   ·split at h
    ·simp at h
    ·rename_i hz;simp only[Prod.mk.injEq] at h;obtain⟨_,h1,h2⟩:=h;subst h1 h2;refine⟨?_,?_⟩
     ·show(3=5↔_);constructor<;>intro h<;>omega
     ·constructor
      ·intro h;exact absurd h hz
      ·intro h;simp at h
def JN (r:List Nat)(p:Nat×Nat):List Tk×(Nat×Nat×Nat):=
 match h:yY (r.drop (qe r)) (qh p (r.take (qe r))) with
 |(e,t,n)=>
  if e≠0 then([],(e,t.line,t.col))
  else if hn:n=0 then([t],(0,0,0))
  else
   let q:=JN ((r.drop (qe r)).drop n) (qh (qh p (r.take (qe r))) ((r.drop (qe r)).take n))
   if q.2.1≠0 then([],q.2) else(t :: q.1,q.2)
termination_by r.length
decreasing_by
 have h1:=kT h;have h2:=U2 r;rw[QaD] at h1;rw[QaD,QaD];omega
theorem w9 (r:List Nat)(p:Nat×Nat){e n:Nat}{t:Tk}(h:yY (r.drop (qe r)) (qh p (r.take (qe r)))=(e,t,n)):JN r p=if e≠0 then([],(e,t.line,t.col)) else if n=0 then([t],(0,0,0)) else if(JN ((r.drop (qe r)).drop n) (qh (qh p (r.take (qe r))) ((r.drop (qe r)).take n))).2.1≠0 then([],(JN ((r.drop (qe r)).drop n) (qh (qh p (r.take (qe r))) ((r.drop (qe r)).take n))).2) else(t :: (JN ((r.drop (qe r)).drop n) (qh (qh p (r.take (qe r))) ((r.drop (qe r)).take n))).1,(JN ((r.drop (qe r)).drop n) (qh (qh p (r.take (qe r))) ((r.drop (qe r)).take n))).2):=by
 rw[JN];split
 rename_i e' t' n' h';rw[h] at h';simp only[Prod.mk.injEq] at h';obtain⟨rfl,rfl,rfl⟩:=h';split
 ·rfl
 ·split<;>rfl
def ahead (acc:List Tk)(q:List Tk×(Nat×Nat×Nat)):List Tk×(Nat×Nat×Nat):=if q.2.1≠0 then([],q.2) else(acc ++ q.1,q.2)
def qr (l:List Nat):List Tk×(Nat×Nat×Nat):=if 65536<l.length then([],(132,1,1)) else JN l (1,1)
theorem ji9 (r:List Nat)(p:Nat×Nat):ahead [] (JN r p)=JN r p:=by
 unfold ahead;generalize hx:yY (r.drop (qe r)) (qh p (r.take (qe r)))=x;obtain⟨e,t,n⟩:=x;rw[w9 r p hx];by_cases he:e≠0
 ·rw[if_pos he];simp[he]
 ·rw[if_neg he];by_cases hn:n=0
  ·rw[if_pos hn];simp
  ·rw[if_neg hn];generalize JN _ _=q;by_cases hq:q.2.1≠0
   ·rw[if_pos hq];simp[hq]
   ·rw[if_neg hq];show(if q.2.1≠0 then _ else _)=_;rw[if_neg hq];rfl
theorem jja {acc:List Tk}{r:List Nat}{p:Nat×Nat}{e n:Nat}{t:Tk}(h:yY (r.drop (qe r)) (qh p (r.take (qe r)))=(e,t,n))(he:e≠0):ahead acc (JN r p)=([],(e,t.line,t.col)):=by
 rw[w9 r p h,if_pos he];unfold ahead;rw[if_pos he]
theorem jjb {acc:List Tk}{r:List Nat}{p:Nat×Nat}{t:Tk}(h:yY (r.drop (qe r)) (qh p (r.take (qe r)))=(0,t,0)):ahead acc (JN r p)=(acc ++ [t],(0,0,0)):=by
 rw[w9 r p h,if_neg dc,if_pos rfl];rfl
theorem jgt {acc:List Tk}{r:List Nat}{p:Nat×Nat}{n:Nat}{t:Tk}(h:yY (r.drop (qe r)) (qh p (r.take (qe r)))=(0,t,n))(hn:n≠0):ahead acc (JN r p)=ahead (acc ++ [t]) (JN ((r.drop (qe r)).drop n) (qh (qh p (r.take (qe r))) ((r.drop (qe r)).take n))):=by
 rw[w9 r p h,if_neg dc,if_neg hn];generalize JN _ _=q;unfold ahead;by_cases hq:q.2.1≠0
 ·rw[if_pos hq,if_pos hq];simp[hq]
 ·rw[if_neg hq,if_neg hq];show _=(if q.2.1≠0 then _ else _);rw[if_neg hq];simp
def jke:XC:=(OK Lj [IY 3,IW 4 .leq (.c (TC 97)) 3,TW 5,IZ 6 5 0,Ig 7 5 (oI .leq 6 (TC 122)),Tb 8 5 7,oz 9 8,IH 10 9 0,If 11 9 (.bin .leq (.c (TC 65)) 10),IH 12 9 11,IZ 13 12 0,Ig 14 12 (oI .leq 13 (TC 90)),Lk 15 9 12 14 oW,Tc 16 9 15,Tp 16])
def jpD:XF:=⟨[0],jke,[(.t 2)]⟩
theorem jtY:jx ε 113=some jpD:=by kernel_rfl
def jkb:XC:=(OK Lj [IY 3,IW 4 .leq (.c (TC 48)) 3,TW 5,IZ 6 5 0,Ig 7 5 (oI .leq 6 (TC 57)),Tb 8 5 7,Tp 8])
def jpA:XF:=⟨[0],jkb,[(.t 2)]⟩
theorem jtV:jx ε 116=some jpA:=by kernel_rfl
def jkd:XC:=(OK Lj [IY 3,Ox 4 113 3,TW 5,IH 6 5 0,Lg 7 5 116 [6],Tc 8 5 7,oz 9 8,IH 10 9 0,If 11 9 (oI .eql 10 (TC 95)),Tc 12 9 11,Tp 12])
def jpC:XF:=⟨[0],jkd,[(.t 2)]⟩
theorem jtX:jx ε 114=some jpC:=by kernel_rfl
def jkc:XC:=(OU Lj (T7 [oy 3 0] 0 (.seq (O4 (Lm 5 3 [101,110,117,109] 4 5) 4 (O4 (Lm 6 3 [118,97,114] 4 6) 4 (O4 (Lm 7 3 [98,111,111,108] 4 7) 4 (O4 (Lm 8 3 [112,114,111,99,101,115,115] 4 8) 4 (O4 (Lm 9 3 [119,104,101,110] 4 9) 4 (O4 (Lm 10 3 [100,111] 4 10) 4 (O4 (Lm 11 3 [116,114,117,101] 4 11) 4 (O4 (Lm 12 3 [102,97,108,115,101] 4 12) 4 (O4 (Lm 13 3 [88] 4 13) 4 (O4 (Lm 14 3 [70] 4 14) 4 (O4 (Lm 15 3 [71] 4 15) 4 (O4 (Lm 16 3 [85] 4 16) 4 (O4 (Lm 17 3 [82] 4 17) 4 (O4 (Lm 18 3 [89] 4 18) 4 (O4 (Lm 19 3 [90] 4 19) 4 (O4 (Lm 20 3 [79] 4 20) 4 (O4 (Lm 21 3 [72] 4 21) 4 (O4 (Lm 22 3 [83] 4 22) 4 (.ops (Lm 23 3 [84] 4 23)))))))))))))))))))) (Ti 4 [Ta 2] .skip))) Lj)
def jpB:XF:=⟨[0],jkc,[(.t 2)]⟩
theorem jtW:jx ε 115=some jpB:=by kernel_rfl
def jki:XC:=(OK Lj [IY 3,ol 4 (oI .eql 3 (TC 32)),TW 5,IH 6 5 0,If 7 5 (oI .eql 6 (TC 9)),Tc 8 5 7,oz 9 8,IH 10 9 0,If 11 9 (oI .eql 10 (TC 10)),Tc 12 9 11,Tp 12])
def jpH:XF:=⟨[0],jki,[(.t 2)]⟩
theorem jt2:jx ε 109=some jpH:=by kernel_rfl
def jkg:XC:=(OK Lj [IY 3,ol 4 (oI .neq 3 (TC 10)),Tp 4])
def jpF:XF:=⟨[0],jkg,[(.t 2)]⟩
theorem jt0:jx ε 111=some jpF:=by kernel_rfl
def jkj:XC:=(OU [I0 4] (T6 [IY 6,ow 7 (.lenS 6),I0 8] 0 9 8 7 9 0 1 (Tf 10 8 5 10) (Iy [OY 11,IY 12,Lb 13,ol 14 (.ixStr 12 13),oS 15 none 11 [14],OV 16 15] 16 (Tf 17 5 4 17)) 18 8 8 18) [IY 19,ol 20 (.lenS 19),TK 20])
def jpI:XF:=⟨[0,1],jkj,[(.t 4)]⟩
theorem jt3:jx ε 108=some jpI:=by kernel_rfl
def jjZ:XC:=(OK Tu [IY 5,ol 6 (.lenS 5),OY 7,ol 8 (.lenS 7),IW 9 .geq 6 8,oz 10 9,IZ 11 10 0,IZ 12 10 1,Ig 13 10 (.lenS 12),Ig 14 10 (.slStr 11 none (some 13)),IZ 15 10 1,Ig 16 10 (.strb .eql 14 15),Tb 17 10 16,TK 17])
def jpn:XF:=⟨[0,1],jjZ,[(.t 4)]⟩
theorem jtI:jx ε 139=some jpn:=by kernel_rfl
def jkh:XC:=(OK Tu [IY 5,OY 6,OA 7 139 5 6,TK 7])
def jpG:XF:=⟨[0,1],jkh,[(.t 4)]⟩
theorem jt1:jx ε 110=some jpG:=by kernel_rfl
def jjX:XC:=(OK (Th 3) [oH 4 1,IY 5,OA 6 110 4 5,oy 3 6])
def jpl:XF:=⟨[0,1],jjX,[(.t 3)]⟩
theorem jtG:jx ε 143=some jpl:=by kernel_rfl
def jjY:XC:=(OU [I0 4] (T6 [IY 6,IP 7 6,I0 8] 0 9 8 7 9 0 1 (Tf 10 8 5 10) (Iy [OY 11,IY 12,Lb 13,Li 14 12 13,oH 15 14,T4 16 11 [15]] 16 (Tf 17 5 4 17)) 18 8 8 18) [OZ 4 (-(0+1))])
def jpm:XF:=⟨[0,1],jjY,[(.t 4)]⟩
theorem jtH:jx ε 142=some jpm:=by kernel_rfl
def jka:XC:=(O8 [TT 1,I0 2] [Iv 5 [oJ,oJ,oJ,oJ,oJ,oJ,oJ,oJ,oJ,oJ,oJ,oJ,oJ,oJ,oJ,oJ,oJ,oJ,oJ,oJ,oJ,oJ,oJ] [Ou 0 [60,45,62],Ou 1 [46,46],Ou 2 [58,61],Ou 3 [33,61],Ou 4 [60,61],Ou 5 [62,61],Ou 6 [45,62],OT 7 123,OT 8 125,OT 9 40,OT 10 41,OT 11 58,OT 12 44,OT 13 59,OT 14 61,OT 15 60,OT 16 62,OT 17 43,OT 18 45,OT 19 42,OT 20 33,OT 21 38,OT 22 124],o8 3 [oJ,oJ,oJ,oJ,oJ,oJ,oJ,oJ,oJ,oJ,oJ,oJ,oJ,oJ,oJ,oJ,oJ,oJ,oJ,oJ,oJ,oJ,oJ],o5 23 3 5] (Oe [ol 6 (.slA 23 1 3 none none),ol 7 (.fn 143 [1]),OA 8 142 6 7,TK 8] [TW 9,ow 10 (O7 .lss 9)] 10 [I0 2] (o4 [TW 11,OL 12 23 1 3 11,oH 13 12,ol 14 (.lenS 13),Tp 14])))
def jpz:XF:=⟨[0],jka,[(.t 2)]⟩
theorem jtU:jx ε 118=some jpz:=by kernel_rfl
def jkf:XC:=(.seq (TN [La 6,IE (IQ 7 6),IE (OO 8 7),OQ 9 8,La 10,IE (IQ 11 10),IE (Tv 12 11),OQ 13 12,La 14,IE (IQ 15 14),IE (Tv 16 15),OQ 17 16,IE (OY 18),IE (IW 19 .add 17 18),IE (ol 20 (.slStr 9 (some 13) (some 19))),IE (ow 21 (.conv 9 125 20)),IE (IP 22 21),IE (I0 23)] (Id 0 (Oa (Tn 24 23 22) 24 0 1 (O8 [Li 25 21 23,oH 26 25,oy 5 26] [IY 27,IQ 28 27,Tl 29 28,oH 30 29,TA 31 30 1,IQ 32 27,Tl 33 32,o5 1 33 31] (Oz [Lb 34,ow 35 (oI .eql 34 (TC 10))] 35 [IY 36,IY 37,IY 38,IQ 39 38,Ld 40 39,oH 41 40,TA 42 41 1,IQ 43 36,Ld 44 43,o5 1 44 42,IQ 45 37,Tl 46 45,o5 1 46 Tg])) 47 23 1 23 47))) (.ops [IY 48,IQ 49 48,Tv 50 49,oH 51 50,OY 52,IW 53 .add 51 52,IQ 54 48,Tv 55 54,o5 1 55 53]))
def jpE:XF:=⟨[0,1],jkf,[]⟩
theorem jtZ:jx ε 112=some jpE:=by kernel_rfl
def z74:XC:=(Id 0 (.block 1 (TN [La 4,IE (IQ 5 4),IE (OO 6 5),OQ 7 6,La 8,IE (IQ 9 8),IE (Tv 10 9),OQ 11 10,IE (ol 12 (.slStr 7 (some 11) none)),IE (Tp 12)] (oX [oz 13 2,OA 14 108 13 (oQ 109 []),oy 3 14] (Oz [oz 15 3,ol 16 (TJ 15),oz 17 16,IZ 18 17 2,Tm 19 (17,true) 110 [18,o7 [47,47]],I6 20 17 19 oW] 20 [oz 21 2,OA 22 108 21 (oQ 111 []),oy 3 22]) (.seq (Ic [oz 23 3,ow 24 (TJ 23)] 24 .ret) (.ops [IY 25,oz 26 3,OA 27 112 25 26]))))))
def y74:XF:=⟨[0],z74,[]⟩
theorem x74:jx ε 84=some y74:=by kernel_rfl
def z75:XC:=(oX [o8 2 [oB,oJ,oB,oB,oB],I0 3] (.cops [La 9,IE (IQ 10 9),IE (OO 11 10),OQ 12 11,La 13,IE (IQ 14 13),IE (Tv 15 14),OQ 16 15,IE (ol 17 (.slStr 12 (some 16) none)),IE (TK 17)]) (TN [La 18,IE (IQ 19 18),IE (Ld 20 19),OQ 21 20,La 22,IE (IQ 23 22),IE (Tl 24 23),OQ 25 24,IE (Iv 26 [oB,oJ,oB,oB,oB] [((0,1),IR 5),((3,1),21),((4,1),25)]),IE (o8 5 [oB,oJ,oB,oB,oB]),IE (o5 5 5 26)] (oX [I0 6] (.block 0 (oK [TW 34,Tr 35 34 (.c oJ),oy 33 35] 33 (o4 [oU 36 5 5,o5 5 2 36,I0 3]) (oK [TW 38,ol 39 (.ixStr 38 OM),Ox 40 113 39,oy 37 40] 37 (Oe [TW 41,OA 42 108 41 (oQ 114 []),oy 6 42,OO 43 5,o5 1 43 Tg] [TY 44,O1 45 .gtr 44 32] 45 [oU 46 5 5,o5 5 2 46,OZ 3 132] (Oz [TW 47,TY 48,ol 49 (.slStr 47 none (some 48)),T4 50 (oQ 115 []) [49]] 50 [OO 51 5,o5 1 51 (IR 4)])) (oK [TW 53,ol 54 (.ixStr 53 OM),Ox 55 116 54,oy 52 55] 52 (ov [TW 56,OA 57 108 56 (oQ 116 []),oy 6 57,OO 58 5,o5 1 58 (IR 2)] (Oe [TW 60,TY 61,ol 62 (.slStr 60 none (some 61)),Ip 63 117 [62,IR 10,IR 64],oz 59 63,Tw 64 59,Tx 65 59,oy 7 64,oy 8 65] [TY 66,Ib 67 .gtr 66 7,oz 68 67,IH 69 68 8,If 70 68 (.gen .neq 191 true 69 (.c .nilif)),Tc 71 68 70,oz 72 71,IH 73 72 7,O6 74 72 .gtr 73 1000000,Lc 75 72 74] 75 [oU 76 5 5,o5 5 2 76,OZ 3 132] (.ops [oz 77 7,Ld 78 5,o5 1 78 77]))) (ov [TW 27,Ox 28 118 27,oy 6 28,OO 29 5,o5 1 29 (IR 3)] (Iy [TY 30,ow 31 (TJ 30)] 31 [oU 32 5 5,o5 5 2 32,OZ 3 131])))))) (ov [TW 79,TY 80,ol 81 (.slStr 79 none (some 80)),Tv 82 5,o5 1 82 81] (OK [IY 83,TY 84,OA 85 112 83 84] [oU 86 5 5,o5 5 2 86,I0 3])))))
def y75:XF:=⟨[0],z75,[(.cA 2 5),(.t 3)]⟩
theorem x75:jx ε 85=some y75:=by kernel_rfl
def z35:XC:=(Oe [O5 2,o8 3 [oB,oB,oB]] [IY 8,ol 9 (.lenS 8),O1 10 .gtr 9 65536] 10 [Iv 11 [oB,oB,oB] [((0,1),IR 132),((1,1),Tg),((2,1),Tg)],O5 2,o5 3 3 11] (ov [IY 12,Iv 13 [oJ,oB,oB,oB] [((0,1),12),((2,1),Tg),((3,1),Tg)],ol 14 (.box 13),TK 14] (IU [O5 5] 0 (.block 1 (ov [TW 15,Ox 16 84 15] (oX [TW 18,Ox 19 85 18,oz 17 19,Tw 20 17,Tx 21 17,o8 6 [oB,oJ,oB,oB,oB],o5 5 6 20,oy 7 21] (Ic [oz 22 7,ow 23 (O7 .neq 22)] 23 (TN [TB 24 7,IE (Tl 25 6),OQ 26 25,IE (oE 27 4 6),OQ 28 27,IE (Iv 29 [oB,oB,oB] [((0,1),24),((1,1),26),((2,1),28)]),IE (O5 2),IE (o5 3 3 29)] .ret)) (ov [Lb 30,oU 31 5 6,Is 32 1 5 [oB,oJ,oB,oB,oB] [((0,5),31)],Oq 33 5 48 30 32,oy 5 33] (Iy [OO 34 6,oH 35 34,O1 36 .eql 35 5] 36 [Lb 37,Iv 38 [oB,oB,oB] [],Tp 37,o5 3 3 38]))))))))
def y35:XF:=⟨[0],z35,[(.t 2),(.cA 3 3)]⟩
theorem x35:jx ε 64=some y35:=by kernel_rfl
theorem kU (hb:NB base)(c:Nat):Tot base 113 [.int .u8 (c:Int)] (.bool (zV c)):=by
 refine hb.tot ?_ rfl rfl;refine jE jtY (by rfl) (hb.pur 113 1 dc) ?_;simp only[jpD,jt,κ,μ,ν,ξ];rw[(by unfold jke;simp only[qq];rfl:jke=_)];repeat'(first|apply jc<;>intro _|simp(disch:=first|exact dzA|fail) only[rzZ,γ,δ,ζ,η,θ])
 all_goals(refine G0.v (congrArg AV.bool ?_) rfl;rw[QaA];simp only[zV,QaE,Qaa,decide_eq_true_eq,QaP,Qbz,QaO,decide_eq_false_iff_not,true_iff,false_iff,iff_true,iff_false,not_true_eq_false,not_false_eq_true,ne_eq,eq_self]<;>omega)
theorem jeA (hb:NB base)(c:Nat):Tot base 116 [.int .u8 (c:Int)] (.bool (qj c)):=by
 refine hb.tot ?_ rfl rfl;refine jE jtV (by rfl) (hb.pur 116 1 dc) ?_;simp only[jpA,jt,κ,μ,ν,ξ];rw[(by unfold jkb;simp only[qq];rfl:jkb=_)];repeat'(first|apply jc<;>intro _|simp(disch:=first|exact dzA|fail) only[rzZ,γ,δ,ζ,η,θ])
 all_goals(refine G0.v (congrArg AV.bool ?_) rfl;rw[QaA];simp only[qj,QaE,Qaa,decide_eq_true_eq,QaP,Qbz,QaO,decide_eq_false_iff_not,true_iff,false_iff,iff_true,iff_false,not_true_eq_false,not_false_eq_true,ne_eq,eq_self]<;>omega)
theorem jeh (hb:NB base)(c:Nat):Tot base 114 [.int .u8 (c:Int)] (.bool (Jn c)):=by
 refine hb.tot ?_ rfl rfl;refine jE jtX (by rfl) (hb.pur 114 1 dc) ?_;simp only[jpC,jt,κ,μ,ν,ξ];rw[(by unfold jkd;simp only[qq];rfl:jkd=_)];repeat'(first|apply jc<;>intro _|simp(disch:=first|exact dzA|fail) only[kU hb,jeA hb,rzZ,γ,δ,ζ,η,θ])
 all_goals(refine G0.v (congrArg AV.bool ?_) rfl;unfold Jn;simp_all;try omega)
theorem jon (hb:NB base)(c:Nat):Tot base 109 [.int .u8 (c:Int)] (.bool (YP c)):=by
 refine hb.tot ?_ rfl rfl;refine jE jt2 (by rfl) (hb.pur 109 1 dc) ?_;simp only[jpH,jt,κ,μ,ν,ξ];rw[(by unfold jki;simp only[qq];rfl:jki=_)];repeat'(first|apply jc<;>intro _|simp(disch:=first|exact dzA|fail) only[rzZ,γ,δ,ζ,η,θ])
 all_goals(refine G0.v (congrArg AV.bool ?_) rfl;rw[QaA];simp only[YP,QaE,Qaa,decide_eq_true_eq,QaP,Qbz,QaO,decide_eq_false_iff_not,true_iff,false_iff,iff_true,iff_false,not_true_eq_false,not_false_eq_true,ne_eq,eq_self]<;>omega)
theorem jk3 (hb:NB base)(c:Nat):Tot base 111 [.int .u8 (c:Int)] (.bool (KW c)):=by
 refine hb.tot ?_ rfl rfl;refine jE jt0 (by rfl) (hb.pur 111 1 dc) ?_;simp only[jpF,jt,κ,μ,ν,ξ];rw[(by unfold jkg;simp only[qq];rfl:jkg=_)];repeat'(first|apply jc<;>intro _|simp(disch:=first|exact dzA|fail) only[rzZ,γ,δ,ζ,η,θ])
 all_goals(refine G0.v (congrArg AV.bool ?_) rfl;rw[QaA];simp only[KW,QaE,Qaa,decide_eq_true_eq,QaP,Qbz,QaO,decide_eq_false_iff_not,true_iff,false_iff,iff_true,iff_false,not_true_eq_false,not_false_eq_true,ne_eq,eq_self]<;>omega)
theorem jji (hb:NB base)(l:List Nat):Tot base 115 [.str l] (.bool (Gw l)):=by
 refine hb.tot ?_ rfl rfl;refine jE jtW (by rfl) (hb.pur 115 1 dc) ?_;simp only[jpB,jt,κ,μ,ν,ξ];rw[(by unfold jkc;simp only[qq];rfl:jkc=_)];repeat'(first|apply jc<;>intro _|simp(disch:=first|exact dzA|fail) only[rzZ,γ,δ,ζ,η,θ])
 all_goals(refine G0.v ?_ rfl;unfold Gw UW;simp[*])
def Pt (base:Bs)(f:FuncId)(p:Nat->Bool):Prop:=∀ c:Nat,Tot base f [.int .u8 (c:Int)] (.bool (p c))
theorem KB (hb:NB base)(l:List Nat)(hl:l.length<=4611686018427387904){f:FuncId}{p:Nat->Bool}(hf:Pt base f p):Tot base 108 [.str l,.fn f []] (.int .i64 (q8 p l)):=by
 refine hb.tot ?_ rfl rfl;refine jE jt3 (by rfl) (hb.pur 108 1 dc) ?_;simp only[jpI,jt,κ,μ,ν,ξ];rw[(by unfold jkj;simp only[qq];rfl:jkj=_)];repeat'(first|apply jc<;>intro _|simp(disch:=first|exact dzA|fail) only[rzZ,γ,δ,ζ,η,θ])
 refine jZ l.length (λk L s=>(∀ j,j<k->p (l.getD j 0)=true)/\Has L 0 (.str l)/\Has L 1 (.fn f [])) (by first|assumption|omega) dc (by simp(disch:=decide) only[jf,jb]) (by simp(disch:=decide) only[jf,jb]) ?_ (λk L s v h=>by simp(disch:=decide) only[jb];exact h) (λk L s v h=>by simp(disch:=decide) only[jb];exact h) (λk L s hk hI hi hn=>?_) (λL s hI=>?_)
 ·refine⟨λj hj=>absurd hj (Qaw _),?_⟩;simp(disch:=decide) only[h12]
 ·obtain⟨h0,i0,i1⟩:=hI;repeat'(first|apply jc<;>intro _|simp(disch:=first|exact dzA|fail) only[ja i0,ja i1,ja hi,hf (l.getD k 0),rzZ,γ,δ,ζ,η,θ])
  ·exact G0.v (by rw[UV (QbK hk) h0 (.inr ‹_›)]) rfl
  ·refine⟨⟨λj hj=>?_,?_⟩,?_⟩
   ·rcases Qau j k with h|h
    ·exact h0 j h
    ·rw[show j=k by omega];simpa using ‹¬ p (l.getD k 0)=false›
   ·simp(disch:=decide) only[h12,i0,i1]
   ·simp(disch:=decide) only[h12,hi,hn]
 ·obtain⟨h0,i0,i1⟩:=hI;repeat'(first|apply jc<;>intro _|simp(disch:=first|exact dzA|fail) only[ja i0,rzZ,γ,δ,ζ,η,θ])
  exact G0.v (by rw[UV (τ _) h0 (.inl rfl)]) rfl
theorem jr4 (hb:NB base)(l q:List Nat)(hl:l.length<=4611686018427387904):Tot base 139 [.str l,.str q] (.bool (begins q l)):=by
 refine hb.tot ?_ rfl rfl;refine jE jtI (by rfl) (hb.pur 139 1 dc) ?_;simp only[jpn,jt,κ,μ,ν,ξ];rw[(by unfold jjZ;simp only[qq];rfl:jjZ=_)];repeat'(first|apply jc<;>intro _|simp(disch:=first|exact dzA|fail) only[rzZ,γ,δ,ζ,η,θ])
 ·exact G0.v rfl rfl
 ·exact G0.v (by rw[gM om]) rfl
theorem kC (hb:NB base)(l q:List Nat)(hl:l.length<=4611686018427387904):Tot base 110 [.str l,.str q] (.bool (begins q l)):=by
 refine hb.tot ?_ rfl rfl;refine jE jt1 (by rfl) (hb.pur 110 1 dc) ?_;simp only[jpG,jt,κ,μ,ν,ξ];rw[(by unfold jkh;simp only[qq];rfl:jkh=_)];repeat'(first|apply jc<;>intro _|simp(disch:=first|exact dzA|fail) only[jr4 hb l q hl,rzZ,γ,δ,ζ,η,θ])
 exact G0.v rfl rfl
theorem Cl.bar {s:St}{b:Nat}{cs:List AV}(h:Cl s b cs):Cl s.bare b cs:=⟨h.lt,h.row,h.len,h.cell⟩
theorem jhq (hb:NB base)(r x:List Nat)(hr:r.length<=4611686018427387904){st:St}{b:Nat}(C:Cl st b [.str r])(K Kp:AV->St->Prop):XB ε base 143 [.str x,.ptr b 0] st K Kp=K (.bool (begins x r)) st:=by
 refine je8 (λK Kp hK=>?_) K Kp;refine Jf jtG (by rfl) (hb.at0 143 dc dc _ _) ?_;simp only[jpl,jt,κ,μ,ν,ξ];rw[(by unfold jjX;simp only[qq];rfl:jjX=_)];have C:=C.bar;have hbk:bk st st.bare=st:=rfl;have hbc:back st st.bare=st:=rfl;have hbb:st.bare.bare=st.bare:=rfl;generalize st.bare=s0 at *
 (have zz:=C.r;(repeat'(first|apply jc<;>intro _|simp(disch:=first|exact vJ|fail) only[kC hb r x hr,hbk,hbc,hbb,C.q,C.r,rzZ,γ,δ,ζ,η,θ]));all_goals clear zz)
 exact hK
theorem joC (hb:NB base){xs:List (List Nat)}(hn:xs.length<=1000000)(f:FuncId)(caps:List AV)(q:List Nat->Bool){st:St}{b c:Nat}{x:Bool}(C:Cl st b (xs.map .str))
  (hq:∀ y K Kp,XB ε base f (.str y :: caps) st.bare K Kp=K (.bool (q y)) st.bare) (K Kp:AV->St->Prop):XB ε base 142 [.slice b 0 xs.length c 1 x,.fn f caps] st K Kp=K (.int .i64 (fi q xs)) st:=by
 refine je8 (λK Kp hK=>?_) K Kp;refine Jf jtH (by rfl) (hb.at0 142 dc dc _ _) ?_;simp only[jpm,jt,κ,μ,ν,ξ];rw[(by unfold jjY;simp only[qq];rfl:jjY=_)];have C:=C.bar;have hbk:bk st st.bare=st:=rfl;have hbc:back st st.bare=st:=rfl;have hbb:st.bare.bare=st.bare:=rfl;generalize st.bare=s0 at *;have hl:(xs.map AV.str).length=xs.length:=Qap ..;repeat'(first|apply jc<;>intro _|simp(disch:=first|exact dzA|fail) only[rzZ,γ,δ,ζ,η,θ])
 refine jZ xs.length (λk L s=>s=s0/\(∀ j (h1:j<xs.length),j<k->q xs[j]=false)/\Has L 0 (.slice b 0 xs.length c 1 x)/\Has L 1 (.fn f caps)) (by first|assumption|omega) dc (by simp(disch:=decide) only[jf,jb]) (by simp(disch:=decide) only[jf,jb]) ?_ (λk L s v h=>by simp(disch:=decide) only[jb];exact h) (λk L s v h=>by simp(disch:=decide) only[jb];exact h) (λk L s hk hI hi hn=>?_) (λL s hI=>?_)
 ·refine⟨rfl,λj _ hj=>absurd hj (Qaw _),?_⟩;simp(disch:=decide) only[h12]
 ·obtain⟨rfl,h0,i0,i1⟩:=hI;have e:(xs.map AV.str).getD k .bad=.str xs[k]:=by simp[Qad,hk]
  (have zz:=C.r;(repeat'(first|apply jc<;>intro _|simp(disch:=first|exact vJ|fail) only[ja i0,ja i1,ja hi,hq,hl,e,hbk,hbc,hbb,C.q,C.r,rzZ,γ,δ,ζ,η,θ]));all_goals clear zz)
  ·rw[ui hk (λj hj=>h0 j om hj) ‹_›] at hK;exact hK
  ·refine⟨⟨λj h1 hj=>?_,?_⟩,?_⟩
   ·rcases Qau j k with h|h
    ·exact h0 j h1 h
    ·have:j=k:=om
     subst this;simpa using ‹¬ q xs[j]=true›
   ·simp(disch:=decide) only[h12,i0,i1]
   ·simp(disch:=decide) only[h12,hi,hn]
 ·obtain⟨rfl,h0,i0,i1⟩:=hI;repeat'(first|apply jc<;>intro _|simp(disch:=first|exact dzA|fail) only[hbk,hbc,hbb,rzZ,γ,δ,ζ,η,θ])
  rw[uh λj hj=>h0 j hj hj] at hK;exact hK
theorem HR (r:List Nat):∀ xs:List (List Nat),(fi (λx=>begins x r) xs<0/\Zd r xs=0)\/∃ k,∃ h:k<xs.length,fi (λx=>begins x r) xs=k/\Zd r xs=xs[k].length
 |[]=>.inl ⟨by show(-1:Int)<0;decide,rfl⟩
 |y :: xs=>by
  by_cases h:begins y r=true
  ·exact .inr ⟨0,by simp,by simp[fi,h],by simp[Zd,h]⟩
  ·rcases HR r xs with ⟨h1,h2⟩|⟨k,hk,h1,h2⟩
   ·exact .inl ⟨by simp[fi,h,h1],by simp[Zd,h,h2]⟩
   ·exact .inr ⟨k+1,by simpa using hk,by simp[fi,h,h1];omega,by simp[Zd,h,h2]⟩
theorem jkO {k:Nat}(h:k<Y3.length):(Y3.map AV.str).getD k .bad=.str Y3[k]:=by simp[Qad,h]
theorem jqs (hb:NB base)(r:List Nat)(hr:r.length<=4611686018427387904):Tot base 118 [.str r] (.int .i64 (UC r)):=by
 refine hb.tot ?_ rfl rfl;refine jE jtU (by rfl) (hb.pur 118 1 dc) ?_;simp only[jpz,jt,κ,μ,ν,ξ];rw[(by unfold jka;simp only[qq];rfl:jka=_)];repeat'(first|apply jc<;>intro _|simp(disch:=first|exact dzA|fail) only[rzZ,γ,δ,ζ,η,θ])
 refine XB.gen λu hu=>?_;have C0:Cl u 0 [.str r]:=by rw[hu];exact((Cl.new st0 [.str r]).nw _).wrO dc _ _
 have C1:Cl u 1 (Y3.map .str):=by rw[hu];exact(Cl.new (nw st0 _) _).wr0 rfl
 clear hu;rw[show(23:Nat)=Y3.length from rfl,joC hb (xs:=Y3) dc 143 [.ptr 0 0] (λx=>begins x r) C1 λy K Kp=>jhq hb r y hr C0.bar K Kp];unfold UC;rcases HR r Y3 with ⟨h1,h2⟩|⟨k,hk,h1,h2⟩
 ·repeat'(first|apply jc<;>intro _|simp(disch:=first|exact dzA|fail) only[rzZ,γ,δ,ζ,η,θ])
  exact G0.v (by rw[h2];rfl) rfl
 ·have hk':k<23:=hk;have e:=jkO hk;have e2:qv u.h 1=23:=C1.len;have e3:rat u.h 1 k=.str Y3[k]:=(C1.cell k (by rw[Qap];exact hk)).trans e;repeat'(first|apply jc<;>intro _|simp(disch:=first|exact dzA|fail) only[h1,e2,e3,rzZ,γ,δ,ζ,η,θ])
  refine G0.v ?_ rfl;rw[h2]<;>rfl
def cC (l:List Nat)(a:Nat)(p:Nat×Nat):List AV:=[.str l,.int .i64 (a:Int),.int .i64 (p.1:Int),.int .i64 (p.2:Int)]
theorem u9:Tryz.prog.underlying 9=some .string:=by kernel_rfl
theorem juc:Tryz.prog.underlying 125=some (.slice 5):=by kernel_rfl
theorem u5:Tryz.prog.underlying 5=some (.int .u8):=by kernel_rfl
theorem jhp (hb:NB base){l:List Nat}{a n:Nat}{p:Nat×Nat}(hn:a+n<=l.length)(hl:l.length<=1073741824)(h1:p.1<=1073741824)(h2:p.2<=1073741824)(hc:1<=p.2) :
  Met ε base 112 (cC l a p) [.int .i64 (n:Int)] (.ok (.tup [])) (cC l (a+n) (qh p ((l.drop a).take n))):=by
 refine PM.met ?_ rfl λp st=>hb.no 112 dc _ _;refine qc jtZ (by rfl) (hb.pur 112 3 dc) rfl ?_;simp only[jpE,jt,κ,μ,ν,ξ];rw[(by unfold jkf;simp only[qq];rfl:jkf=_)];have hbs:((l.drop a).take n).length=n:=by rw[Qat,QaD];omega
 have e1:((a:Int)+(n:Int) - (a:Int)).toNat=n:=om
 unfold cC at *;repeat'(first|apply jc<;>intro _|simp(disch:=first|exact dzA|fail) only[jou u9 juc u5,e1,hbs,rzZ,γ,δ,ζ,η,θ])
 generalize (l.drop a).take n=bs at *;refine jZ n (λk L s=>Cl s 0 (cC l a (qh p (bs.take k)))/\Cl s 1 (bs.map λ(c:Nat)=>.int .u8 (c:Int))/\Has L 0 (.ptr 0 0)/\Has L 1 (.int .i64 (n:Int))/\Has L 21 (.slice 1 0 n n 1 false)) (by first|assumption|omega) dc (by simp(disch:=decide) only[jf,jb]) (by simp(disch:=decide) only[jf,jb]) ?_ (λk L s v h=>by simp(disch:=decide) only[jb];exact h) (λk L s v h=>by simp(disch:=decide) only[jb];exact h) (λk L s hk hI hi hn=>?_) (λL s hI=>?_)
 ·refine⟨(Cl.new st0 (cC l a p)).nw _,Cl.new (nw st0 _) _,?_⟩;simp(disch:=decide) only[h12]
 ·obtain⟨C0,C1,i0,i1,i21⟩:=hI;have hk':k<bs.length:=om
  have e2:rat s.h 1 k=.int .u8 ((bs[k]:Nat):Int):=(C1.cell k (by rw[Qap];exact hk')).trans (by simp[Qad,hk']);have e3:qv s.h 1=n:=by rw[C1.len,Qap];exact hbs
  have hw:=Wm (bs.take k) p hc;have e4:qh p (bs.take (k+1))=Y1 (qh p (bs.take k)) bs[k]:=by rw[yI hk',GY];rfl
  rw[Qat] at hw;generalize qh p (bs.take k)=q at *;rw[e4];have L0:=C0.lt;have L1:=C1.lt;unfold cC at *
  (have zz:=C0.r;(repeat'(first|apply jc<;>intro _|simp(disch:=first|exact vJ|fail) only[ja i0,ja i1,ja i21,ja hi,e2,e3,C0.q,C0.r,rzZ,γ,δ,ζ,η,θ]));all_goals clear zz)
  ·refine⟨⟨?_,?_,?_⟩,?_⟩
   ·have e5:bs[k]=10:=om
    rw[show Y1 q bs[k]=(q.1+1,1) from if_pos e5]
    (apply Cl.cv;(· (repeat'(first|exact C0|apply Cl.wr|apply Cl.nw)));(· (simp only[Zs,YX,YY,ZI,ZH,κ]<;>first|rfl|(simp;done)|(simp;omega))))
   ·simp(disch:=first|assumption|decide|omega|(simp only[ji,jo,jr,ju,jq,ym,υ,ω];first|done|omega)) only[jB,jD,jz];exact C1
   ·simp(disch:=decide) only[h12,i0,i1,i21]
   ·simp(disch:=decide) only[h12,hi,hn]
  ·refine⟨⟨?_,?_,?_⟩,?_⟩
   ·have e5:¬ bs[k]=10:=om
    rw[show Y1 q bs[k]=(q.1,q.2+1) from if_neg e5]
    (apply Cl.cv;(· (repeat'(first|exact C0|apply Cl.wr|apply Cl.nw)));(· (simp only[Zs,YX,YY,ZI,ZH,κ]<;>first|rfl|(simp;done)|(simp;omega))))
   ·simp(disch:=first|assumption|decide|omega|(simp only[ji,jo,jr,ju,jq,ym,υ,ω];first|done|omega)) only[jB,jD,jz];exact C1
   ·simp(disch:=decide) only[h12,i0,i1,i21]
   ·simp(disch:=decide) only[h12,hi,hn]
 ·obtain⟨C0,C1,i0,i1,i21⟩:=hI;rw[<-hbs,Qaf] at C0;have L0:=C0.lt;unfold cC at *
  (have zz:=C0.r;(repeat'(first|apply jc<;>intro _|simp(disch:=first|exact vJ|fail) only[ja i0,ja i1,C0.q,C0.r,rzZ,γ,δ,ζ,η,θ]));all_goals clear zz)
  refine G1.done ?_ rfl rfl FzD.u;simp(disch:=first|assumption|decide|omega|(simp only[ji,jo,jr,ju,jq,ym,υ,ω];first|done|omega)) only[jB,jD,jz]
  (apply Cl.cv;(· (repeat'(first|exact C0|apply Cl.wr|apply Cl.nw)));(· (simp only[Zs,YX,YY,ZI,ZH,κ]<;>first|rfl|(simp;done)|(simp;omega))))
theorem jlA (hb:NB base){l:List Nat}{a:Nat}{p:Nat×Nat}(ha:a<=l.length)(hl:l.length<=1048576)(hp1:p.1+(l.length - a)<=1073741824)(hp2:1<=p.2)(hp3:p.2+(l.length - a)<=1073741824) :
  Met ε base 84 (cC l a p) [] (.ok (.tup [])) (cC l (a+qe (l.drop a)) (qh p ((l.drop a).take (qe (l.drop a))))):=by
 refine PM.met ?_ rfl λp st=>hb.no 84 dc _ _;refine qc x74 (by rfl) (hb.pur 84 3 dc) rfl ?_;simp only[y74,jt,κ,μ,ν,ξ];rw[(by unfold z74;simp only[qq];rfl:z74=_)];rw[Ut];refine zu (λmm L s=>∃ d:Nat,a+d<=l.length/\mm=l.length - (a+d)/\Cl s 0 (cC l (a+d) (qh p ((l.drop a).take d)))/\qe (l.drop a)=d+qe (l.drop (a+d))/\Has L 0 (.ptr 0 0)) ?_ (l.length - a) ?_
 ·rintro mm L s ⟨d,hd,rfl,C,hg,i0⟩;have W:=Wm ((l.drop a).take d) p hp2;have hlt:((l.drop a).take d).length=d:=by rw[Qat,QaD];omega
  rw[hlt] at W;have hrl:(l.drop (a+d)).length=l.length - (a+d):=QaD;have hgap:gap (l.drop (a+d))=if q8 YP (l.drop (a+d))=0/\begins [47,47] (l.drop (a+d))=true then q8 KW (l.drop (a+d)) else q8 YP (l.drop (a+d)):=rfl
  have hgl:=gu (l.drop (a+d));have hwalk:qh (qh p ((l.drop a).take d)) ((l.drop (a+d)).take (gap (l.drop (a+d))))=qh p ((l.drop a).take (d+gap (l.drop (a+d)))):=by
   rw[<-GY,List.take_add,Qbr]
  have hg1:=λ(h:gap (l.drop (a+d))≠0)=>jit h;have hg0:=λ(h:gap (l.drop (a+d))=0)=>jiu h;have hdrop:(l.drop (a+d)).drop (gap (l.drop (a+d)))=l.drop (a+(d+gap (l.drop (a+d)))):=by rw[Qbr,Qbl]
  have S:=@jhp base hb l (a+d) (gap (l.drop (a+d))) (qh p ((l.drop a).take d)) om om om om om;have S1:=λK Kp=>S C K Kp;have L0:=C.lt;rw[hwalk] at S1;have R1:=KB hb (l.drop (a+d)) om (jon hb);have R2:=KB hb (l.drop (a+d)) om (jk3 hb);have R3:=kC hb (l.drop (a+d)) [47,47] om;have fin:gap (l.drop (a+d))=0->G1 4 (cC l (a+qe (l.drop a)) (qh p ((l.drop a).take (qe (l.drop a))))) (.tup []) (.tup []) s.bare:=λh=>by
   rw[hg,hg0 h,Qbq];exact G1.done (jz.symm▸C) rfl rfl FzD.u
  have go:gap (l.drop (a+d))≠0->∀ L,Has L 0 (.ptr 0 0)->∃ k',k'<l.length - (a+d)/\∃ d2:Nat,a+d2<=l.length/\k'=l.length - (a+d2)/\Cl (wr s 0 0 (cC l (a+d+gap (l.drop (a+d))) (qh p ((l.drop a).take (d+gap (l.drop (a+d))))))) 0 (cC l (a+d2) (qh p ((l.drop a).take d2)))/\qe (l.drop a)=d2+qe (l.drop (a+d2))/\Has L 0 (.ptr 0 0):=λh L i=>by
   refine⟨l.length - (a+(d+gap (l.drop (a+d)))),om,d+gap (l.drop (a+d)),om,rfl,?_,by rw[hg,hg1 h,hdrop,Qbl],i⟩;rw[Qbl];exact C.wr0 rfl
  generalize hJ:(λ(L:Sl) (st':St)=>∃ k',k'<l.length - (a+d)/\∃ d2:Nat,a+d2<=l.length/\k'=l.length - (a+d2)/\Cl st' 0 (cC l (a+d2) (qh p ((l.drop a).take d2)))/\qe (l.drop a)=d2+qe (l.drop (a+d2))/\Has L 0 (.ptr 0 0))=J at *;have go2:gap (l.drop (a+d))≠0->∀ L,Has L 0 (.ptr 0 0)->J L (wr s 0 0 (cC l (a+d+gap (l.drop (a+d))) (qh p ((l.drop a).take (d+gap (l.drop (a+d))))))):=λh L i=>by rw[<-hJ];exact go h L i
  clear go;unfold cC at *;by_cases h1:q8 YP (l.drop (a+d))=0
  ·cases h2:begins [47,47] (l.drop (a+d)) with
   |true=>
    rw[if_pos ⟨h1,h2⟩] at hgap;rw[<-hgap] at R2;by_cases hz:gap (l.drop (a+d))=0
    ·(have zz:=C.r;(repeat'(first|apply jc<;>intro _|simp(disch:=first|exact vJ|fail) only[ja i0,R1,R2,R3,h1,h2,hz,C.q,C.r,rzZ,γ,δ,ζ,η,θ]));all_goals clear zz)
     exact fin hz
    ·(have zz:=C.r;(repeat'(first|apply jc<;>intro _|simp(disch:=first|exact vJ|fail) only[ja i0,R1,R2,R3,S1,h1,h2,hz,C.q,C.r,rzZ,γ,δ,ζ,η,θ]));all_goals clear zz)
     exact go2 hz _ (by simp(disch:=decide) only[h12,i0])
   |false=>
    have hz:gap (l.drop (a+d))=0:=by rw[hgap,if_neg (λh=>by rw[h2] at h;exact absurd h.2 dc)];exact h1
    (have zz:=C.r;(repeat'(first|apply jc<;>intro _|simp(disch:=first|exact vJ|fail) only[ja i0,R1,R2,R3,h1,h2,C.q,C.r,rzZ,γ,δ,ζ,η,θ]));all_goals clear zz)
    exact fin hz
  ·have hz:gap (l.drop (a+d))=q8 YP (l.drop (a+d)):=by rw[hgap,if_neg (λh=>h1 h.1)]
   rw[<-hz] at h1 R1
   (have zz:=C.r;(repeat'(first|apply jc<;>intro _|simp(disch:=first|exact vJ|fail) only[ja i0,R1,R2,R3,S1,h1,C.q,C.r,rzZ,γ,δ,ζ,η,θ]));all_goals clear zz)
   exact go2 h1 _ (by simp(disch:=decide) only[h12,i0])
 ·refine⟨0,om,rfl,?_,by rw[Qak,Qbq],?_⟩
  ·exact Cl.new st0 (cC l a p)
  ·simp(disch:=decide) only[h12]
def PI (base:Bs):Prop:=∀ (s:List Nat) (st:St),Wc s->s.length<=281474976710656->(s.length<=7->base.run 117 [.str s,.int .i64 10,.int .i64 64] st=.ok (.tup [.int .i64 (vi s:Int),.nilif]) st)/\(7<s.length->base.run 117 [.str s,.int .i64 10,.int .i64 64] st=.ok (.tup [.bad,.bad]) st)
theorem jqL (s:St)(K:AV->St->Prop):jp (QO ε .neq 191 true .nilif .nilif s) K=K (.bool false) s:=by
 have:QO ε .neq 191 true .nilif .nilif s=.ok (.bool false) s:=by kernel_rfl
 rw[this];rfl
theorem FzD.nx {s:St}{t:Tk}{e e':Int}{cs:List AV}(h1:cs=t.cells)(h2:e'=e):FzD 1 9 s (.tup [.agg cs,.int .i64 e']) (.tup [.agg t.cells,.int .i64 e]):=by
 subst h1 h2;exact FzD.tup (.cons (.agg (.pc rfl)) (.pc rfl))
theorem jqK (hb:NB base)(hP:PI base){l:List Nat}{a e n:Nat}{t:Tk}{p:Nat×Nat}(ha:a<=l.length)(hl:l.length<=1048576)(hp1:p.1<=1073741824)(hp2:p.2<=1073741824)(hp3:1<=p.2)(h:yY (l.drop a) p=(e,t,n)) :
  Met ε base 85 (cC l a p) [] (.ok (.tup [.agg t.cells,.int .i64 (e:Int)])) (cC l (a+n) (qh p ((l.drop a).take n))):=by
 refine PM.met ?_ rfl λp st=>hb.no 85 dc _ _;refine qc x75 (by rfl) (hb.pur 85 3 dc) rfl ?_;simp only[y75,jt,κ,μ,ν,ξ];rw[(by unfold z75;simp only[qq];rfl:z75=_)];have hrl:(l.drop a).length=l.length - a:=QaD;have S:=λ(n:Nat) (h:a+n<=l.length)=>@jhp base hb l a n p h om hp1 hp2 hp3;have C0:Cl (nw st0 (cC l a p)) 0 (cC l a p):=Cl.new st0 _;unfold cC at *;generalize hr:l.drop a=r at *;have hL:=kU hb;have hD:=jeA hb;have hI:=jeh hb;have hR:=KB hb r om hI;have hR2:=KB hb r om hD;have hK:=jji hb;have hS:=jqs hb r om;have l1:=ZD Jn r;have l2:=ZD qj r;have l3:=jbL r;have S1:=λst q=>@S (q8 Jn r) om st q;have S2:=λst q=>@S (q8 qj r) om st q;have S3:=λst q=>@S (UC r) om st q;clear S;rcases r with _|⟨x,r'⟩
 ·simp only[yY,Prod.mk.injEq] at h;repeat'(first|apply jc<;>intro _|simp(disch:=first|exact dzA|fail) only[hr,rzZ,γ,δ,ζ,η,θ])
  obtain⟨rfl,rfl,rfl⟩:=h;refine G1.done (c':=[_,_,_,_]) ?_ rfl rfl (FzD.tup (.cons (.agg (.pc rfl)) (.pc rfl)));simp(disch:=first|assumption|decide|omega|(simp only[ji,jo,jr,ju,jq,ym,υ,ω];first|done|omega)) only[jB,jD,jz];exact C0
 ·have e0:x :: r'≠[]:=by simp
  have e1:(0:Int)<((x :: r').length:Int):=by simp
  have P0:qj x=true->Wc ((x :: r').take (q8 qj (x :: r'))):=λh=>jdq h;have P1:qj x=true->q8 qj (x :: r')<=7->∀ st K Kp,XB ε base 117 [.str ((x :: r').take (q8 qj (x :: r'))),.int .i64 10,.int .i64 64] st K Kp=K (.tup [.int .i64 (vi ((x :: r').take (q8 qj (x :: r'))):Int),.nilif]) st:=λh h7 st K Kp=>by
   have e:((x :: r').take (q8 qj (x :: r'))).length<=7:=by rw[Qat];omega
   exact Ur ((hP _ st (P0 h) om).1 e) K Kp
  have P2:qj x=true->7<q8 qj (x :: r')->∀ st K Kp,XB ε base 117 [.str ((x :: r').take (q8 qj (x :: r'))),.int .i64 10,.int .i64 64] st K Kp=K (.tup [.bad,.bad]) st:=λh h7 st K Kp=>by
   have e:((x :: r').take (q8 qj (x :: r'))).length=q8 qj (x :: r'):=by rw[Qat];omega
   exact Ur ((hP _ st (P0 h) om).2 om) K Kp
  unfold yY at h;simp only at h;generalize q8 Jn (x :: r')=n1 at *;generalize q8 qj (x :: r')=n2 at *;generalize UC (x :: r')=n3 at *;by_cases c1:zV x=true
  ·rw[if_pos c1] at h
   (have zz:=aI @jB (aI @jD @C0);(repeat'(first|apply jc<;>intro _|simp(disch:=first|exact vJ|fail) only[hr,e0,e1,hL,hR,hK,S1,jB,jD,c1,jB,jD,C0,rzZ,γ,δ,ζ,η,θ]));all_goals clear zz)
   all_goals((first|rw[if_pos om] at h|rw[if_neg om] at h);(first|rw[if_pos (by assumption)] at h|rw[if_neg (by assumption)] at h|skip);simp only[Prod.mk.injEq] at h;obtain⟨rfl,rfl,rfl⟩:=h;refine G1.done (c':=[_,_,_,_]) ?_ rfl rfl (FzD.nx rfl rfl);simp(disch:=first|assumption|decide|omega|(simp only[ji,jo,jr,ju,jq,ym,υ,ω];first|done|omega)) only[jB,jD,jz];first|exact C0|(refine Cl.wr0 (c:=[.str l,.int .i64 (a:Int),.int .i64 (p.1:Int),.int .i64 (p.2:Int)]) ?_ rfl;simp(disch:=first|assumption|decide|omega|(simp only[ji,jo,jr,ju,jq,ym,υ,ω];first|done|omega)) only[jB,jD,jz];exact C0))
  ·rw[if_neg c1] at h;by_cases c2:qj x=true
   ·rw[if_pos c2] at h;by_cases h7:7<n2
    ·repeat'(first|apply jc<;>intro _|simp(disch:=first|exact dzA|fail) only[hr,e0,e1,hL,hD,hR2,P2,c1,c2,rzZ,γ,δ,ζ,η,θ])
     all_goals((first|rw[if_pos om] at h|rw[if_neg om] at h);(first|rw[if_pos (by assumption)] at h|rw[if_neg (by assumption)] at h|skip);simp only[Prod.mk.injEq] at h;obtain⟨rfl,rfl,rfl⟩:=h;refine G1.done (c':=[_,_,_,_]) ?_ rfl rfl (FzD.nx rfl rfl);simp(disch:=first|assumption|decide|omega|(simp only[ji,jo,jr,ju,jq,ym,υ,ω];first|done|omega)) only[jB,jD,jz];first|exact C0|(refine Cl.wr0 (c:=[.str l,.int .i64 (a:Int),.int .i64 (p.1:Int),.int .i64 (p.2:Int)]) ?_ rfl;simp(disch:=first|assumption|decide|omega|(simp only[ji,jo,jr,ju,jq,ym,υ,ω];first|done|omega)) only[jB,jD,jz];exact C0))
    ·(have zz:=aI @jB (aI @jD @C0);(repeat'(first|apply jc<;>intro _|simp(disch:=first|exact vJ|fail) only[hr,e0,e1,hL,hD,hR2,P1,S2,c1,c2,jqL,jB,jD,C0,rzZ,γ,δ,ζ,η,θ]));all_goals clear zz)
     all_goals((first|rw[if_pos om] at h|rw[if_neg om] at h);(first|rw[if_pos (by assumption)] at h|rw[if_neg (by assumption)] at h|skip);simp only[Prod.mk.injEq] at h;obtain⟨rfl,rfl,rfl⟩:=h;refine G1.done (c':=[_,_,_,_]) ?_ rfl rfl (FzD.nx rfl rfl);simp(disch:=first|assumption|decide|omega|(simp only[ji,jo,jr,ju,jq,ym,υ,ω];first|done|omega)) only[jB,jD,jz];first|exact C0|(refine Cl.wr0 (c:=[.str l,.int .i64 (a:Int),.int .i64 (p.1:Int),.int .i64 (p.2:Int)]) ?_ rfl;simp(disch:=first|assumption|decide|omega|(simp only[ji,jo,jr,ju,jq,ym,υ,ω];first|done|omega)) only[jB,jD,jz];exact C0))
   ·rw[if_neg c2] at h
    (have zz:=aI @jB (aI @jD @C0);(repeat'(first|apply jc<;>intro _|simp(disch:=first|exact vJ|fail) only[hr,e0,e1,hL,hD,hS,S3,c1,c2,jB,jD,C0,rzZ,γ,δ,ζ,η,θ]));all_goals clear zz)
    all_goals((first|rw[if_pos om] at h|rw[if_neg om] at h);(first|rw[if_pos (by assumption)] at h|rw[if_neg (by assumption)] at h|skip);simp only[Prod.mk.injEq] at h;obtain⟨rfl,rfl,rfl⟩:=h;refine G1.done (c':=[_,_,_,_]) ?_ rfl rfl (FzD.nx rfl rfl);simp(disch:=first|assumption|decide|omega|(simp only[ji,jo,jr,ju,jq,ym,υ,ω];first|done|omega)) only[jB,jD,jz];first|exact C0|(refine Cl.wr0 (c:=[.str l,.int .i64 (a:Int),.int .i64 (p.1:Int),.int .i64 (p.2:Int)]) ?_ rfl;simp(disch:=first|assumption|decide|omega|(simp only[ji,jo,jr,ju,jq,ym,υ,ω];first|done|omega)) only[jB,jD,jz];exact C0))
theorem Tk.cells_l (t:Tk):t.cells.length=5:=nr rfl
theorem Tk.cells_g (t:Tk)(k:Nat):t.cells.getD k .bad=([.int .i64 (t.kind:Int),.str t.text,.int .i64 (t.num:Int),.int .i64 (t.line:Int),.int .i64 (t.col:Int)]:List AV).getD k .bad:=nr rfl
theorem Tk.cells_d (t:Tk)(k:Nat):t.cells.drop k=([.int .i64 (t.kind:Int),.str t.text,.int .i64 (t.num:Int),.int .i64 (t.line:Int),.int .i64 (t.col:Int)]:List AV).drop k:=nr rfl
theorem Tk.cells_p (t:Tk):t.cells.all pc=true:=rfl
theorem Tk.cells_c (t:Tk):lall AV.cell t.cells=true:=nr rfl
theorem Tk.cells_f {st:St}{K:AV->St->Prop}{xs:List Tk}{i:Nat}(h:i<xs.length):jp (zr 5 (.lptr (fl Tk.cells xs) (i * 5)) st) K=K (.agg (Tk.cells xs[i])) st:=J9 Tk.cells_l h
theorem Tk.cells_f1 {st:St}{K:AV->St->Prop}{xs:List Tk}{i:Nat}(h:i<xs.length){k:Nat}(hk:k<5):jp (q9 (.lptr (fl Tk.cells xs) (i * 5+k)) st) K=K ((Tk.cells xs[i]).getD k .bad) st:=ye Tk.cells_l h hk
theorem Tk.cells_f0 {st:St}{K:AV->St->Prop}{xs:List Tk}{i:Nat}(h:i<xs.length):jp (q9 (.lptr (fl Tk.cells xs) (i * 5)) st) K=K ((Tk.cells xs[i]).getD 0 .bad) st:=ye (k:=0) Tk.cells_l h dc
theorem Tk.cells_R:type_of% (aI @Tk.cells_l (aI @Tk.cells_g (aI @Tk.cells_d (aI @Tk.cells_c (aI @Tk.cells_f (aI @Tk.cells_f0 @Tk.cells_f1)))))):=aI @Tk.cells_l (aI @Tk.cells_g (aI @Tk.cells_d (aI @Tk.cells_c (aI @Tk.cells_f (aI @Tk.cells_f0 @Tk.cells_f1)))))
theorem Tk.cells_E:type_of% (aI @Tk.cells_l (aI @Tk.cells_c @Tk.cells_g)):=aI @Tk.cells_l (aI @Tk.cells_c @Tk.cells_g)
theorem dzC {p:Prop}(h:p:=by first|assumption|decide|omega|(simp only[Tk.cells_E,rzN,υ,ω];first|done|omega)|(apply Qf<;>first|omega|((simp(disch:=first|assumption|omega|(simp only[Tk.cells_E,rzN,υ,ω];first|done|omega)) only[rzL,υ,ω,Qak,γ,Tk.cells_E ])<;>first|done|omega))|(simp(disch:=first|assumption|omega|(simp only[Tk.cells_E,rzN,υ,ω];first|done|omega)) only[Tk.cells_E,rzG,ν,ξ,δ,QaL,υ,ω,Qag,Qal];first|done|omega|decide)):p:=h
theorem jlv {p:Prop}(h:p:=by first|assumption|decide|omega|(simp only[Tk.cells_E,zz,rzN,υ,ω];first|done|omega)|(apply Qf<;>first|omega|((simp(disch:=first|assumption|omega|(simp only[Tk.cells_E,zz,rzN,υ,ω];first|done|omega)) only[rzL,υ,ω,Qak,γ,Tk.cells_E,zz ])<;>first|done|omega))|(simp(disch:=first|assumption|omega|(simp only[Tk.cells_E,zz,rzN,υ,ω];first|done|omega)) only[Tk.cells_E,zz,rzG,ν,ξ,δ,QaL,υ,ω,Qag,Qal];first|done|omega|decide)):p:=h
def zO (q:Nat×Nat×Nat):List AV:=[.int .i64 (q.1:Int),.int .i64 (q.2.1:Int),.int .i64 (q.2.2:Int)]
theorem jk4 {r:List Nat}{p:Nat×Nat}{e n:Nat}{t:Tk}(h:yY r p=(e,t,n)):t.line=p.1/\t.col=p.2:=by
 cases r with
 |nil=>simp[yY] at h;rw[<-h.2.1];exact⟨rfl,rfl⟩
 |cons x r'=>
  unfold yY at h;simp only at h;split at h
  ·split at h<;>(simp only[Prod.mk.injEq] at h;rw[<-h.2.1];exact⟨rfl,rfl⟩)
  ·split at h
   ·split at h<;>(simp only[Prod.mk.injEq] at h;rw[<-h.2.1];exact⟨rfl,rfl⟩)
   ·split at h<;>(simp only[Prod.mk.injEq] at h;rw[<-h.2.1];exact⟨rfl,rfl⟩)
theorem jng (hb:NB base)(hP:PI base)(l:List Nat)(hl:l.length<=9223372036854775807):Tot base 64 [.str l] (.tup [.lst (qr l).1.length (fl Tk.cells (qr l).1),.agg (zO (qr l).2)]):=by
 refine hb.tot ?_ rfl rfl;refine jE x35 (by rfl) (hb.pur 64 1 dc) ?_;simp only[y35,jt,κ,μ,ν,ξ];rw[(by unfold z35;simp only[qq];rfl:z35=_)];repeat'(first|apply jc<;>intro _|simp(disch:=first|exact dzC|fail) only[Tk.cells_R,rzZ,γ,δ,ζ,η,θ])
 ·rw[show qr l=([],(132,1,1)) from if_pos om];exact FzD.tup (.cons .nils (.cons (.agg (.pc (by rfl))) .nil))
 ·have hl:l.length<=65536:=om
  rw[show qr l=JN l (1,1) from if_neg om];refine zu (λmm L s=>∃ (a:Nat) (p:Nat×Nat) (acc:List Tk) (v:AV),a<=l.length/\mm=l.length - a/\p.1+(l.length - a)<=l.length+1/\p.2+(l.length - a)<=l.length+1/\1<=p.2/\acc.length<=a/\ahead acc (JN (l.drop a) p)=JN l (1,1)/\2<=s.nx/\Cl s 0 [.int .i64 0,.int .i64 0,.int .i64 0]/\Cl s 1 (cC l a p)/\Lv 2 s.nx s v acc.length (fl Tk.cells acc) 5/\Has L 3 (.ptr 0 0)/\Has L 4 (.ptr 1 0)/\Has L 5 v) ?_ l.length ?_
  ·rintro mm L s ⟨a,p,acc,v,ha,rfl,h1,h2,h3,h4,h5,h6,C0,C1,V,i3,i4,i5⟩;obtain⟨m,hm⟩:∃ m,m=s.nx:=⟨_,rfl⟩;rw[<-hm] at V;have hm':m<=s.nx:=QaU hm;have hgl:=U2 (l.drop a);rw[QaD] at hgl;have W:=Wm ((l.drop a).take (qe (l.drop a))) p h3;have hlt:((l.drop a).take (qe (l.drop a))).length=qe (l.drop a):=by rw[Qat,QaD];omega
   rw[hlt] at W;have B:=λst q=>@jlA base hb l a p ha om om h3 om st q;rcases hx:yY ((l.drop a).drop (qe (l.drop a))) (qh p ((l.drop a).take (qe (l.drop a)))) with ⟨e,t,n⟩
   have hN:=hx;rw[Qbr] at hN;have hnl:=kT hN;rw[QaD] at hnl;have N:=λst q=>@jqK base hb hP l (a+qe (l.drop a)) e n t (qh p ((l.drop a).take (qe (l.drop a)))) om om om om W.2.2 hN st q;have B1:=λK Kp=>B s 1 C1 K Kp;have N1:=λK Kp=>N (wr s 1 0 (cC l (a+qe (l.drop a)) (qh p ((l.drop a).take (qe (l.drop a)))))) 1 (C1.wr0 rfl) K Kp;clear B N;have hT:t.line=(qh p ((l.drop a).take (qe (l.drop a)))).1/\t.col=(qh p ((l.drop a).take (qe (l.drop a)))).2:=jk4 hN;generalize hq:qh p ((l.drop a).take (qe (l.drop a)))=q at *;generalize hg:qe (l.drop a)=g at *;have aE:=λ(he:e≠0)=>jja (acc:=acc) (by rw[hg,hq];exact hx) he;have W2:=Wm ((l.drop (a+g)).take n) q W.2.2;have hlt2:((l.drop (a+g)).take n).length=n:=by rw[Qat,QaD];omega
   rw[hlt2] at W2;have A:=λst bv xc xx K h hv=>@JS 2 m acc.length 5 st v (fl Tk.cells acc) K 48 bv xc xx h dc om om hv;have V2:∀ st m',Lv 2 m st v acc.length (fl Tk.cells acc) 5->2<=st.nx->m'=st.nx+1->Lv 2 m' (aps v st t.cells) (apv 5 v st) (acc ++ [t]).length (fl Tk.cells (acc ++ [t])) 5:=λst m' h h2 h3=>by
    rw[ψ,QX,JZ];exact h.put (Tk.cells_l t) h2 h3
   unfold cC at *;by_cases he:e=0
   ·subst he;have hk:=KX hN;by_cases hn:n=0
    ·subst hn;have k5:t.kind=5:=hk.1.2 rfl
     (have zz:=aI V.ln (aI @jA (aI @jF (aI @V (aI C0.r C1.r))));(repeat'(first|apply jc<;>intro _|simp(disch:=first|exact jlv|fail) only[ja i3,ja i4,ja i5,B1,N1,A,V.at,C0.q,C1.q,V.ln,jA,jF,V,C0.r,C1.r,Tk.cells_R,rzZ,γ,δ,ζ,η,θ]));all_goals clear zz)
     rw[<-h5,jjb (by rw[hg,hq];exact hx)];refine FzD.tup (.cons ((?_:Lv 2 (s.nx+3) _ _ _ _ 5).fz (Qae _) (yZ Tk.cells_p _)) (.cons (.agg (.pc (by rfl))) .nil));simp(disch:=first|decide|omega) only[jH,jA];refine V2 _ _ ?_ (by simp only[ji,jo];omega) (by simp only[ji,jo]);simp(disch:=first|decide|omega|(simp only[ji,jo];omega)) only[jH,jA,jF];exact V
    ·have k5:¬ (t.kind:Int)=5:=λh=>hn (hk.1.1 om)
     (have zz:=aI V.ln (aI @jA (aI @jF (aI @V (aI C0.r C1.r))));(repeat'(first|apply jc<;>intro _|simp(disch:=first|exact jlv|fail) only[ja i3,ja i4,ja i5,B1,N1,A,V.at,C0.q,C1.q,V.ln,jA,jF,V,C0.r,C1.r,Tk.cells_R,rzZ,γ,δ,ζ,η,θ]));all_goals clear zz)
     have hA:=jgt (acc:=acc) (show yY ((l.drop a).drop (qe (l.drop a))) (qh p ((l.drop a).take (qe (l.drop a))))=(0,t,n) by rw[hg,hq];exact hx) hn;rw[hg,hq] at hA;simp only[Qbr,<-Qbl] at hA;refine⟨l.length - (a+g+n),om,a+g+n,qh q ((l.drop (a+g)).take n),acc ++ [t],?_,om,rfl,om,om,W2.2.2,by rw[ψ,List.length_singleton];omega,by rw[<-h5,hA],om,?_,?_,?_,?_,?_,?_⟩;rotate_left
     ·simp(disch:=first|decide|omega|(simp only[ji,jo];omega)) only[V.cl,jB,jD];exact C0
     ·simp(disch:=first|decide|omega|(simp only[ji,jo];omega)) only[V.cl,jB,jD];exact(C1.wr0 (by rfl)).wr0 (by rfl)
     ·refine V2 _ _ ?_ ?_ ?_;all_goals first|(simp only[ji,jo];done)|(simp only[ji,jo];omega)|(simp(disch:=first|decide|omega|(simp only[ji,jo];omega)) only[jH,jA,jF];exact V)
     ·simp(disch:=decide) only[h12,i3]
     ·simp(disch:=decide) only[h12,i4]
     ·simp(disch:=decide) only[h12]
   ·(have zz:=aI V.ln (aI @jA (aI @jF (aI @V (aI C0.r C1.r))));(repeat'(first|apply jc<;>intro _|simp(disch:=first|exact jlv|fail) only[ja i3,ja i4,ja i5,B1,N1,A,V.at,C0.q,C1.q,V.ln,jA,jF,V,C0.r,C1.r,Tk.cells_R,rzZ,γ,δ,ζ,η,θ]));all_goals clear zz)
    rw[<-h5,aE he];exact FzD.tup (.cons .nils (.cons (.agg (.pc (by rfl))) .nil))
  ·refine⟨0,(1,1),[],.nils,om,rfl,om,om,τ _,Qae _,ji9 _ _,τ _,?_,?_,Lv.nil,?_⟩
   ·simp(disch:=first|assumption|decide|omega|(simp only[ji,jo,jr,ju,jq,ym,υ,ω];first|done|omega)) only[jB,jD,jz];exact Cl.new st0 _
   ·exact Cl.new (nw st0 _) _
   ·simp(disch:=decide) only[h12]
def jj9:XC:=(OK (T0 2 4) [OO 5 2,oH 6 5,Ib 7 .eql 6 3,oz 8 7,Oo 9 8 0 2,Ov 10 8 9,O6 11 8 .eql 10 4,Tc 12 8 11,oz 13 12,IZ 14 13 1,Oy 15 13 1 2,Ow 16 13 15,Tm 17 (13,true) 144 [14,16],Tb 18 13 17,TK 18])
def jpy:XF:=⟨[0,1],jj9,[(.t 4)]⟩
theorem jtT:jx ε 119=some jpy:=by kernel_rfl
def jj6:XC:=(OU [TT 3,ID 4 1,ID 5 2,Tz 6] (IU [OZ 7 14] 0 (.seq (O4 [oz 8 7,O1 9 .lss 8 31] 9 (.exit 0)) (Iz 1 (Or [Tq 12 7,(TR 13 147 12 0 [],some [OP 13,o9 (Tv 14 3) 0,Ij (oH 15 14) 14 9 [(1,0)],o9 (Ia 16 Iq) 0]),IX 14 1 3,Om 15 14 14 9 [(1,0)],IO (ow 16 (.strb .eql 13 15))] (Ti 16 [oz 17 7,O9 18 4,O9 19 5,Is 20 2 6 OI [((0,6),18),((6,6),19)],Tl 21 3,oH 22 21,oE 23 4 3,oH 24 23,Iv 25 OI [((0,1),17),((3,1),20),((4,1),22),((5,1),24)],TV 6 25] .skip)) [oz 10 7,TA 11 10 1,oy 7 11]))) [Iv 26 OI [],TV 6 26])
def jpv:XF:=⟨[0,1,2],jj6,[(.cA 6 6)]⟩
theorem jtQ:jx ε 129=some jpv:=by kernel_rfl
def z94:XC:=(OK [O5 0] [TI 1 1 oJ [Ou 0 [60,45,62]],Iv 2 [.nils,oB] [((0,1),1),((1,1),OM)],TI 3 1 oJ [Ou 0 [45,62]],Iv 4 [.nils,oB] [((0,1),3),((1,1),Tg)],TI 5 1 oJ [OT 0 124],Iv 6 [.nils,oB] [((0,1),5),((1,1),OM)],TI 7 1 oJ [OT 0 38],Iv 8 [.nils,oB] [((0,1),7),((1,1),OM)],TI 9 4 oJ [OT 0 85,OT 1 82,OT 2 83,OT 3 84],Iv 10 [.nils,oB] [((0,1),9),((1,1),Tg)],TI 11 6 oJ [OT 0 61,Ou 1 [33,61],OT 2 60,Ou 3 [60,61],OT 4 62,Ou 5 [62,61]],Iv 12 [.nils,oB] [((0,1),11),((1,1),IR 2)],TI 13 2 oJ [OT 0 43,OT 1 45],Iv 14 [.nils,oB] [((0,1),13),((1,1),OM)],TI 15 1 oJ [OT 0 42],Iv 16 [.nils,oB] [((0,1),15),((1,1),OM)],Is 17 8 2 [.nils,oB] [((0,2),2),((2,2),4),((4,2),6),((6,2),8),((8,2),10),((10,2),12),((12,2),14),((14,2),16)],oy 0 17])
def y94:XF:=⟨[],z94,[(.t 0)]⟩
theorem x94:jx ε 101=some y94:=by kernel_rfl
def z77:XC:=(ov [ID 3 1] (Oz [IY 4,O1 5 .geq 4 32] 5 [oU 6 5 3,Ox 7 74 6]))
def y77:XF:=⟨[0,1],z77,[]⟩
theorem x77:jx ε 87=some y77:=by kernel_rfl
def z50:XC:=(ov [TT 1] (.ops [Tl 2 1,oH 3 2,oE 4 4 1,oH 5 4,Iv 6 [oB,oB,oB] [((0,1),IR 151),((1,1),3),((2,1),5)],ol 7 (.iface 45 6),o3 (.pan 7)]))
def y50:XF:=⟨[0],z50,[]⟩
theorem x50:jx ε 74=some y50:=by kernel_rfl
def z49:XC:=(oX [o8 2 [oB,oJ,oB,oB,oB]] (.cops [La 3,IE (IQ 4 3),IE (OO 5 4),OQ 6 5,La 7,IE (IQ 8 7),IE (Tv 9 8),OQ 10 9,IE (Ik 11 5 6 10),IE (oU 12 5 11),IE (o5 5 2 12)]) .ret)
def y49:XF:=⟨[0],z49,[(.cA 2 5)]⟩
theorem x49:jx ε 73=some y49:=by kernel_rfl
def z76:XC:=(ov (TG (o8 4 [oB,oJ,oB,oB,oB]) 5) (Oe [IY 7,Ox 8 73 7,o8 6 [oB,oJ,oB,oB,oB],o5 5 6 8] [oU 9 5 6,OY 10,OA 11 119 9 10,OV 12 11] 12 [oU 13 5 6,o5 5 4 13,Ol 5] (OK [IY 14,IQ 15 14,Tv 16 15,oH 17 16,TA 18 17 1,IQ 19 14,Tv 20 19,o5 1 20 18] [oU 21 5 6,o5 5 4 21,Ta 5])))
def y76:XF:=⟨[0,1],z76,[(.cA 4 5),(.t 5)]⟩
theorem x76:jx ε 86=some y76:=by kernel_rfl
def gV:XC:=(ov [IY 7,OY 8,TI 9 1 oJ [((0,1),8)],OA 10 86 7 9,oz 6 10,Tw 11 6,Tx 12 6,o8 4 [oB,oJ,oB,oB,oB],o5 5 4 11,oy 5 12] (Oz [Lb 13,OV 14 13] 14 [oU 15 5 4,Ox 16 74 15]))
def jku:XF:=⟨[0,1],gV,[]⟩
theorem jpV:jx ε 121=some jku:=by kernel_rfl
def jbm:XC:=(ov [o8 2 [oB,oJ,oB,oB,oB]] (oX [IY 4,Ox 5 73 4,o8 3 [oB,oJ,oB,oB,oB],o5 5 3 5] (Oz [OO 6 3,oH 7 6,O1 8 .neq 7 1] 8 [oU 9 5 3,Ox 10 74 9]) (OK [IY 11,IQ 12 11,Tv 13 12,oH 14 13,TA 15 14 1,IQ 16 11,Tv 17 16,o5 1 17 15] [oU 18 5 3,o5 5 2 18])))
def jkv:XF:=⟨[0],jbm,[(.cA 2 5)]⟩
theorem jpW:jx ε 120=some jkv:=by kernel_rfl
def Wh:XC:=(O8 [I0 2] [IY 7,TI 8 1 oJ [OT 0 45],OA 9 86 7 8,oz 6 9,Tw 10 6,Tx 11 6,ol 3 (.alloc [oB,oJ,oB,oB,oB]),o5 5 3 10,TK 11] (oX [IY 12,Ox 13 73 12,o8 5 [oB,oJ,oB,oB,oB],o5 5 5 13] (Oz [OO 14 5,oH 15 14,O1 16 .neq 15 2] 16 [oU 17 5 5,Ox 18 74 17]) (Oe [IY 19,IQ 20 19,Tv 21 20,oH 22 21,TA 23 22 1,IQ 24 19,Tv 25 24,o5 1 25 23] [oy 26 4] 26 [Ld 27 5,oH 28 27,ol 29 (.un .neg 28),Tp 29] (o4 [Ld 30 5,oH 31 30,Tp 31]))))
def jbo:XF:=⟨[0],Wh,[(.t 2)]⟩
theorem jfb:jx ε 122=some jbo:=by kernel_rfl
def jbk:XC:=(ov [IY 2,IQ 3 2,Ld 4 3,oH 5 4,TA 6 5 1,IQ 7 2,Ld 8 7,o5 1 8 6] (Oz [IY 9,IQ 10 9,Ld 11 10,oH 12 11,O1 13 .gtr 12 60] 13 [IY 14,Ox 15 73 14,Ox 16 74 15]))
def jks:XF:=⟨[0],jbk,[]⟩
theorem jpT:jx ε 146=some jks:=by kernel_rfl
def QD:XC:=(O8 [Tz 2] [IY 5,Ox 6 73 5,o8 3 [oB,oJ,oB,oB,oB],o5 5 3 6] (oX [Tl 7 3,oH 8 7,oE 9 4 3,oH 10 9,Iv 11 OI [((4,1),8),((5,1),10)],Tz 4,TV 4 11] (.block 0 (oK [OO 15 3,oH 16 15,Ib 17 .eql 16 2,oy 14 17] 14 (.dops [IX 18 2 3,Ts 19 18 18 2,IX 20 0 4,Ty 1 20 Tg [(1,2)],IX 21 1 4,TU 1 21 19]) (oK [OO 23 3,oH 24 23,Ib 25 .eql 24 1,oy 22 25] 22 (.dops [IX 26 1 3,Ts 27 26 26 9,IX 28 0 4,Ty 1 28 (IR 3) [(1,9)],IX 29 2 4,TU 1 29 27]) (oK [oU 31 5 3,TI 32 1 oJ [Ou 0 [116,114,117,101]],OA 33 119 31 32,oy 30 33] 30 (.ops [OO 34 4,o5 1 34 (IR 2),Tv 35 4,o5 1 35 Tg]) (oK [oU 37 5 3,TI 38 1 oJ [Ou 0 [102,97,108,115,101]],OA 39 119 37 38,oy 36 39] 36 (.ops [OO 40 4,o5 1 40 (IR 2)]) (oK [oU 42 5 3,TI 43 1 oJ [OT 0 40],OA 44 119 42 43,oy 41 44] 41 (O8 [IY 45,IQ 46 45,Tv 47 46,oH 48 47,TA 49 48 1,IQ 50 45,Tv 51 50,o5 1 51 49] [IY 52,Ox 53 146 52] (O8 [IY 54,Ip 55 101 [],OA 56 100 54 55,TV 4 56] [IY 57,IQ 58 57,Ld 59 58,oH 60 59,Ib 61 .sub 60 1,IQ 62 57,Ld 63 62,o5 1 63 61] (OK [IY 64,OA 65 121 64 (o7 [41])] [O9 66 4,TV 2 66]))) (.ops [oU 12 5 3,Ox 13 74 12]))))))) (OK [IY 67,IQ 68 67,Tv 69 68,oH 70 69,TA 71 70 1,IQ 72 67,Tv 73 72,o5 1 73 71] [O9 74 4,TV 2 74])))
def uB:XF:=⟨[0],QD,[(.cA 2 6)]⟩
theorem Wj:jx ε 145=some uB:=by kernel_rfl
def vg:XC:=(ov [Tz 2] (Oe [IY 8,TI 9 9 oJ [OT 0 45,OT 1 33,OT 2 88,OT 3 70,OT 4 71,OT 5 89,OT 6 90,OT 7 79,OT 8 72],OA 10 86 8 9,oz 7 10,Tw 11 7,Tx 12 7,o8 3 [oB,oJ,oB,oB,oB],o5 5 3 11,TK 12] [TW 13,OV 14 13] 14 [IY 15,Ox 16 145 15,TV 2 16] (ov [IY 17,Ox 18 146 17] (O8 [IY 19,Ox 20 128 19,Tz 5,TV 5 20] [IY 21,IQ 22 21,Ld 23 22,oH 24 23,Ib 25 .sub 24 1,IQ 26 21,Ld 27 26,o5 1 27 25] (OU [OZ 6 5] (Id 0 (.seq (Or [Tq 28 6,(TR 29 147 28 0 [],some [OP 29,o9 (Tv 30 3) 0,Ij (oH 31 30) 30 9 [(1,0)],o9 (Ia 32 Iq) 0]),IX 30 1 3,Om 31 30 30 9 [(1,0)],IO (ow 32 (.strb .neq 29 31))] (IT 32 0)) (.block 1 (.ops [TY 33,TA 34 33 1,oy 6 34])))) [TY 35,O9 36 5,Is 37 1 6 OI [((0,6),36)],Tl 38 3,oH 39 38,oE 40 4 3,oH 41 40,Iv 42 OI [((0,1),35),((3,1),37),((4,1),39),((5,1),41)],TV 2 42])))))
def gY:XF:=⟨[0],vg,[(.cA 2 6)]⟩
theorem jbz:jx ε 128=some gY:=by kernel_rfl
def z93:XC:=(Oe [Tz 4] [OY 8,I4 9 8,ow 10 (TJ 9)] 10 [IY 11,Ox 12 128 11,TV 4 12] (IU [IY 13,OY 14,ol 15 (.slS 2 14 (some Tg) none),OA 16 100 13 15,Tz 5,TV 5 16] 0 (.block 1 (Oe [IY 18,OY 19,Ik 20 2 19 OM,OO 21 20,oH 22 21,OA 23 86 18 22,oz 17 23,Tw 24 17,Tx 25 17,o8 6 [oB,oJ,oB,oB,oB],o5 5 6 24,oy 7 25] [oz 26 7,OV 27 26] 27 [O9 28 5,TV 4 28] (.seq (Ic [OY 29,Ik 30 2 29 OM,Tv 31 30,oH 32 31,O1 33 .eql 32 1] 33 (Lh [T8 34 5 6 6 146,T8 35 6 5 5 29,IO (IY 36),IO (OY 37),(Ix (OA 38 100 36 37) 0 [(2,29),(3,146)],OJ),(Ix (Ip 39 129 [34,35,38]) 0 [],OJ),TU 6 4 39])) (Or [T8 40 5 6 6 146,T8 41 6 5 5 29,IO (IY 42),IO (OY 43),IO (ol 44 (.slS 2 43 (some Tg) none)),(Ix (OA 45 100 42 44) 0 [(3,29),(4,146)],OJ),(Ix (Ip 46 129 [40,41,45]) 0 [],OJ),TU 6 5 46] (Iy [OY 47,Ik 48 2 47 OM,Tv 49 48,oH 50 49,O1 51 .eql 50 2] 51 [O9 52 5,TV 4 52])))))))
def y93:XF:=⟨[0,1],z93,[(.cA 4 6)]⟩
theorem x93:jx ε 100=some y93:=by kernel_rfl
def z48:XC:=(O8 [Tz 2] [IY 5,Ox 6 73 5,o8 3 [oB,oJ,oB,oB,oB],o5 5 3 6] (OU [IY 7,Ip 8 101 [],OA 9 100 7 8,Tz 4,TV 4 9] (Oz [O9 10 4,Ox 11 102 10,OV 12 11] 12 [oU 13 5 3,Ox 14 74 13]) [O9 15 4,TV 2 15]))
def y48:XF:=⟨[0],z48,[(.cA 2 6)]⟩
theorem x48:jx ε 72=some y48:=by kernel_rfl
def jjV:XC:=(ov [Ia 2 oJ] (Oe [Iv 4 [oJ,oJ,oJ,oJ,oJ,oJ,oJ,oJ,oJ,oJ,oJ,oJ,oJ,oJ,oJ,oJ,oJ,oJ,oJ,oJ,oJ,oJ,oJ,oJ,oJ,oJ] [OT 0 45,OT 1 33,OT 2 88,OT 3 70,OT 4 71,OT 5 89,OT 6 90,OT 7 79,OT 8 72,OT 9 42,OT 10 43,OT 11 45,OT 12 61,Ou 13 [33,61],OT 14 60,Ou 15 [60,61],OT 16 62,Ou 17 [62,61],OT 18 85,OT 19 82,OT 20 83,OT 21 84,OT 22 38,OT 23 124,Ou 24 [45,62],Ou 25 [60,45,62]],o8 3 [oJ,oJ,oJ,oJ,oJ,oJ,oJ,oJ,oJ,oJ,oJ,oJ,oJ,oJ,oJ,oJ,oJ,oJ,oJ,oJ,oJ,oJ,oJ,oJ,oJ,oJ],o5 26 3 4] [IY 5,Ib 6 .lss 5 5,TY 7,IH 8 7 0,O6 9 7 .geq 8 31,Lc 10 7 9] 10 [Ia 2 oJ] (o4 [IY 11,Ib 12 .sub 11 5,OL 13 26 1 3 12,oH 14 13,Tp 14])))
def jpj:XF:=⟨[0],jjV,[(.t 2)]⟩
theorem jtE:jx ε 147=some jpj:=by kernel_rfl
def jjU:XC:=(OU [I0 2] (.block 0 (oK [IY 4,Ib 5 .geq 4 5,Lb 6,IZ 7 6 0,Td 8 6 .leq 7 13,Tb 9 6 8,oy 3 9] 3 (o4 [OZ 2 1]) (Iy [IY 11,Ib 12 .geq 11 14,oz 13 12,IZ 14 13 0,Td 15 13 .lss 14 31,Tb 16 13 15,oy 10 16] 10 [OZ 2 2]))) [I0 2])
def jpi:XF:=⟨[0],jjU,[(.t 2)]⟩
theorem jtD:jx ε 148=some jpi:=by kernel_rfl
def jjT:XC:=(OU (T0 1 2) (T7 [OO 3 1,Oh 4 3] 0 (Te 6 4 1 5 6 5 [Tv 7 1,oH 8 7,ol 9 (O7 .geq 8),oz 10 9,Oy 11 10 1 1,Ow 12 10 11,Td 13 10 .leq 12 1000000,Tb 14 10 13,oz 15 14,Oy 16 15 2 1,Ow 17 15 16,Ig 18 15 (.strb .eql 17 (.c oJ)),Tb 19 15 18,Tp 19] (Te 21 4 2 20 21 20 [Tv 22 1,oH 23 22,ol 24 (TJ 23),oz 25 24,Oo 26 25 1 1,Ov 27 25 26,O6 28 25 .eql 27 1,Tc 29 25 28,oz 30 29,Oy 31 30 2 1,Ow 32 30 31,Ig 33 30 (.strb .eql 32 (.c oJ)),Tb 34 30 33,Tp 34] (Te 36 4 3 35 36 35 [Tv 37 1,oH 38 37,ol 39 (TJ 38),oz 40 39,Oy 41 40 2 1,Ow 42 40 41,Tm 43 (40,true) 165 [42],Tb 44 40 43,Tp 44] (Iy (IV 46 4 4 45 46) 45 [Ld 47 1,oH 48 47,Tr 49 48 (.c oJ),Tp 49]))))) [Tv 50 1,oH 51 50,ol 52 (TJ 51),oz 53 52,Oy 54 53 2 1,Ow 55 53 54,Ig 56 53 (.strb .eql 55 (.c oJ)),Tb 57 53 56,Tp 57])
def jph:XF:=⟨[0],jjT,[(.t 2)]⟩
theorem jtC:jx ε 149=some jph:=by kernel_rfl
def z95:XC:=(OK (T0 1 2) [O9 3 1,OA 4 130 3 (IR 60),Tp 4])
def y95:XF:=⟨[0],z95,[(.t 2)]⟩
theorem x95:jx ε 102=some y95:=by kernel_rfl
def jbl:XC:=(OU [TT 2,ID 3 1,Ol 4] (Or [IX 5 0 2,Ts 6 5 5 3,IO (Ib 7 .lss 6 1),Tq 8 7,IO (Oo 9 8 0 2),IB (Ov 10 8 9) 9 3 [],IO (O6 11 8 .geq 10 31),IO (Tc 12 8 11),Tq 13 12,IB (Ov 14 13 3) 3 3 [],IO (O6 15 13 .lss 14 1),IO (Tc 16 13 15),Tq 17 16,IO (Oo 18 17 3 2),IB (Ov 19 17 18) 18 27 [],IO (TQ 20 17 19),IO (Oo 21 17 0 2),IB (Ov 22 17 21) 21 3 [],(Ix (Lg 23 17 148 [22]) 0 [(3,27)],OJ),IO (If 24 17 (.bin .neq 20 23)),IO (Tc 25 17 24),Tq 26 25,IB (O0 27 26 6 2) 2 29 [],(Ix (Lg 28 26 149 [27]) 0 [],OJ),IO (TS 29 26 28),IO (Lc 30 26 29)] (Ti 30 Tu .skip)) [Tl 31 2,oH 32 31,ol 33 (.fn 151 [3]),OA 34 150 32 33,TM 35 34,TK 35])
def jkt:XF:=⟨[0,1],jbl,[(.t 4)]⟩
theorem jpU:jx ε 130=some jkt:=by kernel_rfl
def jjR:XC:=(OK (T0 2 3) [O9 4 2,oH 5 1,Ib 6 .sub 5 1,OA 7 130 4 6,TM 8 7,oy 3 8])
def jpf:XF:=⟨[0,1],jjR,[(.t 3)]⟩
theorem jtA:jx ε 151=some jpf:=by kernel_rfl
def jjS:XC:=(OK Tu [IY 5,OY 6,OA 7 166 5 6,ol 8 (O7 .geq 7),TK 8])
def jpg:XF:=⟨[0,1],jjS,[(.t 4)]⟩
theorem jtB:jx ε 150=some jpg:=by kernel_rfl
def jjM:XC:=(OU [I0 4] (T6 [IY 6,IP 7 6,I0 8] 0 9 8 7 9 0 1 (Tf 10 8 5 10) (Iy [OY 11,IY 12,Lb 13,Ik 14 6 12 13,O9 15 14,T4 16 11 [15]] 16 (Tf 17 5 4 17)) 18 8 8 18) [OZ 4 (-(0+1))])
def jpa:XF:=⟨[0,1],jjM,[(.t 4)]⟩
theorem jtv:jx ε 166=some jpa:=by kernel_rfl
def jjW:XC:=(OK Tu [IY 5,OY 6,OA 7 164 5 6,ol 8 (O7 .geq 7),TK 8])
def jpk:XF:=⟨[0,1],jjW,[(.t 4)]⟩
theorem jtF:jx ε 144=some jpk:=by kernel_rfl
def jjO:XC:=(OU [I0 4] (T6 [IY 6,IP 7 6,I0 8] 0 9 8 7 9 0 1 (Tf 10 8 5 10) (Iy [OY 11,IY 12,Lb 13,Li 14 12 13,oH 15 14,ow 16 (.strb .eql 11 15)] 16 (Tf 17 5 4 17)) 18 8 8 18) [OZ 4 (-(0+1))])
def jpc:XF:=⟨[0,1],jjO,[(.t 4)]⟩
theorem jtx:jx ε 164=some jpc:=by kernel_rfl
def jjN:XC:=(Oe Lj [IY 3,Tr 4 3 (.c oJ),TW 5,IH 6 5 0,If 7 5 (.lenS 6),O6 8 5 .gtr 7 32,Tc 9 5 8,oz 10 9,IH 11 10 0,If 12 10 (.ixStr 11 OM),Lg 13 10 113 [12],TS 14 10 13,Tc 15 10 14,oz 16 15,IH 17 16 0,Lg 18 16 115 [17],Lc 19 16 18] 19 Lj (o4 [IY 20,OA 21 108 20 (oQ 114 []),IY 22,ol 23 (.lenS 22),IW 24 .eql 21 23,Tp 24]))
def jpb:XF:=⟨[0],jjN,[(.t 2)]⟩
theorem jtw:jx ε 165=some jpb:=by kernel_rfl
theorem dzD {p:Prop}(h:p:=by first|assumption|decide|omega|(simp only[qS,Tk.cells_E,rzN,υ,ω];first|done|omega)|(apply Qf<;>first|omega|((simp(disch:=first|assumption|omega|(simp only[qS,Tk.cells_E,rzN,υ,ω];first|done|omega)) only[rzL,υ,ω,Qak,γ,qS,Tk.cells_E ])<;>first|done|omega))|(simp(disch:=first|assumption|omega|(simp only[qS,Tk.cells_E,rzN,υ,ω];first|done|omega)) only[qS,Tk.cells_E,rzG,ν,ξ,δ,QaL,υ,ω,Qag,Qal];first|done|omega|decide)):p:=h
theorem cyD {p:Prop}(h:p:=by apply Qf<;>first|omega|((simp(disch:=first|assumption|omega|(simp only[qS,Tk.cells_E,rzN,υ,ω];first|done|omega)) only[rzL,υ,ω,Qak,γ,qS,Tk.cells_E])<;>first|done|rfl|omega|(simp;done)|(simp;omega))):p:=h
theorem qT {p:Prop}(h:p:=by first|assumption|decide|omega|(simp only[qS,Tk.cells_E,zz,rzN,υ,ω];first|done|omega)|(apply Qf<;>first|omega|((simp(disch:=first|assumption|omega|(simp only[qS,Tk.cells_E,zz,rzN,υ,ω];first|done|omega)) only[rzL,υ,ω,Qak,γ,qS,Tk.cells_E,zz ])<;>first|done|omega))|(simp(disch:=first|assumption|omega|(simp only[qS,Tk.cells_E,zz,rzN,υ,ω];first|done|omega)) only[qS,Tk.cells_E,zz,rzG,ν,ξ,δ,QaL,υ,ω,Qag,Qal];first|done|omega|decide)):p:=h
theorem qp {p:Prop}(h:p:=by apply Qf<;>first|omega|((simp(disch:=first|assumption|omega|(simp only[qS,Tk.cells_E,zz,rzN,υ,ω];first|done|omega)) only[rzL,υ,ω,Qak,γ,qS,Tk.cells_E,zz])<;>first|done|rfl|omega|(simp;done)|(simp;omega))):p:=h
theorem vyD {p:Prop}(h:p:=by first|exact FzD.u|exact FzD.pa (by rfl)|exact FzD.agg (.pc (by rfl))|exact FzD.tup (.cons (FzD.agg (.pc (by rfl))) (.pc (by rfl)))|exact FzD.iface (FzD.agg (.pc (by rfl)))|exact YD|(rw[<-qJ];exact FzD.agg (.pc (qZ _)))|exact FzD.agg (.pc (by simp only[qZ,Tk.cells_p]))):p:=h
theorem Vo {S:List (List Nat)}{k:Nat}(h:k<S.length):(S.map AV.str).getD k .bad=.str S[k]:=by simp[Qad,h]
theorem r6:type_of%(aI @je (aI @Tk.cells_R @rzZ)):=aI @je (aI @Tk.cells_R @rzZ)
theorem jne (hb:NB base)(S:List (List Nat))(hn:S.length<=1000000)(x:List Nat):Tot base 164 [.lst S.length (S.map .str),.str x] (.int .i64 (fi (λy=>decide (x=y)) S)):=by
 refine hb.tot ?_ rfl rfl;refine jE jtx (by rfl) (hb.pur 164 1 dc) ?_;simp only[jpc,jt,κ,μ,ν,ξ];rw[(by unfold jjO;simp only[qq];rfl:jjO=_)];repeat'(first|apply jc<;>intro _|simp(disch:=first|exact dzD|fail) only[r6,γ,δ,ζ,η,θ])
 refine jZ S.length (λk L s=>(∀ j (h1:j<S.length),j<k->decide (x=S[j])=false)/\Has L 0 (.lst S.length (S.map .str))/\Has L 1 (.str x)) (by first|assumption|omega) dc (by simp(disch:=decide) only[jf,jb]) (by simp(disch:=decide) only[jf,jb]) ?_ (λk L s v h=>by simp(disch:=decide) only[jb];exact h) (λk L s v h=>by simp(disch:=decide) only[jb];exact h) (λk L s hk hI hi hn=>?_) (λL s hI=>?_)
 ·refine⟨λj _ hj=>absurd hj (Qaw _),?_⟩;simp(disch:=decide) only[h12]
 ·obtain⟨h0,i0,i1⟩:=hI;have hl:(S.map AV.str).length=S.length:=Qap ..;have e:=Vo hk
  (have zz:=@hl;(repeat'(first|apply jc<;>intro _|simp(disch:=first|exact qT|fail) only[ja i0,ja i1,ja hi,Jd,e,hl,r6,γ,δ,ζ,η,θ]));all_goals clear zz)
  ·exact G0.v (by rw[ui hk (λj hj=>h0 j om hj) (by simpa using ‹x=S[k]›)]) rfl
  ·refine⟨⟨λj h1 hj=>?_,?_⟩,?_⟩
   ·rcases Qau j k with h|h
    ·simpa using h0 j h1 h
    ·have:j=k:=om
     subst this;simpa using ‹¬ x=S[j]›
   ·simp(disch:=decide) only[h12,i0,i1]
   ·simp(disch:=decide) only[h12,hi,hn]
 ·obtain⟨h0,i0,i1⟩:=hI;repeat'(first|apply jc<;>intro _|simp(disch:=first|exact dzD|fail) only[r6,γ,δ,ζ,η,θ])
  exact G0.v (by rw[uh λj hj=>h0 j hj hj];rfl) rfl
theorem ja4 {α:Type}(q:α->Bool):∀ xs:List α,decide (0<=fi q xs)=xs.any q
 |[]=>rfl
 |x :: xs=>by
  have ih:=ja4 q xs;by_cases h:q x=true
  ·simp[fi,h]
  ·rw[List.any_cons,<-ih];simp only[fi,h,if_false,Bool.false_or];by_cases h2:fi q xs<0
   ·rw[if_pos h2];simp;omega
   ·rw[if_neg h2];simp;omega
theorem jot (x:List Nat)(S:List (List Nat)):(S.any λy=>decide (x=y))=decide (x∈S):=by
 induction S with
 |nil=>rfl
 |cons y S ih=>rw[List.any_cons,ih];simp
theorem jr7 (hb:NB base)(S:List (List Nat))(hn:S.length<=1000000)(x:List Nat):Tot base 144 [.lst S.length (S.map .str),.str x] (.bool (decide (x∈S))):=by
 refine hb.tot ?_ rfl rfl;refine jE jtF (by rfl) (hb.pur 144 1 dc) ?_;simp only[jpk,jt,κ,μ,ν,ξ];rw[(by unfold jjW;simp only[qq];rfl:jjW=_)];repeat'(first|apply jc<;>intro _|simp(disch:=first|exact dzD|fail) only[jne hb S hn x,r6,γ,δ,ζ,η,θ])
 exact G0.v (by rw[ja4,jot]) rfl
def isM (t:Tk)(S:List (List Nat)):Bool:=decide (t.kind=3\/t.kind=4) && decide (t.text∈S)
theorem jr2 (hb:NB base)(t:Tk)(S:List (List Nat))(hn:S.length<=1000000):PX ε base 119 [.agg t.cells,.lst S.length (S.map .str)] (.ok (.bool (isM t S))):=by
 refine jE jtT (by rfl) (hb.pur 119 1 dc) ?_;simp only[jpy,jt,κ,μ,ν,ξ];rw[(by unfold jj9;simp only[qq];rfl:jj9=_)];repeat'(first|apply jc<;>intro _|simp(disch:=first|exact dzD|fail) only[jr7 hb S hn,r6,γ,δ,ζ,η,θ])
 all_goals(refine G0.v ?_ rfl;unfold isM;simp;try omega)
theorem jr1 (hb:NB base)(t:Tk)(S:List (List Nat))(hn:S.length<=1000000):Tot base 119 [.agg t.cells,.lst S.length (S.map .str)] (.bool (isM t S)):=hb.tot (jr2 hb t S hn) rfl rfl
def er (t:Tk):AV:=.iface 45 (.agg [.int .i64 151,.int .i64 (t.line:Int),.int .i64 (t.col:Int)])
theorem G0.er (t:Tk){s:St}:G0 (er t) (.iface 45 (.agg [.int .i64 151,.int .i64 (t.line:Int),.int .i64 (t.col:Int)])) s:=FzD.iface (FzD.agg (.pc rfl))
theorem Qr (hb:NB base)(t:Tk):Ret base 74 [.agg t.cells] (.pn (er t)):=by
 refine hb.ret ?_ rfl rfl;refine jE x50 (by rfl) (hb.pur 74 1 dc) ?_;simp only[y50,jt,κ,μ,ν,ξ];rw[(by unfold z50;simp only[qq];rfl:z50=_)];repeat'(first|apply jc<;>intro _|simp(disch:=first|exact dzD|fail) only[r6,γ,δ,ζ,η,θ])
 exact G0.er t
theorem jqV (hb:NB base)(op:Int):Tot base 148 [.int .i64 op] (.int .i64 (if 5<=op/\op<=13 then 1 else if 14<=op/\op<31 then 2 else 0)):=by
 refine hb.tot ?_ rfl rfl;refine jE jtD (by rfl) (hb.pur 148 1 dc) ?_;simp only[jpi,jt,κ,μ,ν,ξ];rw[(by unfold jjU;simp only[qq];rfl:jjU=_)];repeat'(first|apply jc<;>intro _|simp(disch:=first|exact dzD|fail) only[r6,γ,δ,ζ,η,θ])
 all_goals(refine G0.v ?_ rfl;repeat' split)<;>first|rfl|(exfalso;omega)|(simp_all;done)|(simp;omega)|(simp_all;omega)
def wT:List (List Nat):=[[45],[33],[88],[70],[71],[89],[90],[79],[72],[42],[43],[45],[61],[33,61],[60],[60,61],[62],[62,61],[85],[82],[83],[84],[38],[124],[45,62],[60,45,62]]
def sgn (op:Int):List Nat:=if 5<=op/\op<31 then wT.getD (op - 5).toNat [] else []
theorem jje (hb:NB base)(op:Int):Tot base 147 [.int .i64 op] (.str (sgn op)):=by
 refine hb.tot ?_ rfl rfl;refine jE jtE (by rfl) (hb.pur 147 1 dc) ?_;simp only[jpj,jt,κ,μ,ν,ξ];rw[(by unfold jjV;simp only[qq];rfl:jjV=_)];repeat'(first|apply jc<;>intro _|simp(disch:=first|exact dzD|fail) only[r6,γ,δ,ζ,η,θ])
 ·exact G0.v (by rw[sgn,if_neg om]) rfl
 ·exact G0.v (by rw[sgn,if_neg om]) rfl
 ·have h26:(op - 5).toNat<wT.length:=by show(op - 5).toNat<26;omega
  show G0 _ ((wT.map AV.str).getD _ _) _;rw[QaL,Vo h26];exact G0.v (by rw[sgn,if_pos om,Qam,Qai h26];rfl) rfl
def nm (l:List Nat):Bool:=decide (l≠[]) && decide (l.length<=32) && zV (l.getD 0 0) && !Gw l && decide (q8 Jn l=l.length)
theorem jrZ (hb:NB base)(l:List Nat)(hl:l.length<=4611686018427387904):Tot base 165 [.str l] (.bool (nm l)):=by
 refine hb.tot ?_ rfl rfl;have e0:¬ l=[]->0<l.length:=λh=>by cases l<;>simp_all
 refine jE jtw (by rfl) (hb.pur 165 1 dc) ?_;simp only[jpb,jt,κ,μ,ν,ξ];rw[(by unfold jjN;simp only[qq];rfl:jjN=_)];by_cases h:l=[]
 ·subst h;repeat'(first|apply jc<;>intro _|simp(disch:=first|exact dzD|fail) only[r6,γ,δ,ζ,η,θ])
  exact G0.v rfl rfl
 ·have e1:(0:Int)<(l.length:Int):=by have:=e0 h;omega
  repeat'(first|apply jc<;>intro _|simp(disch:=first|exact dzD|fail) only[kU hb,jji hb,KB hb l hl (jeh hb),h,e1,r6,γ,δ,ζ,η,θ])
  all_goals(refine G0.v (congrArg AV.bool ?_) rfl;rw[QaA];unfold nm;simp_all<;>omega)
def ub (x:Ex):Bool:=
 if x.op=1 then decide (0<=x.num) && decide (x.num<=1000000) && decide (x.name=[])
 else if x.op=2 then(decide (x.num=0) ||decide (x.num=1)) && decide (x.name=[])
 else if x.op=3 then decide (x.num=0) && nm x.name
 else if x.op=4 then decide (x.name=[])
 else decide (x.num=0) && decide (x.name=[])
theorem jqU (hb:NB base)(x:Ex)(hl:x.name.length<=4611686018427387904):Tot base 149 [.agg (eE x)] (.bool (ub x)):=by
 refine hb.tot ?_ (by first|rfl|simp[pa,pc,qZ,Tk.cells_p]) rfl;refine jE jtC (by rfl) (hb.pur 149 1 dc) ?_;simp only[jph,jt,κ,μ,ν,ξ];rw[(by unfold jjT;simp only[qq];rfl:jjT=_)];repeat'(first|apply jc<;>intro _|simp(disch:=first|exact dzD|fail) only[jrZ hb _ hl,r6,γ,δ,ζ,η,θ])
 all_goals(refine G0.v ?_ rfl;simp only[ub];simp[*];try omega)
theorem jhy (hb:NB base)(n:Nat)(t:Tk):Ret base 87 [.int .i64 (n:Int),.agg t.cells] (if 32<=n then .pn (er t) else .ok (.tup [])):=by
 refine hb.ret ?_ rfl rfl;refine jE x77 (by rfl) (hb.pur 87 1 dc) ?_;simp only[y77,jt,κ,μ,ν,ξ];rw[(by unfold z77;simp only[qq];rfl:z77=_)];repeat'(first|apply jc<;>intro _|simp(disch:=first|exact dzD|fail) only[Qr hb,r6,γ,δ,ζ,η,θ])
 ·rw[if_pos om];exact FzD.iface (FzD.agg (.pc rfl))
 ·rw[if_neg om];exact FzD.u
def Xi (v:List (List Nat)×Nat):List AV:=[.lst v.1.length (v.1.map .str),.int .i64 (v.2:Int)]
def Jm:List (List (List Nat)×Nat):=[([[60,45,62]],0),([[45,62]],1),([[124]],0),([[38]],0),([[85],[82],[83],[84]],1),([[61],[33,61],[60],[60,61],[62],[62,61]],2),([[43],[45]],0),([[42]],0)]
theorem jce (hb:NB base):Tot base 101 [] (.lst 8 (fl Xi Jm)):=by
 refine hb.tot ?_ rfl rfl;refine jE x94 (by rfl) (hb.pur 101 1 dc) ?_;simp only[y94,jt,κ,μ,ν,ξ];rw[(by unfold z94;simp only[qq];rfl:z94=_)];repeat'(first|apply jc<;>intro _|simp(disch:=first|exact dzD|fail) only[r6,γ,δ,ζ,η,θ])
 exact⟨[8,0,1,2,3,4,5,6,7],by kernel_rfl,λb _=>Qae _⟩
theorem jd9 {m d b cap:Nat}{s:St}{ks:List Ex}{op num l c:Int}{nm:List Nat}{ex:Bool}{cs:List AV}(C:Cl s b cs)(hc:cs=fl eE ks)(hm:m<=b) :
  FzD m (d+4) s (.agg [.int .i64 op,.int .i64 num,.str nm,.slice b 0 ks.length cap 6 ex,.int .i64 l,.int .i64 c]) (.agg (eE (.mk op num nm ks l c))):=by
 subst hc;rw[qJ];have hl:=Jh zK ks;refine FzD.agg (.cons (.pc rfl) (.cons (.pc rfl) (.cons (.pc rfl) (.cons (FzD.slice C.rw_ (QaU hl.symm) hm ?_) (.pc rfl)))));rw[<-hl,Qaf];exact .pc (yZ qZ ks)
theorem YD {m d:Nat}{s:St}{op num l c:Int}{nm:List Nat}:FzD m (d+2) s (.agg [.int .i64 op,.int .i64 num,.str nm,.nils,.int .i64 l,.int .i64 c]) (.agg (eE (.mk op num nm [] l c))):=by
 rw[qJ];exact FzD.agg (.cons (.pc rfl) (.cons (.pc rfl) (.cons (.pc rfl) (.cons .nils (.pc rfl)))))
theorem jkE:Go.Ev.isAgg ε 9=some false:=by kernel_rfl
theorem jkD:Go.Ev.sizeOf ε 9=some 1:=by kernel_rfl
theorem KA {t:TypeId}{b i:Nat}{cs:List AV}{v:AV}{s:St}(h1:Go.Ev.isAgg ε t=some false)(h2:Go.Ev.sizeOf ε t=some 1)(C:Cl s b cs)(hi:i<cs.length)(hv:cs.getD i .bad=v)(hc:eqs v=true):j9 ε t (.ptr b i) v s.h=true:=
 Qk h1 h2 (by rw[C.len];exact hi) ((C.cell i hi).trans hv) hc
section
variable {st:St} {K:AV->St->Prop}
theorem jp8 {z vs:List AV}{o:Nat}{a:List AV}(ha:z.take o=a)(h:o+vs.length=z.length):upd z o vs=a ++ vs:=by
 rw[<-uQ z o vs om,ha,h];simp
theorem jrU {cx cy:List AV}{z0 z1 z2 z3 z4 z5:AV}(hx:cx.length=6)(hy:cy.length=6)(hlx:lall AV.cell cx=true)(hly:lall AV.cell cy=true) :
  jp (GT 2 6 [z0,z1,z2,z3,z4,z5] [((0,6),.agg cx),((6,6),.agg cy)] st) K=K (.slice st.nx 0 2 2 6 true) (nw st (cx ++ cy)):=by
 have e1:upd ([z0,z1,z2,z3,z4,z5] ++ [z0,z1,z2,z3,z4,z5]) 0 cx=cx ++ [z0,z1,z2,z3,z4,z5]:=by
  rw[<-uQ _ 0 cx (by rw[hx];exact Nat.le_add_left _ _),hx];rfl
 have e2:upd (cx ++ [z0,z1,z2,z3,z4,z5]) 6 cy=cx ++ cy:=jp8 (by rw[<-hx,List.take_left]) (by rw[ψ,hx,hy];rfl);rw[jlH,UF,UF,KI,QaW,jbd (v:=.agg cx) rfl hx (Nat.le_add_left 6 6),YS,e1,jbd (v:=.agg cy) rfl hy (by rw[ψ,hx];exact τ 12),YS,e2,jgw (by rw[jla _ _ hlx,hly])]
end
def wA (text:List Nat):Option Nat:=(Qan 17).find? λi=>decide (sgn ((14+i:Nat):Int)=text)
def QG (t:Tk)(x y:Ex):Ex:=match wA t.text with
 |some i=>.mk ((14+i:Nat):Int) 0 [] [x,y] t.line t.col
 |none=>.mk 0 0 [] [] 0 0
theorem jk0 {text:List Nat}{i:Nat}(hi:i<17)(h:sgn ((14+i:Nat):Int)=text)(hj:∀ j,j<i->sgn ((14+j:Nat):Int)≠text):wA text=some i:=by
 unfold wA;rw[List.find?_range_eq_some];exact⟨by simpa using h,by simpa using hi,λj hj'=>by simpa using hj j hj'⟩
theorem jkZ {text:List Nat}(hj:∀ j,j<17->sgn ((14+j:Nat):Int)≠text):wA text=none:=by
 unfold wA;rw[List.find?_range_eq_none];exact λj hj'=>by simpa using hj j hj'
def zE:List AV:=[.int .i64 0,.int .i64 0,.str [],.nils,.int .i64 0,.int .i64 0]
theorem jsB (hb:NB base)(t:Tk)(x y:Ex):Tot base 129 [.agg t.cells,.agg (eE x),.agg (eE y)] (.agg (eE (QG t x y))):=by
 refine hb.tot ?_ (by first|rfl|simp[pa,pc,qZ,Tk.cells_p]) rfl;refine jE jtQ (by rfl) (hb.pur 129 1 dc) ?_;simp only[jpv,jt,κ,μ,ν,ξ];rw[(by unfold jj6;simp only[qq];rfl:jj6=_)];repeat'(first|apply jc<;>intro _|simp(disch:=first|exact dzD|fail) only[r6,γ,δ,ζ,η,θ])
 have hC:=Cl.new st0 t.cells;have hs:j9 ε 9 (.ptr 0 1) (.str t.text) (nw (nw (nw (nw st0 t.cells) (eE x)) (eE y)) zE).h=true:=KA jkE jkD (((hC.nw _).nw _).nw _) (QbA (QaR 3)) rfl rfl;unfold zE at hs;refine zu (λmm L s=>∃ i:Nat,i<=17/\mm=17 - i/\s=nw (nw (nw (nw st0 t.cells) (eE x)) (eE y)) zE/\(∀ j,j<i->sgn ((14+j:Nat):Int)≠t.text)/\Has L 3 (.ptr 0 0)/\Has L 4 (.ptr 1 0)/\Has L 5 (.ptr 2 0)/\Has L 6 (.ptr 3 0)/\Has L 7 (.int .i64 ((14+i:Nat):Int))) ?_ 17 ?_
 ·rintro mm L s ⟨i,hi,rfl,rfl,hj,i3,i4,i5,i6,i7⟩;unfold zE;have hS:=jje hb ((14+i:Nat):Int);repeat'(first|apply jc<;>intro _|simp(disch:=first|exact dzD|fail) only[ja i3,ja i4,ja i5,ja i6,ja i7,hS,hs,↓jrU,r6,γ,δ,ζ,η,θ])
  ·have e:QG t x y=.mk ((14+i:Nat):Int) 0 [] [x,y] t.line t.col:=by unfold QG;rw[jk0 om ‹_› hj]
   rw[e];refine jd9 (ks:=[x,y]) (cs:=eE x ++ eE y) ?_ (by simp[fl]) (Qae _);simp(disch:=first|assumption|decide|omega|(simp only[ji,jo,jr,ju,jq,ym,υ,ω];first|done|omega)) only[jB,jD,jz];exact Cl.new _ _
  ·refine⟨17 - (i+1),om,i+1,om,rfl,λj hj'=>?_,?_⟩
   ·by_cases h:j=i
    ·rw[h];assumption
    ·exact hj j om
   ·rw[show((14+(i+1):Nat):Int)=((14+i:Nat):Int)+1 by omega];simp(disch:=decide) only[h12,i3,i4,i5,i6]
  ·have e:QG t x y=.mk 0 0 [] [] 0 0:=by unfold QG;rw[jkZ λj hj'=>hj j om]
   rw[e];exact YD
 ·refine⟨0,om,rfl,rfl,λj hj=>absurd hj (Qaw _),?_⟩;rw[show((14+0:Nat):Int)=14 from rfl];simp(disch:=decide) only[h12]
theorem jlR {P:Program}{f:FuncId}{xs:List AV}{st:St}{v:AV}{R:St->Prop}(h:∀ K Kp:AV->St->Prop,(∀ s,R s->K v s)->XB P base f xs st K Kp):∃ s,R s/\∀ K Kp:AV->St->Prop,XB P base f xs st K Kp=K v s:=by
 obtain⟨r,⟨N,D,h1⟩,h4⟩:=h (λv' s'=>v'=v/\R s') (λ_ _=>False) λs hs=>⟨rfl,hs⟩;cases r with
 |no=>exact h4.elim
 |pn v s=>exact h4.elim
 |ok v' s'=>
  obtain⟨rfl,hR⟩:=h4;exact⟨_,hR,λK Kp=>propext ⟨λ⟨r2,⟨N2,D2,h2⟩,h3⟩=>by
   have e1:=h1 (max N N2) (Qar ..) (max D D2) (Qar ..);have e2:=h2 (max N N2) (Qas ..) (max D D2) (Qas ..);rw[e1] at e2;subst e2;exact h3,λh=>⟨_,⟨N,D,h1⟩,h⟩⟩⟩
theorem jof (hb:NB base)(xs:List Ex)(hn:xs.length<=4611686018427387904)(f:FuncId)(caps:List AV)(q:Ex->Bool){R:St->Prop}(hR:∀ s t:St,R s->R (bk t s))(hR2:∀ s:St,R s->R s.bare)
  (hq:∀ y∈xs,∀ s:St,R s->∃ s',R s'/\∀ K Kp:AV->St->Prop,XB ε base f (.agg (eE y) :: caps) s K Kp=K (.bool (q y)) s') {st:St} (h0:R st) :
  ∃ s',R s'/\∀ K Kp:AV->St->Prop,XB ε base 166 [.lst xs.length (fl eE xs),.fn f caps] st K Kp=K (.int .i64 (fi q xs)) s':=by
 refine jlR λK Kp hK=>?_;refine Jf jtv (by rfl) (hb.at0 166 dc dc _ _) ?_;simp only[jpa,jt,κ,μ,ν,ξ];rw[(by unfold jjM;simp only[qq];rfl:jjM=_)];have h0:=hR2 _ h0;have hK:∀ s,R s->K (.int .i64 (fi q xs)) (bk st s):=λs h=>hK _ (hR _ _ h);have hbk:bk st st.bare=st:=rfl;have hbc:back st st.bare=st:=rfl;have hbb:st.bare.bare=st.bare:=rfl;generalize st.bare=s0 at *;repeat'(first|apply jc<;>intro _|simp(disch:=first|exact dzD|fail) only[r6,γ,δ,ζ,η,θ])
 refine jZ xs.length (λk L s=>R s/\(∀ j (h1:j<xs.length),j<k->q xs[j]=false)/\Has L 0 (.lst xs.length (fl eE xs))/\Has L 1 (.fn f caps)) (by first|assumption|omega) dc (by simp(disch:=decide) only[jf,jb]) (by simp(disch:=decide) only[jf,jb]) ?_ (λk L s v h=>by simp(disch:=decide) only[jb];exact h) (λk L s v h=>by simp(disch:=decide) only[jb];exact h) (λk L s hk hI hi hn=>?_) (λL s hI=>?_)
 ·refine⟨h0,λj _ hj=>absurd hj (Qaw _),?_⟩;simp(disch:=decide) only[h12]
 ·obtain⟨hs,h0,i0,i1⟩:=hI;obtain⟨s',hs',e⟩:=hq xs[k] (Qac hk) s hs;repeat'(first|apply jc<;>intro _|simp(disch:=first|exact dzD|fail) only[ja i0,ja i1,ja hi,e,r6,γ,δ,ζ,η,θ])
  ·have:=hK _ (hR2 _ hs');rw[ui hk (λj hj=>h0 j om hj) ‹_›] at this;exact this
  ·refine⟨⟨hs',λj h1 hj=>?_,?_⟩,?_⟩
   ·rcases Qau j k with h|h
    ·exact h0 j h1 h
    ·have:j=k:=om
     subst this;simpa using ‹¬ q xs[j]=true›
   ·simp(disch:=decide) only[h12,i0,i1]
   ·simp(disch:=decide) only[h12,hi,hn]
 ·obtain⟨hs,h0,i0,i1⟩:=hI;repeat'(first|apply jc<;>intro _|simp(disch:=first|exact dzD|fail) only[r6,γ,δ,ζ,η,θ])
  have:=hK _ (hR2 _ hs);rw[uh λj hj=>h0 j hj hj] at this;exact this
theorem jrQ (hb:NB base)(xs:List Ex)(hn:xs.length<=4611686018427387904)(f:FuncId)(caps:List AV)(q:Ex->Bool){R:St->Prop}(hR:∀ s t:St,R s->R (bk t s))(hR2:∀ s:St,R s->R s.bare)
  (hq:∀ y∈xs,∀ s:St,R s->∃ s',R s'/\∀ K Kp:AV->St->Prop,XB ε base f (.agg (eE y) :: caps) s K Kp=K (.bool (q y)) s') {st:St} (h0:R st) :
  ∃ s',R s'/\∀ K Kp:AV->St->Prop,XB ε base 150 [.lst xs.length (fl eE xs),.fn f caps] st K Kp=K (.bool (xs.any q)) s':=by
 refine jlR λK Kp hK=>?_;refine Jf jtB (by rfl) (hb.at0 150 dc dc _ _) ?_;simp only[jpg,jt,κ,μ,ν,ξ];rw[(by unfold jjS;simp only[qq];rfl:jjS=_)];have h0:=hR2 _ h0;have hK:∀ s,R s->K (.bool (xs.any q)) (bk st s):=λs h=>hK _ (hR _ _ h);have hbk:bk st st.bare=st:=rfl;have hbc:back st st.bare=st:=rfl;have hbb:st.bare.bare=st.bare:=rfl;generalize st.bare=s0 at *;obtain⟨s',hs',e⟩:=jof hb xs hn f caps q hR hR2 hq h0;repeat'(first|apply jc<;>intro _|simp(disch:=first|exact dzD|fail) only[e,r6,γ,δ,ζ,η,θ])
 rw[ja4];exact hK _ hs'
def ze:Nat->Ex->Bool
 |0,_=>false
 |d+1,x=>decide (1<=x.op) && decide (x.op<31) && decide ((x.kids.length:Int)=if 5<=x.op/\x.op<=13 then 1 else if 14<=x.op/\x.op<31 then 2 else 0) && ub x && x.kids.all (ze d)
theorem jqb:Go.Ev.isAgg ε 3=some false:=by kernel_rfl
theorem jqa:Go.Ev.sizeOf ε 3=some 1:=by kernel_rfl
theorem jmh:Go.Ev.isAgg ε 27=some false:=by kernel_rfl
theorem jmg:Go.Ev.sizeOf ε 27=some 1:=by kernel_rfl
theorem jao:Go.Ev.isAgg ε 29=some true:=by kernel_rfl
theorem jan:Go.Ev.sizeOf ε 29=some 6:=by kernel_rfl
theorem jqt {t:TypeId}{b k:Nat}{cs:List AV}{s:St}(h1:Go.Ev.isAgg ε t=some true)(h2:Go.Ev.sizeOf ε t=some k)(C:Cl s b cs)(hi:cs.length=k)(hk:0<k)(hc:cs.all eqs=true):j9 ε t (.ptr b 0) (.agg cs) s.h=true:=
 Y4 h1 h2 hk (by rw[C.len];omega) (by rw[C.ratsP k 0 om,Qba,<-hi,Qaf]) hc
theorem juj (hb:NB base){y:Ex}{d b:Nat}{v:Bool}(hd:d<=60)(ih:Tot base 130 [.agg (eE y),.int .i64 (d:Int)] (.bool v)){st:St}(C:Cl st b [.int .i64 ((d+1:Nat):Int)])(K Kp:AV->St->Prop) :
  XB ε base 151 [.agg (eE y),.ptr b 0] st K Kp=K (.bool (!v)) (nw st (eE y)):=by
 refine je8 (λK Kp hK=>?_) K Kp;refine Jf jtA (by rfl) (hb.at0 151 dc dc _ _) ?_;simp only[jpf,jt,κ,μ,ν,ξ];rw[(by unfold jjR;simp only[qq];rfl:jjR=_)];have hK:K (.bool (!v)) (bk st (nw st.bare (eE y))):=hK;have C:=C.bar;have hbk:bk st st.bare=st:=rfl;have hbc:back st st.bare=st:=rfl;have hbb:st.bare.bare=st.bare:=rfl;generalize st.bare=s0 at *;have L0:=C.lt;have e:((d+1:Nat):Int) - 1=(d:Int):=om
 (have zz:=C.r;(repeat'(first|apply jc<;>intro _|simp(disch:=first|exact qT|fail) only[ih,e,C.q,C.r,r6,γ,δ,ζ,η,θ]));all_goals clear zz)
 exact hK
theorem Wz (d:Nat)(x:Ex):ze (d+1) x=(decide (1<=x.op) && decide (x.op<31) && decide ((x.kids.length:Int)=if 5<=x.op/\x.op<=13 then 1 else if 14<=x.op/\x.op<31 then 2 else 0) && ub x && x.kids.all (ze d)):=rfl
theorem jeO {α:Type}(p:α->Bool):∀ xs:List α,xs.all p = !(xs.any λx=>!p x)
 |[]=>rfl
 |x :: xs=>by rw[QaF,List.any_cons,jeO p xs];cases p x<;>simp
theorem jnH (hb:NB base):∀ (d:Nat),d<=60->∀ x:Ex,szE x<=BIG->Tot base 130 [.agg (eE x),.int .i64 (d:Int)] (.bool (ze d x)):=by
 intro d;induction d with
 |zero=>
  intro _ x hx;refine hb.tot ?_ (by first|rfl|simp[pa,pc,qZ,Tk.cells_p]) rfl;refine jE jpU (by rfl) (hb.pur 130 1 dc) ?_;simp only[jkt,jt,κ,μ,ν,ξ];rw[(by unfold jbl;simp only[qq];rfl:jbl=_)];repeat'(first|apply jc<;>intro _|simp(disch:=first|exact dzD|fail) only[r6,γ,δ,ζ,η,θ])
  all_goals exact G0.v rfl rfl
 |succ d ih=>
  intro hd x hx;refine hb.tot ?_ (by first|rfl|simp[pa,pc,qZ,Tk.cells_p]) rfl;refine jE jpU (by rfl) (hb.pur 130 1 dc) ?_;simp only[jkt,jt,κ,μ,ν,ξ];rw[(by unfold jbl;simp only[qq];rfl:jbl=_)];have hs1:∀ k v,k<6->(eE x).getD k .bad=v->eqs v=true->j9 ε 3 (.ptr 0 k) v (nw (nw st0 (eE x)) [.int .i64 ((d+1:Nat):Int)]).h=true:=λk v hk hv hc=>KA jqb jqa ((Cl.new st0 (eE x)).nw _) (by rw[zK];exact hk) hv hc;have hs2:j9 ε 27 (.ptr 0 3) (.lst x.kids.length (fl eE x.kids)) (nw (nw st0 (eE x)) [.int .i64 ((d+1:Nat):Int)]).h=true:=KA jmh jmg ((Cl.new st0 (eE x)).nw _) (by rw[zK];decide) (GN x 3) rfl;have hs3:j9 ε 29 (.ptr 0 0) (.agg (eE x)) (nw (nw st0 (eE x)) [.int .i64 ((d+1:Nat):Int)]).h=true:=jqt jao jan ((Cl.new st0 (eE x)).nw _) (zK x) dc (by rw[qJ];rfl);have hkl:=Yz x.kids;have hsz:=X7 x;have hB:BIG=1099511627776:=rfl;have hs:=Wz d x;obtain⟨s',_,e⟩:=jrQ hb x.kids om 151 [.ptr 1 0] (λy=>!ze d y) (R:=λs=>Cl s 1 [.int .i64 ((d+1:Nat):Int)]) (λs t h=>⟨h.lt,h.row,h.len,h.cell⟩) (λs h=>h.bar)
   (λy hy s C=>⟨nw s (eE y),C.nw _,λK Kp=>juj hb om (ih om y (by
    obtain⟨k,hk,rfl⟩:=List.getElem_of_mem hy;have:=Xy hk;omega)) C K Kp⟩) (Cl.new (nw st0 (eE x)) [.int .i64 ((d+1:Nat):Int)])
  repeat'(first|apply jc<;>intro _|simp(disch:=first|exact dzD|fail) only[jqV hb,jqU hb x om,hs1,hs2,hs3,e,r6,γ,δ,ζ,η,θ])
  ·refine G0.v ?_ rfl;rw[hs];simp;omega
  ·refine G0.v ?_ rfl;rw[hs];simp;omega
  ·refine G0.v ?_ rfl;rw[hs];simp[*]
  ·refine G0.v ?_ rfl;rw[hs];simp[*]
  ·refine G0.v ?_ rfl;rw[hs,jeO];first|(simp[*];done)|(simp[*];omega)|(simp;intro _;refine⟨⟨⟨om,om⟩,by simp_all⟩,by simp_all⟩)
theorem joz (hb:NB base)(x:Ex)(hx:szE x<=BIG):Tot base 102 [.agg (eE x)] (.bool (ze 60 x)):=by
 refine hb.tot ?_ (by first|rfl|simp[pa,pc,qZ,Tk.cells_p]) rfl;refine jE x95 (by rfl) (hb.pur 102 1 dc) ?_;simp only[y95,jt,κ,μ,ν,ξ];rw[(by unfold z95;simp only[qq];rfl:z95=_)];have:Tot base 130 [.agg (eE x),.int .i64 60] (.bool (ze 60 x)):=jnH hb 60 (τ _) x hx;repeat'(first|apply jc<;>intro _|simp(disch:=first|exact dzD|fail) only[this,r6,γ,δ,ζ,η,θ])
 exact G0.v rfl rfl
def tk (ts:List Tk)(i:Nat):Tk:=ts.getD i ⟨0,[],0,0,0⟩
theorem jmk {ts:List Tk}{i:Nat}(h:i<ts.length):ts[i]=tk ts i:=by simp[tk,Qad,h]
def pC (ts:List Tk)(i d:Nat):List AV:=[.lst ts.length (fl Tk.cells ts),.int .i64 (i:Int),.int .i64 (d:Int)]
theorem Y9 (hb:NB base){ts:List Tk}{i d:Nat}(hi:i<ts.length):Met ε base 73 (pC ts i d) [] (.ok (.agg (tk ts i).cells)) (pC ts i d):=by
 refine PM.met ?_ rfl λp st=>hb.no 73 dc _ _;refine qc x49 (by rfl) (hb.pur 73 3 dc) rfl ?_;simp only[y49,jt,κ,μ,ν,ξ];rw[(by unfold z49;simp only[qq];rfl:z49=_)];unfold pC;repeat'(first|apply jc<;>intro _|simp(disch:=first|exact dzD|fail) only[hi,r6,γ,δ,ζ,η,θ])
 rw[jmk hi];refine G1.done ?_ rfl rfl (FzD.agg (.pc (by rfl)));simp(disch:=first|assumption|decide|omega|(simp only[ji,jo,jr,ju,jq,ym,υ,ω];first|done|omega)) only[jB,jD,jz];exact Cl.new _ _
theorem uS (S:List (List Nat)):(S.map AV.str).all pc=true:=by induction S with|nil=>rfl|cons x S ih=>simp[pc]
theorem jhi (hb:NB base){ts:List Tk}{i d:Nat}(hi:i<ts.length)(h2:i<=1000000)(S:List (List Nat))(hS:S.length<=1000000) :
  (isM (tk ts i) S=true->PM ε base 86 (pC ts i d) [.lst S.length (S.map .str)] (.ok (.tup [.agg (tk ts i).cells,.bool true])) (pC ts (i+1) d)) /\
  (isM (tk ts i) S=false->PM ε base 86 (pC ts i d) [.lst S.length (S.map .str)] (.ok (.tup [.agg (tk ts i).cells,.bool false])) (pC ts i d)):=by
 have N:=λst p=>@Y9 base hb ts i d hi st p;unfold pC at *;constructor<;>intro h
 ·refine qc x76 (by rfl) (hb.pur 86 3 dc) rfl ?_;simp only[y76,jt,κ,μ,ν,ξ];rw[(by unfold z76;simp only[qq];rfl:z76=_)];repeat'(first|apply jc<;>intro _|simp(disch:=first|exact dzD|fail) only[N,jr1 hb (tk ts i) S hS,h,r6,γ,δ,ζ,η,θ])
  (refine G1.done ?_ (by rfl) (by rfl) ?_;(· (first|exact cyD|fail));(· first|exact vyD|skip))
 ·refine qc x76 (by rfl) (hb.pur 86 3 dc) rfl ?_;simp only[y76,jt,κ,μ,ν,ξ];rw[(by unfold z76;simp only[qq];rfl:z76=_)];repeat'(first|apply jc<;>intro _|simp(disch:=first|exact dzD|fail) only[N,jr1 hb (tk ts i) S hS,h,r6,γ,δ,ζ,η,θ])
  (refine G1.done ?_ (by rfl) (by rfl) ?_;(· (first|exact cyD|fail));(· first|exact vyD|skip))
theorem jqi (hb:NB base){ts:List Tk}{i d:Nat}(hi:i<ts.length)(h2:i<=1000000)(S:List (List Nat))(hS:S.length<=1000000){st:St}{p:Nat}(C:Cl st p (pC ts i d))(K Kp:AV->St->Prop) :
  XB ε base 86 [.ptr p 0,.lst S.length (S.map .str)] st K Kp=ifW (isM (tk ts i) S=true) (K (.tup [.agg (tk ts i).cells,.bool true]) (wr st p 0 (pC ts (i+1) d))) (K (.tup [.agg (tk ts i).cells,.bool false]) (wr st p 0 (pC ts i d))):=by
 have T:=jhi hb hi h2 (d:=d) S hS;cases h:isM (tk ts i) S with
 |true=>rw[gn rfl];exact(T.1 h).xb C rfl (λst=>hb.no 86 dc _ _) K Kp
 |false=>rw[gq dc];exact(T.2 h).xb C rfl (λst=>hb.no 86 dc _ _) K Kp
theorem Y0 (hb:NB base){ts:List Tk}{i d:Nat}(hi:i<ts.length)(h2:i<=1000000)(S:List (List Nat)){cs:List AV}{n:Nat}(hc:S.map .str=cs)(hn:S.length=n)(hS:n<=1000000)(st:St)(p b m:Nat)(x:Bool)(C:Cl st p (pC ts i d))(D:Cl st b cs)(hne:p≠b)(K Kp:AV->St->Prop) :
  XB ε base 86 [.ptr p 0,.slice b 0 n m 1 x] st K Kp=ifW (isM (tk ts i) S=true) (K (.tup [.agg (tk ts i).cells,.bool true]) (wr (kl b st) p 0 (pC ts (i+1) d))) (K (.tup [.agg (tk ts i).cells,.bool false]) (wr (kl b st) p 0 (pC ts i d))):=by
 subst hc hn;have T:=jhi hb hi h2 (d:=d) S hS;have F:Fza st [.slice b 0 S.length m 1 x] [.lst S.length (S.map .str)] [b]:=Fza.sl D (by simp) (uS S) .nil;have C':Cl (kills [b] st) p (pC ts i d):=(jT hne).symm▸C;cases h:isM (tk ts i) S with
 |true=>rw[gn rfl];exact(T.1 h).xbk C' F rfl (λst=>hb.no 86 dc _ _) K Kp
 |false=>rw[gq dc];exact(T.2 h).xbk C' F rfl (λst=>hb.no 86 dc _ _) K Kp
theorem jlf (hb:NB base)(t:Tk)(S:List (List Nat)){cs:List AV}{n:Nat}(hc:S.map .str=cs)(hn:S.length=n)(hS:n<=1000000)(st:St)(b m:Nat)(x:Bool)(D:Cl st b cs)(K Kp:AV->St->Prop) :
  XB ε base 119 [.agg t.cells,.slice b 0 n m 1 x] st K Kp=K (.bool (isM t S)) (kl b st):=by
 subst hc hn;have F:Fza st [.agg t.cells,.slice b 0 S.length m 1 x] [.agg t.cells,.lst S.length (S.map .str)] [b]:=Fza.pa (by rfl) (Fza.sl D (by simp) (uS S) .nil);exact(jr2 hb t S hS).xf F (λst=>hb.no 119 dc _ _) K Kp
theorem jqM (hb:NB base){ts:List Tk}{i d:Nat}(hi:i<ts.length)(h2:i<=1000000)(c:List Nat) :
  (isM (tk ts i) [c]=true->PM ε base 121 (pC ts i d) [.str c] (.ok (.tup [])) (pC ts (i+1) d)) /\
  (isM (tk ts i) [c]=false->PM ε base 121 (pC ts i d) [.str c] (.pn (er (tk ts i))) (pC ts i d)):=by
 have T:=Y0 hb hi h2 (d:=d) [c] (cs:=[.str c]) (n:=1) rfl rfl dc;unfold pC at *;constructor<;>intro h
 ·refine qc jpV (by rfl) (hb.pur 121 3 dc) rfl ?_;simp only[jku,jt,κ,μ,ν,ξ];rw[(by unfold gV;simp only[qq];rfl:gV=_)];repeat'(first|apply jc<;>intro _|simp(disch:=first|exact dzD|fail) only[T,h,Qr hb,r6,γ,δ,ζ,η,θ])
  (refine G1.done ?_ (by rfl) (by rfl) ?_;(· (first|exact cyD|fail));(· first|exact vyD|skip))
 ·refine qc jpV (by rfl) (hb.pur 121 3 dc) rfl ?_;simp only[jku,jt,κ,μ,ν,ξ];rw[(by unfold gV;simp only[qq];rfl:gV=_)];repeat'(first|apply jc<;>intro _|simp(disch:=first|exact dzD|fail) only[T,h,Qr hb,r6,γ,δ,ζ,η,θ])
  (refine G1.done ?_ (by rfl) (by rfl) ?_;(· (first|exact cyD|fail));(· first|exact vyD|skip))
theorem PM.two {P:Program}{f:FuncId}{cs xs c1 c2:List AV}{o1 o2:Oc}{q:Bool}(h:(q=true->PM P base f cs xs o1 c1)/\(q=false->PM P base f cs xs o2 c2))(hp:xs.all pa=true)(hb:∀ p st,base.run f (.ptr p 0 :: xs) st=.no){st:St}{p:Nat}(C:Cl st p cs)(K Kp:AV->St->Prop) :
  XB P base f (.ptr p 0 :: xs) st K Kp=ifW (q=true) (YC o1 K Kp (wr st p 0 c1)) (YC o2 K Kp (wr st p 0 c2)):=by
 cases hq:q with
 |true=>rw[gn rfl];exact(h.1 hq).xb C hp (hb p) K Kp
 |false=>rw[gq dc];exact(h.2 hq).xb C hp (hb p) K Kp
theorem QV (hb:NB base){ts:List Tk}{i d:Nat}(hi:i<ts.length)(h2:i<=1000000)(c:List Nat){st:St}{p:Nat}(C:Cl st p (pC ts i d))(K Kp:AV->St->Prop) :
  XB ε base 121 [.ptr p 0,.str c] st K Kp=ifW (isM (tk ts i) [c]=true) (K (.tup []) (wr st p 0 (pC ts (i+1) d))) (Kp (er (tk ts i)) (wr st p 0 (pC ts i d))):=
 PM.two (o1:=.ok _) (o2:=.pn _) (jqM hb hi h2 c) rfl (λ_ _=>hb.no 121 dc _ _) C K Kp
theorem uZ (hb:NB base){ts:List Tk}{i d:Nat}(hi:i<ts.length)(h2:i<=1000000){st:St}{p:Nat}(C:Cl st p (pC ts i d))(K Kp:AV->St->Prop) :
  XB ε base 120 [.ptr p 0] st K Kp=ifW (decide ((tk ts i).kind=1)=true) (K (.agg (tk ts i).cells) (wr st p 0 (pC ts (i+1) d))) (Kp (er (tk ts i)) (wr st p 0 (pC ts i d))):=by
 refine PM.two (o1:=.ok _) (o2:=.pn _) ?_ rfl (λ_ _=>hb.no 120 dc _ _) C K Kp;have N:=λst p=>@Y9 base hb ts i d hi st p;unfold pC at *;clear C;constructor<;>intro h
 ·have h':((tk ts i).kind:Int)=1:=by simp at h;omega
  refine qc jpW (by rfl) (hb.pur 120 3 dc) rfl ?_;simp only[jkv,jt,κ,μ,ν,ξ];rw[(by unfold jbm;simp only[qq];rfl:jbm=_)];repeat'(first|apply jc<;>intro _|simp(disch:=first|exact dzD|fail) only[N,h',Qr hb,r6,γ,δ,ζ,η,θ])
  (refine G1.done ?_ (by rfl) (by rfl) ?_;(· (first|exact cyD|fail));(· first|exact vyD|skip))
 ·have h':¬ ((tk ts i).kind:Int)=1:=by simp at h;omega
  refine qc jpW (by rfl) (hb.pur 120 3 dc) rfl ?_;simp only[jkv,jt,κ,μ,ν,ξ];rw[(by unfold jbm;simp only[qq];rfl:jbm=_)];repeat'(first|apply jc<;>intro _|simp(disch:=first|exact dzD|fail) only[N,h',Qr hb,r6,γ,δ,ζ,η,θ])
  (refine G1.done ?_ (by rfl) (by rfl) ?_;(· (first|exact cyD|fail));(· first|exact vyD|skip))
theorem jhQ (hb:NB base){ts:List Tk}{i d:Nat}(hi:i<ts.length)(h2:d<=1000000){st:St}{p:Nat}(C:Cl st p (pC ts i d))(K Kp:AV->St->Prop) :
  XB ε base 146 [.ptr p 0] st K Kp=ifW (decide (60<d+1)=true) (Kp (er (tk ts i)) (wr st p 0 (pC ts i (d+1)))) (K (.tup []) (wr st p 0 (pC ts i (d+1)))):=by
 refine PM.two (o1:=.pn _) (o2:=.ok _) ?_ rfl (λ_ _=>hb.no 146 dc _ _) C K Kp;have N:=λst p=>@Y9 base hb ts i (d+1) hi st p;have e:((d:Int)+1)=((d+1:Nat):Int):=om
 unfold pC at *;clear C;constructor<;>intro h
 ·have h':(60:Int)<((d+1:Nat):Int):=by simp at h;omega
  refine qc jpT (by rfl) (hb.pur 146 3 dc) rfl ?_;simp only[jks,jt,κ,μ,ν,ξ];rw[(by unfold jbk;simp only[qq];rfl:jbk=_)];repeat'(first|apply jc<;>intro _|simp(disch:=first|exact dzD|fail) only[N,h',Qr hb,e,r6,γ,δ,ζ,η,θ])
  (refine G1.done ?_ (by rfl) (by rfl) ?_;(· (first|exact cyD|fail));(· first|exact vyD|skip))
 ·have h':¬ (60:Int)<((d+1:Nat):Int):=by simp at h;omega
  refine qc jpT (by rfl) (hb.pur 146 3 dc) rfl ?_;simp only[jks,jt,κ,μ,ν,ξ];rw[(by unfold jbk;simp only[qq];rfl:jbk=_)];repeat'(first|apply jc<;>intro _|simp(disch:=first|exact dzD|fail) only[N,h',Qr hb,e,r6,γ,δ,ζ,η,θ])
  (refine G1.done ?_ (by rfl) (by rfl) ?_;(· (first|exact cyD|fail));(· first|exact vyD|skip))
abbrev Lev:=List (List Nat)×Nat
def zB:List (List Nat):=[[45],[33],[88],[70],[71],[89],[90],[79],[72]]
def UK (text:List Nat):Nat:=5+zB.idxOf text
inductive PR where
 |ok (x:Ex) (j:Nat)
 |er (t:Tk)
mutual
def y7 (ts:List Tk):Nat->List Lev->Nat->Nat->Option PR
 |0,_,_,_=>none
 |n+1,[],i,d=>QK ts n i d
 |n+1,v :: l,i,d=>match y7 ts n l i d with
  |some (.ok x j)=>Q8 ts n v l x j d
  |r=>r
def Q8 (ts:List Tk):Nat->Lev->List Lev->Ex->Nat->Nat->Option PR
 |0,_,_,_,_,_=>none
 |n+1,v,l,x,i,d=>
  if isM (tk ts i) v.1=true then
   (if v.2=1 then(match y7 ts n (v :: l) (i+1) d with
    |some (.ok y j)=>some (.ok (QG (tk ts i) x y) j)
    |r=>r)
   else(match y7 ts n l (i+1) d with
    |some (.ok y j)=>if v.2=2 then some (.ok (QG (tk ts i) x y) j) else Q8 ts n v l (QG (tk ts i) x y) j d
    |r=>r))
  else some (.ok x i)
def QK (ts:List Tk):Nat->Nat->Nat->Option PR
 |0,_,_=>none
 |n+1,i,d=>
  if isM (tk ts i) zB=true then
   (if 60<d+1 then some (.er (tk ts (i+1))) else(match QK ts n (i+1) (d+1) with
    |some (.ok x j)=>some (.ok (.mk (UK (tk ts i).text:Nat) 0 [] [x] (tk ts i).line (tk ts i).col) j)
    |r=>r))
  else Yy ts n i d
def Yy (ts:List Tk):Nat->Nat->Nat->Option PR
 |0,_,_=>none
 |n+1,i,d=>
  if(tk ts i).kind=2 then some (.ok (.mk 1 (tk ts i).num [] [] (tk ts i).line (tk ts i).col) (i+1))
  else if(tk ts i).kind=1 then some (.ok (.mk 3 0 (tk ts i).text [] (tk ts i).line (tk ts i).col) (i+1))
  else if isM (tk ts i) [[116,114,117,101]]=true then some (.ok (.mk 2 1 [] [] (tk ts i).line (tk ts i).col) (i+1))
  else if isM (tk ts i) [[102,97,108,115,101]]=true then some (.ok (.mk 2 0 [] [] (tk ts i).line (tk ts i).col) (i+1))
  else if isM (tk ts i) [[40]]=true then
   (if 60<d+1 then some (.er (tk ts (i+1))) else(match y7 ts n Jm (i+1) (d+1) with
    |some (.ok x j)=>if isM (tk ts j) [[41]]=true then some (.ok x (j+1)) else some (.er (tk ts j))
    |r=>r))
  else some (.er (tk ts i))
end
structure Wds (ts:List Tk):Prop where
 len:ts.length<=1000000
 next:∀ i,i<ts.length->(tk ts i).kind≠5->i+1<ts.length
 txt:∀ i,(tk ts i).text.length<=65536
theorem WT {t:Tk}{S:List (List Nat)}(h:isM t S=true):(t.kind=3\/t.kind=4)/\t.text∈S:=by
 simpa[isM] using h
theorem Wds.isM {ts:List Tk}(W:Wds ts){i:Nat}(hi:i<ts.length){S:List (List Nat)}(h:isM (tk ts i) S=true):i+1<ts.length:=W.next i hi (by have:=(WT h).1;omega)
def Sz (ts:List Tk)(i:Nat)(a:Nat)(r:PR):Prop:=match r with | .ok x j=>i<=j/\j<ts.length/\szE x<=a+(j - i) * 65537 | .er _=>True
theorem Xc (op num:Int)(nm:List Nat)(ks:List Ex)(l c:Int):szE (.mk op num nm ks l c)=yJ ks+nm.length+1:=rfl
theorem jnC (t:Tk)(x y:Ex):szE (QG t x y)<=szE x+szE y+1:=by
 unfold QG;split
 ·rw[Xc];simp[yJ]
 ·rw[Xc];simp[yJ]
theorem UB {ts:List Tk}(W:Wds ts):∀ n,(∀ lv i d r,y7 ts n lv i d=some r->i<ts.length->Sz ts i 0 r)/\(∀ v l x i d r,Q8 ts n v l x i d=some r->i<ts.length->Sz ts i (szE x) r)/\(∀ i d r,QK ts n i d=some r->i<ts.length->Sz ts i 0 r)/\(∀ i d r,Yy ts n i d=some r->i<ts.length->Sz ts i 0 r):=by
 intro n;induction n with
 |zero=>exact⟨λ_ _ _ _ h=>(by simp[y7] at h),λ_ _ _ _ _ _ h=>(by simp[Q8] at h),λ_ _ _ h=>(by simp[QK] at h),λ_ _ _ h=>(by simp[Yy] at h)⟩
 |succ n ih=>
  obtain⟨iE,iL,iP,iV⟩:=ih;refine⟨λlv i d r h hi=>?_,λv l x i d r h hi=>?_,λi d r h hi=>?_,λi d r h hi=>?_⟩
  ·cases lv with
   |nil=>unfold y7 at h;exact iP i d r h hi
   |cons v l=>
    unfold y7 at h;cases hx:y7 ts n l i d with
    |none=>rw[hx] at h;cases h
    |some q=>cases q with
     |er t=>rw[hx] at h;cases h;trivial
     |ok x j=>
      rw[hx] at h;have h1:=iE l i d _ hx hi;have h2:=iL v l x j d r h h1.2.1;cases r with
      |er t=>trivial
      |ok y k=>
       simp only[Sz] at h1 h2 ⊢;obtain⟨a1,a2,a3⟩:=h1;obtain⟨b1,b2,b3⟩:=h2;refine⟨om,b2,?_⟩;have:(k - i) * 65537=(k - j) * 65537+(j - i) * 65537:=by rw[<-QaH];congr 1;omega
       omega
  ·unfold Q8 at h;by_cases c:isM (tk ts i) v.1=true
   ·rw[if_pos c] at h;have hi1:=W.isM hi c;have key:∀ lv y j,y7 ts n lv (i+1) d=some (.ok y j)->i<=j/\j<ts.length/\szE (QG (tk ts i) x y)<=szE x+(j - i) * 65537:=λlv y j he=>by
     have h1:=iE lv (i+1) d _ he hi1;simp only[Sz] at h1;obtain⟨a1,a2,a3⟩:=h1;have:=jnC (tk ts i) x y;have:(j - i) * 65537=(j - (i+1)) * 65537+65537:=by rw[<-QaT];congr 1;omega
     exact⟨om,a2,om⟩
    by_cases w1:v.2=1
    ·rw[if_pos w1] at h;cases he:y7 ts n (v :: l) (i+1) d with
     |none=>rw[he] at h;cases h
     |some q=>cases q with
      |er t=>rw[he] at h;cases h;trivial
      |ok y j=>rw[he] at h;cases h;exact key _ y j he
    ·rw[if_neg w1] at h;cases he:y7 ts n l (i+1) d with
     |none=>rw[he] at h;cases h
     |some q=>cases q with
      |er t=>rw[he] at h;cases h;trivial
      |ok y j=>
       rw[he] at h;have hk:=key _ y j he;by_cases w2:v.2=2
       ·simp only[w2,if_true] at h;cases h;exact hk
       ·simp only[w2,if_false] at h;have h2:=iL v l _ j d r h hk.2.1;cases r with
        |er t=>trivial
        |ok z k=>
         simp only[Sz] at h2 ⊢;obtain⟨b1,b2,b3⟩:=h2;refine⟨om,b2,?_⟩;have:(k - i) * 65537=(k - j) * 65537+(j - i) * 65537:=by rw[<-QaH];congr 1;omega
         omega
   ·rw[if_neg c] at h;cases h;exact⟨τ _,hi,om⟩
  ·unfold QK at h;by_cases c:isM (tk ts i) zB=true
   ·rw[if_pos c] at h;have hi1:=W.isM hi c;by_cases hd:60<d+1
    ·rw[if_pos hd] at h;cases h;trivial
    ·rw[if_neg hd] at h;cases he:QK ts n (i+1) (d+1) with
     |none=>rw[he] at h;cases h
     |some q=>cases q with
      |er t=>rw[he] at h;cases h;trivial
      |ok y j=>
       rw[he] at h;cases h;have h1:=iP (i+1) (d+1) _ he hi1;simp only[Sz] at h1 ⊢;obtain⟨a1,a2,a3⟩:=h1;have:(j - i) * 65537=(j - (i+1)) * 65537+65537:=by rw[<-QaT];congr 1;omega
       refine⟨om,a2,?_⟩;rw[Xc];simp[yJ];omega
   ·rw[if_neg c] at h;exact iV i d r h hi
  ·unfold Yy at h;have ht:=W.txt i;have leaf:∀ (x:Ex),szE x<=65537->i+1<ts.length->Sz ts i 0 (.ok x (i+1)):=λx hx h1=>⟨om,h1,om⟩;by_cases k2:(tk ts i).kind=2
   ·rw[if_pos k2] at h;cases h;exact leaf _ (by rw[Xc];simp[yJ]) (W.next i hi om)
   rw[if_neg k2] at h;by_cases k1:(tk ts i).kind=1
   ·rw[if_pos k1] at h;cases h;exact leaf _ (by rw[Xc];simp[yJ];omega) (W.next i hi om)
   rw[if_neg k1] at h;split at h
   ·cases h;exact leaf _ (by rw[Xc];simp[yJ]) (W.isM hi ‹_›)
   split at h
   ·cases h;exact leaf _ (by rw[Xc];simp[yJ]) (W.isM hi ‹_›)
   split at h
   ·rename_i c;have hi1:=W.isM hi c;by_cases hd:60<d+1
    ·rw[if_pos hd] at h;cases h;trivial
    ·rw[if_neg hd] at h;cases he:y7 ts n Jm (i+1) (d+1) with
     |none=>rw[he] at h;cases h
     |some q=>cases q with
      |er t=>rw[he] at h;cases h;trivial
      |ok y j=>
       rw[he] at h;have h1:=iE Jm (i+1) (d+1) _ he hi1;simp only[Sz] at h1;obtain⟨a1,a2,a3⟩:=h1;dsimp only at h;by_cases c2:isM (tk ts j) [[41]]=true
       ·rw[if_pos c2] at h;cases h;have:=W.isM a2 c2;simp only[Sz];exact⟨om,this,Qab a3 (Nat.add_le_add_left (Qaz _ om) _)⟩
       ·rw[if_neg c2] at h;cases h;trivial
   ·cases h;trivial
def Ans (base:Bs)(f:FuncId)(c xs:List AV)(ts:List Tk)(d:Nat):PR->Prop
 |.ok x j=>PM ε base f c xs (.ok (.agg (eE x))) (pC ts j d)
 |.er t=>∃ i' d',PM ε base f c xs (.pn (er t)) (pC ts i' d')
def okL (lv:List Lev):Prop:=lv.length<=8/\∀ v∈lv,v.1.length<=6
def IsE (base:Bs)(ts:List Tk)(n:Nat):Prop:=∀ lv i d r,y7 ts n lv i d=some r->i<ts.length->d<=60->okL lv->Ans base 100 (pC ts i d) [.lst lv.length (fl Xi lv)] ts d r
def IsP (base:Bs)(ts:List Tk)(n:Nat):Prop:=∀ i d r,QK ts n i d=some r->i<ts.length->d<=60->Ans base 128 (pC ts i d) [] ts d r
def IsV (base:Bs)(ts:List Tk)(n:Nat):Prop:=∀ i d r,Yy ts n i d=some r->i<ts.length->d<=60->Ans base 145 (pC ts i d) [] ts d r
theorem jue:Go.Ev.isAgg ε 2=some false:=by kernel_rfl
theorem jud:Go.Ev.sizeOf ε 2=some 1:=by kernel_rfl
theorem jsm:Go.Ev.isAgg ε 146=some true:=by kernel_rfl
theorem jsl:Go.Ev.sizeOf ε 146=some 5:=by kernel_rfl
theorem sm2 {b o:Nat}{v:AV}{h:T AO}(ho:o<qv h b)(hv:rat h b o=v)(hc:eqs v=true):(j9 ε 2 (.ptr b o) v h=true)=True:=eq_true (Qk jue jud ho hv hc)
theorem sm9 {b o:Nat}{v:AV}{h:T AO}(ho:o<qv h b)(hv:rat h b o=v)(hc:eqs v=true):(j9 ε 9 (.ptr b o) v h=true)=True:=eq_true (Qk jkE jkD ho hv hc)
theorem yS (k:IntKind)(n:Int):eqs (.int k n)=true:=nr rfl
theorem yR (l:List Nat):eqs (.str l)=true:=nr rfl
set_option maxHeartbeats 4000000 in
theorem jnq (hb:NB base){ts:List Tk}(W:Wds ts){n:Nat}(ihE:IsE base ts n):IsV base ts (n+1):=by
 intro i d r h hi hd;have hN:=λst p=>@Y9 base hb ts i d hi st p;have wl:=W.len;have hx:(i:Int)+1=((i+1:Nat):Int):=om
 unfold Yy at h;by_cases k2:(tk ts i).kind=2
 ·rw[if_pos k2] at h;cases h;have k2':((tk ts i).kind:Int)=2:=om
  show PM _ _ _ _ _ _ _;unfold pC at *;refine qc Wj (by rfl) (hb.pur 145 3 dc) rfl ?_;simp only[uB,jt,κ,μ,ν,ξ];rw[(by unfold QD;simp only[qq];rfl:QD=_)]
  (have zz:=aI @yS @yR;(repeat'(first|apply jc<;>intro _|simp(disch:=first|exact qT|fail) only[hN,k2',sm2,yS,yR,r6,γ,δ,ζ,η,θ]));all_goals clear zz)
  (refine G1.done ?_ (by rfl) (by rfl) ?_;(· (first|exact cyD|fail));(· first|exact vyD|skip))
 rw[if_neg k2] at h;have k2':¬ ((tk ts i).kind:Int)=2:=om
 by_cases k1:(tk ts i).kind=1
 ·rw[if_pos k1] at h;cases h;have k1':((tk ts i).kind:Int)=1:=om
  show PM _ _ _ _ _ _ _;unfold pC at *;refine qc Wj (by rfl) (hb.pur 145 3 dc) rfl ?_;simp only[uB,jt,κ,μ,ν,ξ];rw[(by unfold QD;simp only[qq];rfl:QD=_)]
  (have zz:=aI @yS @yR;(repeat'(first|apply jc<;>intro _|simp(disch:=first|exact qT|fail) only[hN,k2',k1',sm9,yS,yR,r6,γ,δ,ζ,η,θ]));all_goals clear zz)
  (refine G1.done ?_ (by rfl) (by rfl) ?_;(· (first|exact cyD|fail));(· first|exact vyD|skip))
 rw[if_neg k1] at h;have k1':¬ ((tk ts i).kind:Int)=1:=om
 have T:=jlf hb (tk ts i) [[116,114,117,101]] (cs:=[.str [116,114,117,101]]) (n:=1) rfl rfl dc;have F:=jlf hb (tk ts i) [[102,97,108,115,101]] (cs:=[.str [102,97,108,115,101]]) (n:=1) rfl rfl dc;have B:=jlf hb (tk ts i) [[40]] (cs:=[.str [40]]) (n:=1) rfl rfl dc;by_cases c1:isM (tk ts i) [[116,114,117,101]]=true
 ·rw[if_pos c1] at h;cases h;show PM _ _ _ _ _ _ _;unfold pC at *;refine qc Wj (by rfl) (hb.pur 145 3 dc) rfl ?_;simp only[uB,jt,κ,μ,ν,ξ];rw[(by unfold QD;simp only[qq];rfl:QD=_)];repeat'(first|apply jc<;>intro _|simp(disch:=first|exact dzD|fail) only[hN,k2',k1',T,c1,r6,γ,δ,ζ,η,θ])
  (refine G1.done ?_ (by rfl) (by rfl) ?_;(· (first|exact cyD|fail));(· first|exact vyD|skip))
 rw[if_neg c1] at h;by_cases c2:isM (tk ts i) [[102,97,108,115,101]]=true
 ·rw[if_pos c2] at h;cases h;show PM _ _ _ _ _ _ _;unfold pC at *;refine qc Wj (by rfl) (hb.pur 145 3 dc) rfl ?_;simp only[uB,jt,κ,μ,ν,ξ];rw[(by unfold QD;simp only[qq];rfl:QD=_)];repeat'(first|apply jc<;>intro _|simp(disch:=first|exact dzD|fail) only[hN,k2',k1',T,F,c1,c2,r6,γ,δ,ζ,η,θ])
  (refine G1.done ?_ (by rfl) (by rfl) ?_;(· (first|exact cyD|fail));(· first|exact vyD|skip))
 rw[if_neg c2] at h;by_cases c3:isM (tk ts i) [[40]]=true
 ·rw[if_pos c3] at h;have hi1:=W.isM hi c3;have O:=λst p=>@jhQ base hb ts (i+1) d hi1 om st p;by_cases hd2:60<d+1
  ·rw[if_pos hd2] at h;cases h;refine⟨i+1,d+1,?_⟩;unfold pC at *;refine qc Wj (by rfl) (hb.pur 145 3 dc) rfl ?_;simp only[uB,jt,κ,μ,ν,ξ];rw[(by unfold QD;simp only[qq];rfl:QD=_)];repeat'(first|apply jc<;>intro _|simp(disch:=first|exact dzD|fail) only[hN,k2',k1',T,F,B,c1,c2,c3,O,hx,hd2,r6,γ,δ,ζ,η,θ])
   (refine G1.done ?_ (by rfl) (by rfl) ?_;(· (first|exact cyD|fail));(· first|exact vyD|skip))
  ·rw[if_neg hd2] at h;cases he:y7 ts n Jm (i+1) (d+1) with
   |none=>rw[he] at h;cases h
   |some q=>
    have A:=ihE _ _ _ _ he hi1 om ⟨dc,dc⟩;have hL:=jce hb;have hz:=(UB W n).1 _ _ _ _ he hi1;cases q with
    |er t=>
     rw[he] at h;cases h;obtain⟨i',d',A⟩:=A;have E:∀ st p,Cl st p (pC ts (i+1) (d+1))->∀ K Kp,XB ε base 100 [.ptr p 0,.lst 8 (fl Xi Jm)] st K Kp=_:=λst p C K Kp=>A.xb C rfl (λst=>hb.no 100 dc _ _) K Kp;refine⟨i',d',?_⟩;unfold pC at *;refine qc Wj (by rfl) (hb.pur 145 3 dc) rfl ?_;simp only[uB,jt,κ,μ,ν,ξ];rw[(by unfold QD;simp only[qq];rfl:QD=_)];repeat'(first|apply jc<;>intro _|simp(disch:=first|exact dzD|fail) only[hN,k2',k1',T,F,B,c1,c2,c3,O,hx,hd2,hL,E,r6,γ,δ,ζ,η,θ])
     (refine G1.done ?_ (by rfl) (by rfl) ?_;(· (first|exact cyD|fail));(· first|exact vyD|skip))
    |ok x j=>
     rw[he] at h;dsimp only at h;have A:PM _ _ _ _ _ _ _:=A;have E:∀ st p,Cl st p (pC ts (i+1) (d+1))->∀ K Kp,XB ε base 100 [.ptr p 0,.lst 8 (fl Xi Jm)] st K Kp=_:=λst p C K Kp=>A.xb C rfl (λst=>hb.no 100 dc _ _) K Kp;have hj:j<ts.length:=hz.2.1;have M:=λst p=>@QV base hb ts j d hj om [41] st p;have e1:((d+1:Nat):Int) - 1=(d:Int):=om
     by_cases c4:isM (tk ts j) [[41]]=true
     ·rw[if_pos c4] at h;cases h;show PM _ _ _ _ _ _ _;unfold pC at *;refine qc Wj (by rfl) (hb.pur 145 3 dc) rfl ?_;simp only[uB,jt,κ,μ,ν,ξ];rw[(by unfold QD;simp only[qq];rfl:QD=_)];repeat'(first|apply jc<;>intro _|simp(disch:=first|exact dzD|fail) only[hN,k2',k1',T,F,B,c1,c2,c3,O,hx,hd2,hL,E,e1,M,c4,r6,γ,δ,ζ,η,θ])
      (refine G1.done ?_ (by rfl) (by rfl) ?_;(· (first|exact cyD|fail));(· first|exact vyD|skip))
     ·rw[if_neg c4] at h;cases h;refine⟨j,d,?_⟩;unfold pC at *;refine qc Wj (by rfl) (hb.pur 145 3 dc) rfl ?_;simp only[uB,jt,κ,μ,ν,ξ];rw[(by unfold QD;simp only[qq];rfl:QD=_)];repeat'(first|apply jc<;>intro _|simp(disch:=first|exact dzD|fail) only[hN,k2',k1',T,F,B,c1,c2,c3,O,hx,hd2,hL,E,e1,M,c4,r6,γ,δ,ζ,η,θ])
      (refine G1.done ?_ (by rfl) (by rfl) ?_;(· (first|exact cyD|fail));(· first|exact vyD|skip))
 ·rw[if_neg c3] at h;cases h;refine⟨i,d,?_⟩;unfold pC at *;refine qc Wj (by rfl) (hb.pur 145 3 dc) rfl ?_;simp only[uB,jt,κ,μ,ν,ξ];rw[(by unfold QD;simp only[qq];rfl:QD=_)];repeat'(first|apply jc<;>intro _|simp(disch:=first|exact dzD|fail) only[hN,k2',k1',T,F,B,c1,c2,c3,Qr hb,r6,γ,δ,ζ,η,θ])
  (refine G1.done ?_ (by rfl) (by rfl) ?_;(· (first|exact cyD|fail));(· first|exact vyD|skip))
theorem jdT:∀ k:Nat,k<9->sgn ((5+k:Nat):Int)=zB.getD k []:=dc
theorem joa {x:List Nat}(h:x∈zB):zB.idxOf x<9/\sgn ((5+zB.idxOf x:Nat):Int)=x/\∀ j,j<zB.idxOf x->sgn ((5+j:Nat):Int)≠x:=by
 have h9:zB.idxOf x<9:=List.idxOf_lt_length_of_mem h;refine⟨h9,?_,λj hj=>?_⟩
 ·rw[jdT _ h9,Qam,Qai (show zB.idxOf x<zB.length from h9)];simp
 ·rw[jdT _ om,Qam,Qai (show j<zB.length by show j<9;omega)];intro he;have hlt:j<zB.findIdx (· == x):=hj;have hno:=List.not_of_lt_findIdx hlt;have he':zB[j]'(show j<zB.length by show j<9;omega)=x:=he;rw[he'] at hno;simp at hno
set_option maxHeartbeats 4000000 in
theorem jkY (hb:NB base){ts:List Tk}(W:Wds ts){n:Nat}(ihP:IsP base ts n)(ihV:IsV base ts n):IsP base ts (n+1):=by
 intro i d r h hi hd;have wl:=W.len;have hx:(i:Int)+1=((i+1:Nat):Int):=om
 have T:=Y0 hb hi (d:=d) om zB (cs:=[.str [45],.str [33],.str [88],.str [70],.str [71],.str [89],.str [90],.str [79],.str [72]]) (n:=9) rfl rfl dc;unfold QK at h;by_cases c1:isM (tk ts i) zB=true
 ·rw[if_pos c1] at h;have hi1:=W.isM hi c1;have O:=λst p=>@jhQ base hb ts (i+1) d hi1 om st p;by_cases hd2:60<d+1
  ·rw[if_pos hd2] at h;cases h;refine⟨i+1,d+1,?_⟩;unfold pC at *;refine qc jbz (by rfl) (hb.pur 128 3 dc) rfl ?_;simp only[gY,jt,κ,μ,ν,ξ];rw[(by unfold vg;simp only[qq];rfl:vg=_)];repeat'(first|apply jc<;>intro _|simp(disch:=first|exact dzD|fail) only[T,c1,O,hd2,r6,γ,δ,ζ,η,θ])
   (refine G1.done ?_ (by rfl) (by rfl) ?_;(· (first|exact cyD|fail));(· first|exact vyD|skip))
  ·rw[if_neg hd2] at h;cases he:QK ts n (i+1) (d+1) with
   |none=>rw[he] at h;cases h
   |some q=>
    have A:=ihP _ _ _ he hi1 om;have hz:=(UB W n).2.2.1 _ _ _ he hi1;cases q with
    |er t=>
     rw[he] at h;cases h;obtain⟨i',d',A⟩:=A;have E:∀ st p,Cl st p (pC ts (i+1) (d+1))->∀ K Kp,XB ε base 128 [.ptr p 0] st K Kp=_:=λst p C K Kp=>A.xb C rfl (λst=>hb.no 128 dc _ _) K Kp;refine⟨i',d',?_⟩;unfold pC at *;refine qc jbz (by rfl) (hb.pur 128 3 dc) rfl ?_;simp only[gY,jt,κ,μ,ν,ξ];rw[(by unfold vg;simp only[qq];rfl:vg=_)];repeat'(first|apply jc<;>intro _|simp(disch:=first|exact dzD|fail) only[T,c1,O,hd2,E,r6,γ,δ,ζ,η,θ])
     (refine G1.done ?_ (by rfl) (by rfl) ?_;(· (first|exact cyD|fail));(· first|exact vyD|skip))
    |ok x j=>
     rw[he] at h;cases h;have A:PM _ _ _ _ _ _ _:=A;have E:∀ st p,Cl st p (pC ts (i+1) (d+1))->∀ K Kp,XB ε base 128 [.ptr p 0] st K Kp=_:=λst p C K Kp=>A.xb C rfl (λst=>hb.no 128 dc _ _) K Kp;have hj:j<ts.length:=hz.2.1;have e1:((d+1:Nat):Int) - 1=(d:Int):=om
     show PM _ _ _ _ _ _ _;unfold pC at *;refine qc jbz (by rfl) (hb.pur 128 3 dc) rfl ?_;simp only[gY,jt,κ,μ,ν,ξ];rw[(by unfold vg;simp only[qq];rfl:vg=_)];repeat'(first|apply jc<;>intro _|simp(disch:=first|exact dzD|fail) only[T,c1,O,hd2,E,e1,r6,γ,δ,ζ,η,θ])
     obtain⟨x1,x2,x3⟩:=joa (WT c1).2;refine uO λu hu=>?_;have n0:u.nx=5:=by rw[hu];rfl
     have C0:Cl u 0 [.lst ts.length (fl Tk.cells ts),.int .i64 (j:Int),.int .i64 (d:Int)]:=by
      rw[hu]
      (first|exact cyD|fail)
     have C1:Cl u 1 [.int .i64 0,.int .i64 0,.str [],.nils,.int .i64 0,.int .i64 0]:=by
      rw[hu]
      (first|exact cyD|fail)
     have C3:Cl u 3 (tk ts i).cells:=by
      rw[hu]
      (first|exact cyD|fail)
     have C4:Cl u 4 (eE x):=by
      rw[hu]
      (first|exact cyD|fail)
     clear hu;have hs:j9 ε 9 (.ptr 3 1) (.str (tk ts i).text) u.h=true:=KA jkE jkD C3 (QbA (QaR 3)) rfl rfl;refine zu (λmm L s=>∃ k:Nat,k<=zB.idxOf (tk ts i).text/\mm=zB.idxOf (tk ts i).text - k/\s=u/\Has L 0 (.ptr 0 0)/\Has L 2 (.ptr 1 0)/\Has L 3 (.ptr 3 0)/\Has L 5 (.ptr 4 0)/\Has L 6 (.int .i64 ((5+k:Nat):Int))) ?_ (zB.idxOf (tk ts i).text) ?_
     ·rintro mm L s ⟨k,hk,rfl,rfl,i0,i2,i3,i5,i6⟩;have hS:=jje hb ((5+k:Nat):Int);by_cases hk2:k=zB.idxOf (tk ts i).text
      ·rw[<-hk2] at x2
       (have zz:=aI @n0 (aI C0.r (aI C1.r (aI C3.r C4.r)));(repeat'(first|apply jc<;>intro _|simp(disch:=first|exact qT|fail) only[ja i0,ja i2,ja i3,ja i5,ja i6,hS,hs,x2,C0.q,C1.q,C3.q,C4.q,n0,C0.r,C1.r,C3.r,C4.r,r6,γ,δ,ζ,η,θ]));all_goals clear zz)
       rw[show UK (tk ts i).text=5+k by unfold UK;rw[<-hk2],<-qJ];refine G1.done ?_ (by rfl) (by rfl) (jd9 (ks:=[x]) (b:=5) (cs:=eE x) ?_ (by rw[JZ]) dc)
       ·(have zz:=aI C0.q (aI @n0 C0.r);first|exact qp|fail)
       ·rw[jz,jB dc,<-n0];exact Cl.new s _
      ·have x3':=x3 k om
       (have zz:=aI @n0 (aI C0.r (aI C1.r (aI C3.r C4.r)));(repeat'(first|apply jc<;>intro _|simp(disch:=first|exact qT|fail) only[ja i0,ja i2,ja i3,ja i5,ja i6,hS,hs,x3',C0.q,C1.q,C3.q,C4.q,n0,C0.r,C1.r,C3.r,C4.r,r6,γ,δ,ζ,η,θ]));all_goals clear zz)
       refine⟨zB.idxOf (tk ts i).text - (k+1),om,k+1,om,rfl,?_⟩;rw[show((5+(k+1):Nat):Int)=((5+k:Nat):Int)+1 by omega];simp(disch:=decide) only[h12,i0,i2,i3,i5]
     ·refine⟨0,om,rfl,rfl,?_⟩;rw[show((5+0:Nat):Int)=5 from rfl];simp(disch:=decide) only[h12]
 ·rw[if_neg c1] at h;have A:=ihV _ _ _ h hi hd;cases r with
  |er t=>
   obtain⟨i',d',A⟩:=A;have E:∀ st p,Cl st p (pC ts i d)->∀ K Kp,XB ε base 145 [.ptr p 0] st K Kp=_:=λst p C K Kp=>A.xb C rfl (λst=>hb.no 145 dc _ _) K Kp;refine⟨i',d',?_⟩;unfold pC at *;refine qc jbz (by rfl) (hb.pur 128 3 dc) rfl ?_;simp only[gY,jt,κ,μ,ν,ξ];rw[(by unfold vg;simp only[qq];rfl:vg=_)];repeat'(first|apply jc<;>intro _|simp(disch:=first|exact dzD|fail) only[T,c1,E,r6,γ,δ,ζ,η,θ])
   (refine G1.done ?_ (by rfl) (by rfl) ?_;(· (first|exact cyD|fail));(· first|exact vyD|skip))
  |ok x j=>
   have A:PM _ _ _ _ _ _ _:=A;have E:∀ st p,Cl st p (pC ts i d)->∀ K Kp,XB ε base 145 [.ptr p 0] st K Kp=_:=λst p C K Kp=>A.xb C rfl (λst=>hb.no 145 dc _ _) K Kp;show PM _ _ _ _ _ _ _;unfold pC at *;refine qc jbz (by rfl) (hb.pur 128 3 dc) rfl ?_;simp only[gY,jt,κ,μ,ν,ξ];rw[(by unfold vg;simp only[qq];rfl:vg=_)];repeat'(first|apply jc<;>intro _|simp(disch:=first|exact dzD|fail) only[T,c1,E,r6,γ,δ,ζ,η,θ])
   (refine G1.done ?_ (by rfl) (by rfl) ?_;(· (first|exact cyD|fail));(· first|exact vyD|skip))
theorem Km {α:Type}{enc:α->List AV}{z:Nat}(hz:∀ x,(enc x).length=z)(x:α)(xs:List α){k:IntKind}{n:Nat}(hn:n=xs.length+1){st:St}{K:AV->St->Prop}:jp (uD z (.lst n (fl enc (x :: xs))) (some (.int k 1)) none st) K=K (.lst xs.length (fl enc xs)) st:=by
 subst hn;have e1:Qct 1 (xs.length+1)=true:=qG om;have e2:Qct (xs.length+1) (xs.length+1)=true:=qG (τ _);have e3:Qct (Qcv (xs.length+1) z) (jP (fl enc (x :: xs)))=true:=qG (by rw[jN,Jh hz];exact τ _);have e4:(AV.int k 1)=.int k ((1:Nat):Int):=rfl;have e5:yp (zG (fl enc (x :: xs)) (Qcv 1 z)) (Qcv (Qcw (xs.length+1) 1) z)=fl enc xs:=by
  rw[qY,zc];show((fl enc (x :: xs)).drop (1 * z)).take ((xs.length+1 - 1) * z)=_;rw[GC hz,Nat.add_sub_cancel];show(fl enc xs).take _=_;rw[<-Jh hz,Qaf]
 rw[e4];simp only[uD,optA,Gq,e1,e2,e3,cond_true,jp];rw[e5];rfl
theorem vB (v:Lev):(Xi v).length=2:=nr rfl
theorem UT (v:Lev)(l:List Lev){st:St}{K:AV->St->Prop}:jp (q9 (.lptr (fl Xi (v :: l)) 0) st) K=K (.lst v.1.length (v.1.map .str)) st:=Jd (by rw[XT,ψ,vB];omega)
theorem K8 (v:Lev)(l:List Lev){st:St}{K:AV->St->Prop}:jp (q9 (.lptr (fl Xi (v :: l)) 1) st) K=K (.int .i64 (v.2:Int)) st:=Jd (by rw[XT,ψ,vB];omega)
theorem jbK {b:Nat}{cs:List AV}{h:T AO}(ho:0+5<=qv h b)(hv:rats h b 0 5=cs)(hc:cs.all eqs=true):(j9 ε 146 (.ptr b 0) (.agg cs) h=true)=True:=eq_true (Y4 jsm jsl dc ho hv hc)
theorem Q3 {b:Nat}{cs:List AV}{h:T AO}(ho:0+6<=qv h b)(hv:rats h b 0 6=cs)(hc:cs.all eqs=true):(j9 ε 29 (.ptr b 0) (.agg cs) h=true)=True:=eq_true (Y4 jao jan dc ho hv hc)
theorem Q5 (x:Ex):(eE x).all eqs=true:=nr (by rw[qJ];rfl)
theorem uN (t:Tk):t.cells.all eqs=true:=nr rfl
def EK (ts:List Tk)(d:Nat)(r:PR)(v:AV)(s:St):Prop:=match r with | .ok y j=>G1 3 (pC ts j d) (.agg (eE y)) v s | .er _=>False
def EP (ts:List Tk)(r:PR)(v:AV)(s:St):Prop:=match r with | .ok _ _=>False | .er t=>∃ i' d',G1 3 (pC ts i' d') (er t) v s
theorem jgb (ts:List Tk)(d:Nat)(y:Ex)(j:Nat)(v:AV)(s:St):EK ts d (.ok y j) v s=G1 3 (pC ts j d) (.agg (eE y)) v s:=nr rfl
theorem jm0 (ts:List Tk)(t:Tk)(v:AV)(s:St):EP ts (.er t) v s = ∃ i' d',G1 3 (pC ts i' d') (er t) v s:=nr rfl
theorem jlG {f:FuncId}{F:XF}(hl:jx ε f=some F)(hnd:F.body.nd=true)(hm:base.pur f=3){xs:List AV}{ts:List Tk}{i d:Nat}{r:PR}
  (h:xC ε base F.body (jt F.ps (.ptr 0 0 :: xs)) (nw st0 (pC ts i d)) (Xp ε F.res (EK ts d r)) λv _ s=>EP ts r v s.bare):Ans base f (pC ts i d) xs ts d r:=by
 rw[<-Gs] at h;obtain⟨q,he,hq⟩:=YF (st:=ZC (pC ts i d)) (K:=EK ts d r) (Kp:=EP ts r) hl hnd h;cases r with
 |ok y j=>
  refine PM.of hm rfl ⟨q,he,?_⟩;cases q<;>first|exact hq|exact hq.elim
 |er t=>
  cases q with
  |no=>exact hq.elim
  |ok v s=>exact(hq:False).elim
  |pn v s=>
   obtain⟨i',d',hq⟩:=(hq:∃ i' d',G1 3 (pC ts i' d') (er t) v s);exact⟨i',d',PM.of hm rfl ⟨_,he,hq⟩⟩
set_option maxHeartbeats 4000000 in
theorem jq9 (hb:NB base){ts:List Tk}(W:Wds ts){n:Nat}(ihE:∀ m,m<=n->IsE base ts m)(ihP:IsP base ts n):IsE base ts (n+1):=by
 intro lv i d r h hi hd ok;have wl:=W.len;unfold y7 at h;cases lv with
 |nil=>
  dsimp only at h;have A:=ihP _ _ _ h hi hd;cases r with
  |er t=>
   obtain⟨i',d',A⟩:=A;have E:∀ st p,Cl st p (pC ts i d)->∀ K Kp,XB ε base 128 [.ptr p 0] st K Kp=_:=λst p C K Kp=>A.xb C rfl (λst=>hb.no 128 dc _ _) K Kp;refine⟨i',d',?_⟩;unfold pC at *;refine qc x93 (by rfl) (hb.pur 100 3 dc) rfl ?_;simp only[y93,jt,κ,μ,ν,ξ];rw[(by unfold z93;simp only[qq];rfl:z93=_)];repeat'(first|apply jc<;>intro _|simp(disch:=first|exact dzD|fail) only[E,r6,γ,δ,ζ,η,θ])
   (refine G1.done ?_ (by rfl) (by rfl) ?_;(· (first|exact cyD|fail));(· first|exact vyD|skip))
  |ok x j=>
   have A:PM _ _ _ _ _ _ _:=A;have E:∀ st p,Cl st p (pC ts i d)->∀ K Kp,XB ε base 128 [.ptr p 0] st K Kp=_:=λst p C K Kp=>A.xb C rfl (λst=>hb.no 128 dc _ _) K Kp;show PM _ _ _ _ _ _ _;unfold pC at *;refine qc x93 (by rfl) (hb.pur 100 3 dc) rfl ?_;simp only[y93,jt,κ,μ,ν,ξ];rw[(by unfold z93;simp only[qq];rfl:z93=_)];repeat'(first|apply jc<;>intro _|simp(disch:=first|exact dzD|fail) only[E,r6,γ,δ,ζ,η,θ])
   (refine G1.done ?_ (by rfl) (by rfl) ?_;(· (first|exact cyD|fail));(· first|exact vyD|skip))
 |cons v l=>
  dsimp only at h;have hlen:(0:Int)<((l.length+1:Nat):Int):=om
  have hlen2:¬ ((l.length+1:Nat):Int)=0:=om
  cases he:y7 ts n l i d with
  |none=>rw[he] at h;cases h
  |some q=>
   have A:=ihE n (τ _) _ _ _ _ he hi hd ⟨by have:=ok.1;simp at this;omega,λw hw=>ok.2 w (QbW _ hw)⟩;have hz:=(UB W n).1 _ _ _ _ he hi;cases q with
   |er t=>
    rw[he] at h;cases h;obtain⟨i',d',A⟩:=A;have E:∀ st p,Cl st p (pC ts i d)->∀ K Kp,XB ε base 100 [.ptr p 0,.lst l.length (fl Xi l)] st K Kp=_:=λst p C K Kp=>A.xb C rfl (λst=>hb.no 100 dc _ _) K Kp;refine⟨i',d',?_⟩;unfold pC at *;refine qc x93 (by rfl) (hb.pur 100 3 dc) rfl ?_;simp only[y93,jt,κ,μ,ν,ξ];rw[(by unfold z93;simp only[qq];rfl:z93=_)];repeat'(first|apply jc<;>intro _|simp(disch:=first|exact dzD|fail) only[E,hlen2,Km vB v l,r6,γ,δ,ζ,η,θ])
    (refine G1.done ?_ (by rfl) (by rfl) ?_;(· (first|exact cyD|fail));(· first|exact vyD|skip))
   |ok x j=>
    rw[he] at h;dsimp only at h;have A:PM _ _ _ _ _ _ _:=A;have E:∀ st p,Cl st p (pC ts i d)->∀ K Kp,XB ε base 100 [.ptr p 0,.lst l.length (fl Xi l)] st K Kp=_:=λst p C K Kp=>A.xb C rfl (λst=>hb.no 100 dc _ _) K Kp;have hj:j<ts.length:=hz.2.1;show Ans base 100 (pC ts i d) [.lst (v :: l).length (fl Xi (v :: l))] ts d r;refine jlG x93 (by rfl) (hb.pur 100 3 dc) ?_;simp only[y93,jt,κ,μ,ν,ξ];rw[(by unfold z93;simp only[qq];rfl:z93=_)];unfold pC at *;repeat'(first|apply jc<;>intro _|simp(disch:=first|exact dzD|fail) only[E,hlen2,Km vB v l,r6,γ,δ,ζ,η,θ])
    refine uO λu hu=>?_;have n0:3<=u.nx:=by rw[hu];exact τ _
    have C0:Cl u 0 (pC ts j d):=by
     rw[hu];unfold pC
     (first|exact cyD|fail)
    have C1:Cl u 1 [.int .i64 0,.int .i64 0,.str [],.nils,.int .i64 0,.int .i64 0]:=by
     rw[hu]
     (first|exact cyD|fail)
    have C2:Cl u 2 (eE x):=by
     rw[hu]
     (first|exact cyD|fail)
    clear hu E A;refine zu (λmm L s=>∃ (m i':Nat) (x':Ex),m<=n/\mm=m/\Q8 ts m v l x' i' d=some r/\i'<ts.length/\3<=s.nx/\Cl s 0 (pC ts i' d)/\Cl s 1 [.int .i64 0,.int .i64 0,.str [],.nils,.int .i64 0,.int .i64 0]/\Cl s 2 (eE x')/\Has L 0 (.ptr 0 0)/\Has L 1 (.lst (l.length+1) (fl Xi (v :: l)))/\Has L 4 (.ptr 1 0)/\Has L 5 (.ptr 2 0)) ?_ n ?_
    ·rintro m L s ⟨_,i',x',hm,rfl,hl,hi',n0,C0,C1,C2,i0,i1,i4,i5⟩;cases m with
     |zero=>simp[Q8] at hl
     |succ m=>
     unfold Q8 at hl;have hx:(i':Int)+1=((i'+1:Nat):Int):=om
     have T:=λst p=>@jqi base hb ts i' d hi' om v.1 (by have:=ok.2 v (by simp);omega) st p;have R2:rats s.h 2 0 6=eE x':=(C2.ratsP 6 0 (by rw[zK];decide)).trans (by rw[Qba,<-zK x',Qaf]);have l2:=C2.len;rw[zK] at l2;have L0:=C0.lt;have L1:=C1.lt;have L2:=C2.lt;by_cases c1:isM (tk ts i') v.1=true
     ·rw[if_pos c1] at hl;have hi1:=W.isM hi' c1;have hw:=λy=>jsB hb (tk ts i') x' y;by_cases w1:v.2=1
      ·rw[if_pos w1] at hl;have w1':(v.2:Int)=1:=om
       cases he2:y7 ts m (v :: l) (i'+1) d with
       |none=>rw[he2] at hl;cases hl
       |some q=>
        have A:=ihE m om _ _ _ _ he2 hi1 hd ok;cases q with
        |er t=>
         rw[he2] at hl;cases hl;obtain⟨i2,d2,A⟩:=A;have E:∀ st p,Cl st p (pC ts (i'+1) d)->∀ K Kp,XB ε base 100 [.ptr p 0,.lst (l.length+1) (fl Xi (v :: l))] st K Kp=_:=λst p C K Kp=>A.xb C rfl (λst=>hb.no 100 dc _ _) K Kp;unfold pC at *
         (have zz:=aI @Q5 (aI @uN (aI @R2 (aI @l2 (aI C0.r C1.r))));(repeat'(first|apply jc<;>intro _|simp(disch:=first|exact qT|fail) only[ja i0,ja i1,ja i4,ja i5,T,c1,E,w1',UT,K8,jbK,Q3,hY i5,jm0,R2,C0.q,C1.q,Q5,uN,R2,l2,C0.r,C1.r,r6,γ,δ,ζ,η,θ]));all_goals clear zz)
         refine⟨i2,d2,?_⟩;unfold pC
         (refine G1.done ?_ (by rfl) (by rfl) ?_;(· (have zz:=aI C0.q (aI C1.q (aI C2.q (aI C0.r (aI C1.r C2.r))));first|exact qp|fail));(· first|exact vyD|skip))
        |ok y j=>
         rw[he2] at hl;cases hl;have A:PM _ _ _ _ _ _ _:=A;have E:∀ st p,Cl st p (pC ts (i'+1) d)->∀ K Kp,XB ε base 100 [.ptr p 0,.lst (l.length+1) (fl Xi (v :: l))] st K Kp=_:=λst p C K Kp=>A.xb C rfl (λst=>hb.no 100 dc _ _) K Kp;unfold pC at *
         (have zz:=aI @Q5 (aI @uN (aI @R2 (aI @l2 (aI C0.r C1.r))));(repeat'(first|apply jc<;>intro _|simp(disch:=first|exact qT|fail) only[ja i0,ja i1,ja i4,ja i5,T,c1,E,w1',UT,K8,jbK,Q3,hY i5,jgb,<-qJ,hw,R2,C0.q,C1.q,Q5,uN,R2,l2,C0.r,C1.r,r6,γ,δ,ζ,η,θ]));all_goals clear zz)
         unfold pC
         (refine G1.done ?_ (by rfl) (by rfl) ?_;(· (have zz:=aI C0.q (aI C1.q (aI C2.q (aI C0.r (aI C1.r C2.r))));first|exact qp|fail));(· first|exact vyD|skip))
      ·rw[if_neg w1] at hl;have w1':¬ (v.2:Int)=1:=om
       cases he2:y7 ts m l (i'+1) d with
       |none=>rw[he2] at hl;cases hl
       |some q=>
        have A:=ihE m om _ _ _ _ he2 hi1 hd ⟨by have:=ok.1;simp at this;omega,λw hw=>ok.2 w (QbW _ hw)⟩;have hz2:=(UB W m).1 _ _ _ _ he2 hi1;cases q with
        |er t=>
         rw[he2] at hl;cases hl;obtain⟨i2,d2,A⟩:=A;have E:∀ st p,Cl st p (pC ts (i'+1) d)->∀ K Kp,XB ε base 100 [.ptr p 0,.lst l.length (fl Xi l)] st K Kp=_:=λst p C K Kp=>A.xb C rfl (λst=>hb.no 100 dc _ _) K Kp;unfold pC at *
         (have zz:=aI @Q5 (aI @uN (aI @R2 (aI @l2 (aI C0.r C1.r))));(repeat'(first|apply jc<;>intro _|simp(disch:=first|exact qT|fail) only[ja i0,ja i1,ja i4,ja i5,T,c1,E,w1',UT,K8,jbK,Q3,hY i5,jm0,Km vB v l,R2,C0.q,C1.q,Q5,uN,R2,l2,C0.r,C1.r,r6,γ,δ,ζ,η,θ]));all_goals clear zz)
         refine⟨i2,d2,?_⟩;unfold pC
         (refine G1.done ?_ (by rfl) (by rfl) ?_;(· (have zz:=aI C0.q (aI C1.q (aI C2.q (aI C0.r (aI C1.r C2.r))));first|exact qp|fail));(· first|exact vyD|skip))
        |ok y j=>
         rw[he2] at hl;dsimp only at hl;have A:PM _ _ _ _ _ _ _:=A;have hj2:j<ts.length:=hz2.2.1;have E:∀ st p,Cl st p (pC ts (i'+1) d)->∀ K Kp,XB ε base 100 [.ptr p 0,.lst l.length (fl Xi l)] st K Kp=_:=λst p C K Kp=>A.xb C rfl (λst=>hb.no 100 dc _ _) K Kp;by_cases w2:v.2=2
         ·rw[if_pos w2] at hl;cases hl;have w2':(v.2:Int)=2:=om
          unfold pC at *
          (have zz:=aI @Q5 (aI @uN (aI @R2 (aI @l2 (aI C0.r C1.r))));(repeat'(first|apply jc<;>intro _|simp(disch:=first|exact qT|fail) only[ja i0,ja i1,ja i4,ja i5,T,c1,E,w1',w2',UT,K8,jbK,Q3,hY i5,jgb,<-qJ,hw,Km vB v l,R2,C0.q,C1.q,Q5,uN,R2,l2,C0.r,C1.r,r6,γ,δ,ζ,η,θ]));all_goals clear zz)
          unfold pC
          (refine G1.done ?_ (by rfl) (by rfl) ?_;(· (have zz:=aI C0.q (aI C1.q (aI C2.q (aI C0.r (aI C1.r C2.r))));first|exact qp|fail));(· first|exact vyD|skip))
         ·rw[if_neg w2] at hl;have w2':¬ (v.2:Int)=2:=om
          unfold pC at *
          (have zz:=aI @Q5 (aI @uN (aI @R2 (aI @l2 (aI C0.r C1.r))));(repeat'(first|apply jc<;>intro _|simp(disch:=first|exact qT|fail) only[ja i0,ja i1,ja i4,ja i5,T,c1,E,w1',w2',UT,K8,jbK,Q3,hY i5,<-qJ,hw,Km vB v l,R2,C0.q,C1.q,Q5,uN,R2,l2,C0.r,C1.r,r6,γ,δ,ζ,η,θ]));all_goals clear zz)
          refine⟨m,om,m,j,QG (tk ts i') x' y,om,rfl,hl,hj2,om,?_,?_,?_,?_⟩
          ·(have zz:=aI C0.q (aI C1.q (aI C2.q (aI C0.r (aI C1.r C2.r))));first|exact qp|fail)
          ·(have zz:=aI C0.q (aI C1.q (aI C2.q (aI C0.r (aI C1.r C2.r))));first|exact qp|fail)
          ·(have zz:=aI C0.q (aI C1.q (aI C2.q (aI C0.r (aI C1.r C2.r))));first|exact qp|fail)
          ·simp(disch:=decide) only[h12,i0,i1,i4,i5]
     ·rw[if_neg c1] at hl;cases hl;unfold pC at *
      (have zz:=aI @R2 (aI @l2 (aI C0.r C1.r));(repeat'(first|apply jc<;>intro _|simp(disch:=first|exact qT|fail) only[ja i0,ja i1,ja i4,ja i5,T,c1,UT,jgb,<-qJ,R2,C0.q,C1.q,R2,l2,C0.r,C1.r,r6,γ,δ,ζ,η,θ]));all_goals clear zz)
      unfold pC
      (refine G1.done ?_ (by rfl) (by rfl) ?_;(· (have zz:=aI C0.q (aI C1.q (aI C2.q (aI C0.r (aI C1.r C2.r))));first|exact qp|fail));(· first|exact vyD|skip))
    ·refine⟨n,j,x,τ _,rfl,h,hj,n0,C0,C1,C2,?_⟩;simp(disch:=decide) only[h12]
mutual
def Ex.ev (q:Ex->Prop):Ex->Prop
 |.mk o n nm ks l c=>q (.mk o n nm ks l c)/\Ex.evs q ks
def Ex.evs (q:Ex->Prop):List Ex->Prop
 |[]=>True
 |x :: xs=>x.ev q/\Ex.evs q xs
end
def atW (ts:List Tk)(x:Ex):Prop:=x.op≠4/\∃ k,k<ts.length/\(tk ts k).kind≠5/\x.line=(tk ts k).line/\x.col=(tk ts k).col
def GoodR (ts:List Tk)(i:Nat):PR->Prop
 |.ok x j=>i<=j/\j<ts.length/\x.ev (atW ts)
 |.er t=>∃ k,k<ts.length/\t=tk ts k
theorem GoodR.le {ts:List Tk}{i j:Nat}{r:PR}(h:GoodR ts j r)(hij:i<=j):GoodR ts i r:=by
 cases r with
 |ok x k=>exact⟨Qab hij h.1,h.2⟩
 |er t=>exact h
def okT (l:List Lev):Prop:=∀ v∈l,∀ s∈v.1,(wA s).isSome=true
theorem KQ:okT Jm:=by
 have:(Jm.all λv=>v.1.all λs=>(wA s).isSome)=true:=by decide +kernel
 intro v hv s hs;rw[Qaj] at this;have h:=this v hv;rw[Qaj] at h;exact h s hs
theorem uX {ts:List Tk}{k:Nat}(hk:k<ts.length)(h5:(tk ts k).kind≠5){o n:Int}{nm:List Nat}{ks:List Ex}(ho:o≠4)(h:Ex.evs (atW ts) ks):(Ex.mk o n nm ks (tk ts k).line (tk ts k).col).ev (atW ts):=
 ⟨⟨ho,k,hk,h5,rfl,rfl⟩,h⟩
theorem jhe {ts:List Tk}{k:Nat}(hk:k<ts.length)(h5:(tk ts k).kind≠5){x y:Ex}(hx:x.ev (atW ts))(hy:y.ev (atW ts))(ht:(wA (tk ts k).text).isSome=true):(QG (tk ts k) x y).ev (atW ts):=by
 unfold QG;split
 ·refine uX hk h5 om ⟨hx,hy,trivial⟩
 ·rename_i h;rw[h] at ht;cases ht
theorem gm {t:Tk}{S:List (List Nat)}(h:isM t S=true):t.kind≠5:=by have:=(WT h).1;omega
def Anw (f:Nat->Option PR)(Q:PR->Prop):Prop:=∃ N r,Q r/\∀ n,N<=n->f n=some r
theorem Anw.mono {f:Nat->Option PR}{Q R:PR->Prop}(h:Anw f Q)(k:∀ r,Q r->R r):Anw f R:=by
 obtain⟨N,r,h1,h2⟩:=h;exact⟨N,r,k r h1,h2⟩
theorem jnc {f g:Nat->Option PR}{Q:PR->Prop}(h:Anw f Q)(k:∀ n,g (n+1)=f n):Anw g Q:=by
 obtain⟨N,r,h1,h2⟩:=h;refine⟨N+1,r,h1,λn hn=>?_⟩;obtain⟨m,rfl⟩:∃ m,n=m+1:=⟨n - 1,om⟩;rw[k,h2 m om]
theorem uz {g:Nat->Option PR}{Q:PR->Prop}(r:PR)(hQ:Q r)(k:∀ n,g (n+1)=some r):Anw g Q:=by
 refine⟨1,r,hQ,λn hn=>?_⟩;obtain⟨m,rfl⟩:∃ m,n=m+1:=⟨n - 1,om⟩;exact k m
theorem gT {f g:Nat->Option PR}{Q R:PR->Prop}(F:Ex->Nat->Nat->Option PR)(h:Anw f Q)(k:∀ n,g (n+1)=(match f n with|some (.ok x j)=>F x j n|r=>r))(he:∀ t,Q (.er t)->R (.er t))(ho:∀ x j,Q (.ok x j)->Anw (F x j) R):Anw g R:=by
 obtain⟨N,r,h1,h2⟩:=h;cases r with
 |er t=>
  refine⟨N+1,.er t,he t h1,λn hn=>?_⟩;obtain⟨m,rfl⟩:∃ m,n=m+1:=⟨n - 1,om⟩;rw[k,h2 m om]
 |ok x j=>
  obtain⟨M,r,h3,h4⟩:=ho x j h1;refine⟨max N M+1,r,h3,λn hn=>?_⟩;obtain⟨m,rfl⟩:∃ m,n=m+1:=⟨n - 1,om⟩;rw[k,h2 m om];exact h4 m om
theorem gS {f:Nat->Option PR}{Q:PR->Prop}(r:PR)(hQ:Q r)(k:∀ n,f n=some r):Anw f Q:=⟨0,r,hQ,λn _=>k n⟩
structure AnsM (ts:List Tk)(m:Nat):Prop where
 e:∀ i d l,i<ts.length->ts.length<=i+m->d<=60->okT l->Anw (λn=>y7 ts n l i d) (GoodR ts (i+1))
 p:∀ i d,i<ts.length->ts.length<=i+m->d<=60->Anw (λn=>QK ts n i d) (GoodR ts (i+1))
 o:∀ i d v l x,i<ts.length->ts.length<=i+m->d<=60->okT (v :: l)->x.ev (atW ts)->Anw (λn=>Q8 ts n v l x i d) (GoodR ts i)
theorem jrR {ts:List Tk}(W:Wds ts):∀ m,AnsM ts m
 |0=>⟨λi d l h1 h2=>by omega,λi d h1 h2=>by omega,λi d v l x h1 h2=>by omega⟩
 |m+1=>by
  have ih:=jrR W m;have hv:∀ i d,i<ts.length->ts.length<=i+(m+1)->d<=60->Anw (λn=>Yy ts n i d) (GoodR ts (i+1)):=by
   intro i d hi hm hd;by_cases h2:(tk ts i).kind=2
   ·exact uz (.ok (.mk 1 (tk ts i).num [] [] (tk ts i).line (tk ts i).col) (i+1)) ⟨τ _,W.next i hi om,uX hi om dc (ks:=[]) trivial⟩ λn=>by simp only[Yy];rw[if_pos h2]
   by_cases h1:(tk ts i).kind=1
   ·exact uz (.ok (.mk 3 0 (tk ts i).text [] (tk ts i).line (tk ts i).col) (i+1)) ⟨τ _,W.next i hi om,uX hi om dc (ks:=[]) trivial⟩ λn=>by simp only[Yy];rw[if_neg h2,if_pos h1]
   by_cases ht:isM (tk ts i) [[116,114,117,101]]=true
   ·exact uz (.ok (.mk 2 1 [] [] (tk ts i).line (tk ts i).col) (i+1)) ⟨τ _,W.isM hi ht,uX hi (gm ht) dc (ks:=[]) trivial⟩ λn=>by simp only[Yy];rw[if_neg h2,if_neg h1,if_pos ht]
   by_cases hf:isM (tk ts i) [[102,97,108,115,101]]=true
   ·exact uz (.ok (.mk 2 0 [] [] (tk ts i).line (tk ts i).col) (i+1)) ⟨τ _,W.isM hi hf,uX hi (gm hf) dc (ks:=[]) trivial⟩ λn=>by simp only[Yy];rw[if_neg h2,if_neg h1,if_neg ht,if_pos hf]
   by_cases hp:isM (tk ts i) [[40]]=true
   ·have hi1:=W.isM hi hp;by_cases h60:60<d+1
    ·exact uz (.er _) ⟨i+1,hi1,rfl⟩ λn=>by simp only[Yy];rw[if_neg h2,if_neg h1,if_neg ht,if_neg hf,if_pos hp,if_pos h60]
    ·refine gT (λx j n=>if isM (tk ts j) [[41]]=true then some (.ok x (j+1)) else some (.er (tk ts j))) (ih.e (i+1) (d+1) Jm hi1 om om KQ) (λn=>by simp only[Yy];rw[if_neg h2,if_neg h1,if_neg ht,if_neg hf,if_pos hp,if_neg h60]<;>rfl) (λt h=>h) λx j h=>?_;by_cases hq:isM (tk ts j) [[41]]=true
     ·exact gS (.ok x (j+1)) ⟨by have:=h.1;omega,W.isM h.2.1 hq,h.2.2⟩ λn=>if_pos hq
     ·exact gS (.er (tk ts j)) ⟨j,h.2.1,rfl⟩ λn=>if_neg hq
   ·exact uz (.er _) ⟨i,hi,rfl⟩ λn=>by simp only[Yy];rw[if_neg h2,if_neg h1,if_neg ht,if_neg hf,if_neg hp]
  have hp:∀ i d,i<ts.length->ts.length<=i+(m+1)->d<=60->Anw (λn=>QK ts n i d) (GoodR ts (i+1)):=by
   intro i d hi hm hd;by_cases hp:isM (tk ts i) zB=true
   ·have hi1:=W.isM hi hp;by_cases h60:60<d+1
    ·exact uz (.er _) ⟨i+1,hi1,rfl⟩ λn=>by simp only[QK];rw[if_pos hp,if_pos h60]
    ·refine gT (λx j n=>some (.ok (.mk (UK (tk ts i).text:Nat) 0 [] [x] (tk ts i).line (tk ts i).col) j)) (ih.p (i+1) (d+1) hi1 om om) (λn=>by simp only[QK];rw[if_pos hp,if_neg h60]<;>rfl) (λt h=>h) λx j h=>?_;exact gS (.ok (.mk (UK (tk ts i).text:Nat) 0 [] [x] (tk ts i).line (tk ts i).col) j) ⟨by have:=h.1;omega,h.2.1,uX hi (gm hp) (by unfold UK;omega) (ks:=[x]) ⟨h.2.2,trivial⟩⟩ λn=>rfl
   ·exact jnc (hv i d hi hm hd) λn=>by simp only[QK];rw[if_neg hp]
  have he:∀ l i d,i<ts.length->ts.length<=i+(m+1)->d<=60->okT l->Anw (λn=>y7 ts n l i d) (GoodR ts (i+1)):=by
   intro l;induction l with
   |nil=>intro i d hi hm hd hl;exact jnc (hp i d hi hm hd) λn=>by simp only[y7]
   |cons v l ihl=>
    intro i d hi hm hd hl;refine gT (λx j n=>Q8 ts n v l x j d) (ihl i d hi hm hd λw hw=>hl w (QbW _ hw)) (λn=>by simp only[y7]<;>rfl) (λt h=>h) λx j h=>?_;exact(ih.o j d v l x h.2.1 (by have:=h.1;omega) hd hl h.2.2).mono λr hr=>hr.le h.1
  refine⟨λi d l h1 h2 h3 h4=>he l i d h1 h2 h3 h4,hp,λi d v l x hi hm hd hl hx=>?_⟩;by_cases hs:isM (tk ts i) v.1=true
  ·have hi1:=W.isM hi hs;have ht:(wA (tk ts i).text).isSome=true:=hl v (List.mem_cons_self ..) _ (WT hs).2;have hl':okT l:=λw hw=>hl w (QbW _ hw);by_cases hw:v.2=1
   ·refine gT (λy j n=>some (.ok (QG (tk ts i) x y) j)) (ih.e (i+1) d (v :: l) hi1 om hd hl) (λn=>by simp only[Q8];rw[if_pos hs,if_pos hw]<;>rfl) (λt h=>h) λy j h=>?_;exact gS (.ok (QG (tk ts i) x y) j) ⟨by have:=h.1;omega,h.2.1,jhe hi (gm hs) hx h.2.2 ht⟩ λn=>rfl
   ·refine gT (λy j n=>if v.2=2 then some (.ok (QG (tk ts i) x y) j) else Q8 ts n v l (QG (tk ts i) x y) j d) (ih.e (i+1) d l hi1 om hd hl') (λn=>by simp only[Q8];rw[if_pos hs,if_neg hw]<;>rfl) (λt h=>h) λy j h=>?_;have hxy:=jhe hi (gm hs) hx h.2.2 ht;by_cases h2:v.2=2
    ·exact gS (.ok (QG (tk ts i) x y) j) ⟨by have:=h.1;omega,h.2.1,hxy⟩ λn=>if_pos h2
    ·obtain⟨N,r,h3,h4⟩:=ih.o j d v l _ h.2.1 (by have:=h.1;omega) hd hl hxy;exact⟨N,r,h3.le (by have:=h.1;omega),λn hn=>(if_neg h2).trans (h4 n hn)⟩
  ·exact uz (.ok x i) ⟨τ _,hi,hx⟩ λn=>by simp only[Q8];rw[if_neg hs]
theorem reads (hb:NB base){ts:List Tk}(W:Wds ts):∀ n,IsE base ts n/\IsP base ts n/\IsV base ts n:=by
 have key:∀ n,∀ m,m<=n->IsE base ts m/\IsP base ts m/\IsV base ts m:=by
  intro n;induction n with
  |zero=>
   intro m hm;obtain rfl:m=0:=om
   exact⟨λ_ _ _ _ h=>(by simp[y7] at h),λ_ _ _ h=>(by simp[QK] at h),λ_ _ _ h=>(by simp[Yy] at h)⟩
  |succ n ih=>
   intro m hm;by_cases h:m<=n
   ·exact ih m h
   ·obtain rfl:m=n+1:=om
    obtain⟨h1,h2,h3⟩:=ih n (τ _);exact⟨jq9 hb W (λk hk=>(ih k hk).1) h2,jkY hb W h2 h3,jnq hb W h1⟩
 exact λn=>key n n (τ _)
def Vj (ts:List Tk)(i:Nat)(r0:PR):PR:=match r0 with
 |.er t=>.er t
 |.ok x j=>if ze 60 x=true then .ok x j else .er (tk ts i)
def EvR (ts:List Tk)(i:Nat)(r:PR):Prop:=∃ N,∀ n,N<=n->y7 ts n Jm i 0=some r
theorem EvR.uniq {ts:List Tk}{i:Nat}{r q:PR}(h:EvR ts i r)(k:EvR ts i q):r=q:=by
 obtain⟨N,h⟩:=h;obtain⟨M,k⟩:=k;have:=(h (max N M) (Qar ..)).symm.trans (k (max N M) (Qas ..));exact Option.some.inj this
open Classical in
def yt (ts:List Tk)(i:Nat):PR:=if h:∃ r,EvR ts i r then Vj ts i h.choose else .er (tk ts i)
theorem Vk {ts:List Tk}{i:Nat}{r:PR}(h:EvR ts i r):yt ts i=Vj ts i r:=by
 unfold yt;rw[dif_pos ⟨r,h⟩];have:=(⟨r,h⟩:∃ r,EvR ts i r).choose_spec;rw[this.uniq h]
theorem evR {ts:List Tk}(W:Wds ts){i:Nat}(hi:i<ts.length):∃ r,GoodR ts (i+1) r/\EvR ts i r:=by
 obtain⟨N,r,hg,hr⟩:=(jrR W ts.length).e i 0 Jm hi om dc KQ;exact⟨r,hg,N,hr⟩
theorem Uu (hb:NB base){ts:List Tk}(W:Wds ts){i:Nat}(hi:i<ts.length):Ans base 72 (pC ts i 0) [] ts 0 (yt ts i):=by
 obtain⟨r,_,hr⟩:=evR W hi;rw[Vk hr];obtain⟨N,hr⟩:=hr;have he:=hr N (τ _);have A:=(reads hb W N).1 _ _ _ _ he hi om ⟨dc,dc⟩;have hz:=(UB W N).1 _ _ _ _ he hi;have hN:=λst p=>@Y9 base hb ts i 0 hi st p;have hL:=jce hb;cases r with
 |er t=>
  obtain⟨i',d',A⟩:=A;have E:∀ st p,Cl st p (pC ts i 0)->∀ K Kp,XB ε base 100 [.ptr p 0,.lst 8 (fl Xi Jm)] st K Kp=_:=λst p C K Kp=>A.xb C rfl (λst=>hb.no 100 dc _ _) K Kp;refine⟨i',d',?_⟩;unfold pC at *;refine qc x48 (by rfl) (hb.pur 72 3 dc) rfl ?_;simp only[y48,jt,κ,μ,ν,ξ];rw[(by unfold z48;simp only[qq];rfl:z48=_)];repeat'(first|apply jc<;>intro _|simp(disch:=first|exact dzD|fail) only[hN,hL,E,r6,γ,δ,ζ,η,θ])
  (refine G1.done ?_ (by rfl) (by rfl) ?_;(· (first|exact cyD|fail));(· first|exact vyD|skip))
 |ok x j=>
  have A:PM _ _ _ _ _ _ _:=A;have E:∀ st p,Cl st p (pC ts i 0)->∀ K Kp,XB ε base 100 [.ptr p 0,.lst 8 (fl Xi Jm)] st K Kp=_:=λst p C K Kp=>A.xb C rfl (λst=>hb.no 100 dc _ _) K Kp;have hx:szE x<=BIG:=by
   have h1:=hz.2.2;have h2:(j - i) * 65537<=1000000 * 65537:=Qaz _ (by have:=W.len;have:=hz.2.1;omega);have h3:1000000 * 65537<=BIG:=dc
   exact Qab h1 (by rw[Qak];exact Qab h2 h3)
  have hR:=joz hb x hx;unfold Vj;dsimp only;by_cases c:ze 60 x=true
  ·rw[if_pos c];show PM _ _ _ _ _ _ _;unfold pC at *;refine qc x48 (by rfl) (hb.pur 72 3 dc) rfl ?_;simp only[y48,jt,κ,μ,ν,ξ];rw[(by unfold z48;simp only[qq];rfl:z48=_)];repeat'(first|apply jc<;>intro _|simp(disch:=first|exact dzD|fail) only[hN,hL,E,hR,c,<-qJ,r6,γ,δ,ζ,η,θ])
   (refine G1.done ?_ (by rfl) (by rfl) ?_;(· (first|exact cyD|fail));(· first|exact vyD|skip))
  ·rw[if_neg c];refine⟨j,0,?_⟩;unfold pC at *;refine qc x48 (by rfl) (hb.pur 72 3 dc) rfl ?_;simp only[y48,jt,κ,μ,ν,ξ];rw[(by unfold z48;simp only[qq];rfl:z48=_)];repeat'(first|apply jc<;>intro _|simp(disch:=first|exact dzD|fail) only[hN,hL,E,hR,c,Qr hb,r6,γ,δ,ζ,η,θ])
   (refine G1.done ?_ (by rfl) (by rfl) ?_;(· (first|exact cyD|fail));(· first|exact vyD|skip))
def z15:XC:=(ov [Tz 2,o8 3 [oB,oB,oB]] (oX [IY 9,Ox 10 64 9,oz 8 10,Tw 11 8,Tx 12 8,TK 11,o5 3 3 12] (Ic [OO 13 3,oH 14 13,ow 15 (O7 .neq 14)] 15 (Lh [T8 16 6 2 2 29,T8 17 3 3 3 45,Ty 6 2 16 [(0,45)],TU 3 3 17])) (O8 [o3 (.defer (oQ 65 []) [3])] [TW 18,Iv 19 [.nils,oB,oB] [((0,1),18)],ol 20 (.box 19),oy 5 20] (oX [Lb 21,Ox 22 72 21,Tz 6,TV 6 22] (ov [Lb 23,Ox 24 73 23,o8 7 [oB,oJ,oB,oB,oB],o5 5 7 24] (Oz [OO 25 7,oH 26 25,O1 27 .neq 26 5] 27 [oU 28 5 7,Ox 29 74 28])) (Lh [T8 30 6 6 6 29,T8 31 3 3 3 45,Ty 6 2 30 [(0,45)],TU 3 3 31])))))
def y15:XF:=⟨[0],z15,[(.cA 2 6),(.cA 3 3)]⟩
theorem x15:jx ε 54=some y15:=by kernel_rfl
def z9:XC:=(ov [o8 2 [.nils,.nils,.nils],o8 3 [oB,oB,oB]] (oX [IY 7,Ox 8 64 7,oz 6 8,Tw 9 6,Tx 10 6,TK 9,o5 3 3 10] (Ic [OO 11 3,oH 12 11,ow 13 (O7 .neq 12)] 13 (Lh [T8 14 3 2 2 26,T8 15 3 3 3 45,Ty 3 2 14 [(0,45)],TU 3 3 15])) (ov [o3 (.defer (oQ 65 []) [3])] (oX [TW 16,Iv 17 [.nils,oB,oB] [((0,1),16)],ol 18 (.box 17),oy 5 18] (.dops [Tq 19 5,(TR 20 66 19 0 [],some [OP 20,Ij (TZ 21 3) 3 45 [(0,0)],o9 (o3 (.i (.mv II))) 0,o9 (o3 (.i (.mv II))) 0]),ON 21 3 3 3 45 [(0,0)],Ty 3 2 20 [(0,45)],TU 3 3 21]) .ret))))
def y9:XF:=⟨[0],z9,[(.cA 2 3),(.cA 3 3)]⟩
theorem x9:jx ε 52=some y9:=by kernel_rfl
def z78:XC:=(ov [o8 2 [oJ,.nils,oB,oB]] (O8 [IY 7,Ox 8 120 7,o8 3 [oB,oJ,oB,oB,oB],o5 5 3 8] [Tv 9 3,oH 10 9,Tl 11 3,oH 12 11,oE 13 4 3,oH 14 13,Iv 15 [oJ,.nils,oB,oB] [((0,1),10),((2,1),12),((3,1),14)],o8 4 [oJ,.nils,oB,oB],o5 4 4 15] (IU [IY 16,OA 17 121 16 (o7 [123])] 0 (.block 1 (.seq (Ic [IY 18,Ox 19 73 18,ol 20 (.fld1 0 19),O1 21 .eql 20 1] 21 (.dops [IX 22 1 4,Ts 23 22 22 106,IO (I4 24 23),IO (IY 25),(TR 26 73 25 0 [(2,106)],OJ),(Ix (OA 27 87 24 26) 0 [],OJ)])) (Or [IX 28 1 4,Ts 29 28 28 106,IO (IY 30),(TR 31 120 30 0 [(1,106)],OJ),IO (ol 32 (.fld1 1 31)),IO (TI 33 1 oJ [((0,1),32)]),I3 (Oq 34 1 16 29 33) 0 [],IX 35 1 4,TU 1 35 34] (ov [IY 37,TI 38 1 oJ [OT 0 44],OA 39 86 37 38,oz 36 39,Tw 40 36,Tx 41 36,ol 5 (.alloc [oB,oJ,oB,oB,oB]),o5 5 5 40,oy 6 41] (Ic [TY 42,OV 43 42] 43 (OK [IY 44,OA 45 121 44 (o7 [125])] [oU 46 4 4,o5 4 2 46])))))))))
def y78:XF:=⟨[0],z78,[(.cA 2 4)]⟩
theorem x78:jx ε 88=some y78:=by kernel_rfl
def jeV:XC:=(.seq (ov [IY 45,TI 46 1 oJ [OT 0 61],OA 47 86 45 46,oz 44 47,Tw 48 44,Tx 49 44,ol 7 (.alloc [oB,oJ,oB,oB,oB]),o5 5 7 48,oy 8 49] (Oz [oy 50 8] 50 [IY 51,Ox 52 72 51,Is 53 1 6 OI [((0,6),52)],oE 54 4 4,o5 1 54 53])) (OK [IY 55,OA 56 121 55 (o7 [59])] [oU 57 7 4,o5 7 2 57]))
def jeW:XC:=(.seq (ov [IY 21,TI 22 1 oJ [Ou 0 [98,111,111,108]],OA 23 86 21 22,oz 20 23,Tw 24 20,Tx 25 20,ol 5 (.alloc [oB,oJ,oB,oB,oB]),o5 5 5 24,oy 6 25] (oK [oy 26 6] 26 (.ops [Tv 27 4,o5 1 27 (o7 [98,111,111,108])]) (oK [IY 28,Ox 29 73 28,ol 30 (.fld1 0 29),O1 31 .eql 30 1] 31 (.ops [IY 32,Ox 33 120 32,ol 34 (.fld1 1 33),Tv 35 4,o5 1 35 34]) (O8 [IY 36,Ox 37 122 36,Ld 38 4,o5 1 38 37] [IY 39,OA 40 121 39 (o7 [46,46])] (.ops [IY 41,Ox 42 122 41,Tl 43 4,o5 1 43 42]))))) jeV)
def z79:XC:=(O8 [o8 2 [oJ,oJ,oB,oB,.nils,oB,oB]] [IY 9,Ox 10 120 9,o8 3 [oB,oJ,oB,oB,oB],o5 5 3 10] (O8 [Tv 11 3,oH 12 11,Tl 13 3,oH 14 13,oE 15 4 3,oH 16 15,Iv 17 [oJ,oJ,oB,oB,.nils,oB,oB] [((0,1),12),((5,1),14),((6,1),16)],o8 4 [oJ,oJ,oB,oB,.nils,oB,oB],o5 7 4 17] [IY 18,OA 19 121 18 (o7 [58])] jeW))
def y79:XF:=⟨[0],z79,[(.cA 2 7)]⟩
theorem x79:jx ε 89=some y79:=by kernel_rfl
def kE:XC:=(O8 [o8 2 [oB,oB,oJ,.nils,oB,oB,.nils]] [IY 7,Ox 8 72 7,Iv 9 [oB,oB,oJ,.nils,oB,oB,.nils] [((0,6),8)],o8 3 [oB,oB,oJ,.nils,oB,oB,.nils],o5 7 3 9] (IU [IY 10,OA 11 121 10 (o7 [100,111])] 0 (.block 1 (.seq (Ic [IY 12,Ox 13 73 12,ol 14 (.fld1 0 13),O1 15 .eql 14 1] 15 (.dops [IX 16 6 3,Ts 17 16 16 118,IO (I4 18 17),IO (IY 19),(TR 20 73 19 0 [(2,118)],OJ),(Ix (OA 21 87 18 20) 0 [],OJ)])) (ov [IY 22,Ox 23 120 22,o8 4 [oB,oJ,oB,oB,oB],o5 5 4 23] (oX [IY 24,OA 25 121 24 (o7 [58,61])] (.dops [IX 26 6 3,Ts 27 26 26 118,IX 28 1 4,Ts 29 28 28 9,IO (IY 30),(TR 31 72 30 0 [(1,9),(3,118)],some [OP 31,o9 (Tl 32 4) 0,Ij (oH 33 32) 32 3 [(1,0)],o9 (oE 34 4 4) 0,Ij (oH 35 34) 34 3 [(3,0)],OP 36,OP 37,OP 38,OP 39,o9 (o3 (.i (.mv II))) 0]),IX 32 3 4,Om 33 32 32 3 [(1,0)],IX 34 4 4,Om 35 34 34 3 [(3,0)],TF 36 [oJ,oB,oB,oJ,.nils,oB,oB,oB,oB] [((0,1),29),((1,6),31),((7,1),33),((8,1),35)],IO (Is 37 1 9 [oJ,oB,oB,oJ,.nils,oB,oB,oB,oB] [((0,9),36)]),I3 (Oq 38 9 104 27 37) 0 [],IX 39 6 3,TU 1 39 38]) (ov [IY 41,TI 42 1 oJ [OT 0 44],OA 43 86 41 42,oz 40 43,Tw 44 40,Tx 45 40,ol 5 (.alloc [oB,oJ,oB,oB,oB]),o5 5 5 44,oy 6 45] (Ic [TY 46,OV 47 46] 47 (OK [IY 48,OA 49 121 48 (o7 [59])] [oU 50 7 3,o5 7 2 50])))))))))
def je7:XF:=⟨[0],kE,[(.cA 2 7)]⟩
theorem jkx:jx ε 123=some je7:=by kernel_rfl
def z80:XC:=(ov [o8 2 [oJ,.nils,oB,oB]] (O8 [IY 7,Ox 8 120 7,o8 3 [oB,oJ,oB,oB,oB],o5 5 3 8] [Tv 9 3,oH 10 9,Tl 11 3,oH 12 11,oE 13 4 3,oH 14 13,Iv 15 [oJ,.nils,oB,oB] [((0,1),10),((2,1),12),((3,1),14)],o8 4 [oJ,.nils,oB,oB],o5 4 4 15] (IU [IY 16,OA 17 121 16 (o7 [123])] 0 (.block 1 (oX [IY 19,TI 20 1 oJ [Ou 0 [119,104,101,110]],OA 21 86 19 20,oz 18 21,Tw 22 18,Tx 23 18,o8 5 [oB,oJ,oB,oB,oB],o5 5 5 22,oy 6 23] (Ic [TY 24,OV 25 24] 25 (OK [IY 26,OA 27 121 26 (o7 [125])] [oU 28 4 4,o5 4 2 28])) (ov [Tv 29 4,oH 30 29,I4 31 30,oU 32 5 5,OA 33 87 31 32] (.dops [IX 34 1 4,Ts 35 34 34 114,IO (IY 36),(TR 37 123 36 0 [(1,114)],OJ),IO (Is 38 1 7 [oB,oB,oJ,.nils,oB,oB,.nils] [((0,7),37)]),I3 (Oq 39 7 96 35 38) 0 [],IX 40 1 4,TU 1 40 39])))))))
def y80:XF:=⟨[0],z80,[(.cA 2 4)]⟩
theorem x80:jx ε 90=some y80:=by kernel_rfl
def z37:XC:=(ov [o8 2 [.nils,.nils,.nils]] (IU [o8 3 [.nils,.nils,.nils]] 0 (.block 1 (T7 [IY 7,TI 8 3 oJ [Ou 0 [101,110,117,109],Ou 1 [118,97,114],Ou 2 [112,114,111,99,101,115,115]],OA 9 86 7 8,oz 6 9,Tw 10 6,Tx 11 6,o8 4 [oB,oJ,oB,oB,oB],o5 5 4 10,oy 5 11] 2 (oK [Lb 25,TM 26 25,oz 27 26,Oy 28 27 0 4,Ow 29 27 28,Td 30 27 .neq 29 5,Tb 31 27 30,oy 24 31] 24 (.ops [oU 32 5 4,Ox 33 74 32]) (oK [Lb 35,TM 36 35,oy 34 36] 34 (o4 [TZ 37 3,o5 3 2 37]) (oK [Tv 39 4,oH 40 39,T5 41 40 [101,110,117,109],oy 38 41] 38 (ov [OO 42 3,oH 43 42,I4 44 43,oU 45 5 4,OA 46 87 44 45] (.dops [IX 47 0 3,Ts 48 47 47 22,IO (IY 49),(TR 50 88 49 0 [(1,22)],OJ),IO (Is 51 1 4 [oJ,.nils,oB,oB] [((0,4),50)]),I3 (Oq 52 4 56 48 51) 0 [],IX 53 0 3,TU 1 53 52])) (oK [Tv 55 4,oH 56 55,T5 57 56 [118,97,114],oy 54 57] 54 (ov [Tv 58 3,oH 59 58,I4 60 59,oU 61 5 4,OA 62 87 60 61] (.dops [IX 63 1 3,Ts 64 63 63 23,IO (IY 65),(TR 66 89 65 0 [(1,23)],OJ),IO (Is 67 1 7 [oJ,oJ,oB,oB,.nils,oB,oB] [((0,7),66)]),I3 (Oq 68 7 88 64 67) 0 [],IX 69 1 3,TU 1 69 68])) (ov [Ld 12 3,oH 13 12,I4 14 13,oU 15 5 4,OA 16 87 14 15] (.dops [IX 17 2 3,Ts 18 17 17 24,IO (IY 19),(TR 20 90 19 0 [(1,24)],OJ),IO (Is 21 1 4 [oJ,.nils,oB,oB] [((0,4),20)]),I3 (Oq 22 4 56 18 21) 0 [],IX 23 2 3,TU 1 23 22]))))))))))
def y37:XF:=⟨[0],z37,[(.cA 2 3)]⟩
theorem x37:jx ε 66=some y37:=by kernel_rfl
def Wg:XC:=(.block 0 (oK [ow 7 (.gen .eql 20 true 5 (.c .nilif))] 7 (.ops [Lb 2]) (oK [ol 8 (.assert 5 45),ow 9 (.ext 8 1),ow 10 (.ext 8 0)] 9 (ov [o8 3 [oB,oB,oB],o5 3 3 10] (.ops [IY 11,TZ 12 3,IQ 13 11,o5 3 13 12])) (ov [TK 5] (.ops [TW 6,o3 (.pan 6)])))))
def gX:XH:=⟨[0],(some 5),true,[],Wg,[]⟩
theorem jpS:jaS ε 65=some gX:=by kernel_rfl
def jj8:XC:=(OU Tu (T6 [oy 7 1,IP 8 7,I0 9] 0 10 9 8 10 0 1 [Li 11 7 9,oH 12 11,oy 6 12] (Iy [TY 13,IY 14,ow 15 (.strb .eql 13 14)] 15 [Ta 4]) 16 9 9 16) Tu)
def jpx:XF:=⟨[0,1],jj8,[(.t 4)]⟩
theorem jtS:jx ε 106=some jpx:=by kernel_rfl
def z84:XC:=(OK Lj [IY 3,TI 4 19 oJ [Ou 0 [101,110,117,109],Ou 1 [118,97,114],Ou 2 [98,111,111,108],Ou 3 [112,114,111,99,101,115,115],Ou 4 [119,104,101,110],Ou 5 [100,111],Ou 6 [116,114,117,101],Ou 7 [102,97,108,115,101],OT 8 88,OT 9 70,OT 10 71,OT 11 85,OT 12 82,OT 13 89,OT 14 90,OT 15 79,OT 16 72,OT 17 83,OT 18 84],OA 5 106 3 4,Tp 5])
def y84:XF:=⟨[0],z84,[(.t 2)]⟩
theorem x84:jx ε 81=some y84:=by kernel_rfl
def z83:XC:=(OK Lj [IY 3,ol 4 (oI .geq 3 (TC 97)),TW 5,IZ 6 5 0,Ig 7 5 (oI .leq 6 (TC 122)),Tb 8 5 7,oz 9 8,IH 10 9 0,If 11 9 (oI .geq 10 (TC 65)),IH 12 9 11,IZ 13 12 0,Ig 14 12 (oI .leq 13 (TC 90)),Lk 15 9 12 14 oW,Tc 16 9 15,Tp 16])
def y83:XF:=⟨[0],z83,[(.t 2)]⟩
theorem x83:jx ε 79=some y83:=by kernel_rfl
def z85:XC:=(OK Lj [IY 3,ol 4 (oI .geq 3 (TC 48)),TW 5,IZ 6 5 0,Ig 7 5 (oI .leq 6 (TC 57)),Tb 8 5 7,Tp 8])
def y85:XF:=⟨[0],z85,[(.t 2)]⟩
theorem x85:jx ε 80=some y85:=by kernel_rfl
def z56:XC:=(OU Lj (IU [I0 3] 0 (.seq (O4 [oz 4 3,IY 5,ol 6 (.lenS 5),I5 7 4 6] 7 (.exit 0)) (Iz 1 (Iy [IY 10,oz 11 3,ol 12 (.ixStr 10 11),Ox 13 79 12,TM 14 13,oz 15 14,IZ 16 15 3,Ig 17 15 (TJ 16),IZ 18 15 17,IH 19 18 0,IH 20 18 3,If 21 18 (.ixStr 19 20),Lg 22 18 80 [21],TS 23 18 22,IH 24 18 23,IZ 25 24 0,IZ 26 24 3,Ig 27 24 (.ixStr 25 26),Ig 28 24 (oI .neq 27 (TC 95)),Lk 29 18 24 28 oW,Ig 30 15 (.pick 18 Ih 29),I6 31 15 30 oW] 31 Lj) [oz 8 3,TA 9 8 1,oy 3 9]))) [IY 32,ol 33 (.lenS 32),ol 34 (O7 .gtr 33),oz 35 34,IZ 36 35 0,Ig 37 35 (.lenS 36),Td 38 35 .leq 37 32,Tb 39 35 38,oz 40 39,IZ 41 40 0,Tm 42 (40,true) 81 [41],Ig 43 40 (IA 42),Tb 44 40 43,Tp 44])
def y56:XF:=⟨[0],z56,[(.t 2)]⟩
theorem x56:jx ε 58=some y56:=by kernel_rfl
def z16:XC:=(oX [TT 1,Ia 2 oJ] (Ic [Tl 3 1,oH 4 3,I4 5 4,O1 6 .eql 5 2] 6 (Lh [IX 7 3 1,Ts 8 7 7 27,IO (Ik 9 6 8 OM),T8 10 6 9 9 29,(TR 11 104 10 0 [],some [OP 11,OP 12,o9 (OO 13 1) 0,Ij (oH 14 13) 13 3 [(2,0)],OP 15,OP 16,OP 17,o9 (Tl 18 1) 0,Ij (oH 19 18) 18 27 [(3,0),(7,0)],o9 (Ik 20 6 19 Tg) 0,Ij (O9 21 20) 20 29 [(5,0),(9,0)],OP 22,OP 23,o9 (Ia 2 Iq) 0]),IO (OS 12 11 (o7 [32])),IX 13 0 1,Om 14 13 13 3 [(2,0)],(TR 15 105 14 0 [],some [OP 15,OP 16,OP 17,o9 (Tl 18 1) 0,Ij (oH 19 18) 18 27 [(3,0),(7,0)],o9 (Ik 20 6 19 Tg) 0,Ij (O9 21 20) 20 29 [(5,0),(9,0)],OP 22,OP 23,o9 (Ia 2 Iq) 0]),IO (OS 16 12 15),IO (OS 17 16 (o7 [32])),IX 18 3 1,Om 19 18 18 27 [(3,0),(7,0)],IO (Ik 20 6 19 Tg),ON 21 6 20 20 29 [(5,0),(9,0)],(TR 22 104 21 0 [],OJ),IO (OS 23 17 22),IO (Tp 23)])) (.seq (Ic [Tl 24 1,oH 25 24,I4 26 25,O1 27 .eql 26 1] 27 (.seq (Ic [OO 28 1,oH 29 28,O1 30 .gtr 29 6] 30 (Lh [IX 31 0 1,Ts 32 31 31 3,(TR 33 105 32 0 [],some [OP 33,OP 34,o9 (Tl 35 1) 0,Ij (oH 36 35) 35 27 [(2,0)],o9 (Ik 37 6 36 OM) 0,Ij (O9 38 37) 37 29 [(4,0)],OP 39,OP 40,o9 (Ia 2 Iq) 0]),IO (OS 34 33 (o7 [32])),IX 35 3 1,Om 36 35 35 27 [(2,0)],IO (Ik 37 6 36 OM),ON 38 6 37 37 29 [(4,0)],(TR 39 104 38 0 [],OJ),IO (OS 40 34 39),IO (Tp 40)])) (Lh [IX 41 0 1,Ts 42 41 41 3,(TR 43 105 42 0 [],some [OP 43,o9 (Tl 44 1) 0,Ij (oH 45 44) 44 27 [(1,0)],o9 (Ik 46 6 45 OM) 0,Ij (O9 47 46) 46 29 [(3,0)],OP 48,OP 49,o9 (Ia 2 Iq) 0]),IX 44 3 1,Om 45 44 44 27 [(1,0)],IO (Ik 46 6 45 OM),ON 47 6 46 46 29 [(3,0)],(TR 48 104 47 0 [],OJ),IO (OS 49 43 48),IO (Tp 49)]))) (T9 [OO 50 1,oH 51 50,O1 52 .eql 51 1] 52 [Tv 53 1,oH 54 53,Ox 55 77 54,Tp 55] (OW (Ic [OO 56 1,oH 57 56,O1 58 .eql 57 2] 58 (OW (Iy [Tv 59 1,oH 60 59,O1 61 .eql 60 1] 61 [Tp (o7 [116,114,117,101])]) [Tp (o7 [102,97,108,115,101])])) [Ld 62 1,oH 63 62,Tp 63]))))
def y16:XF:=⟨[0],z16,[(.t 2)]⟩
theorem x16:jx ε 78=some y16:=by kernel_rfl
def z51:XC:=(Oe [TT 1,Ia 2 oJ] [Tl 3 1,oH 4 3,I4 5 4,ow 6 (TJ 5)] 6 [O9 7 1,Ox 8 78 7,Tp 8] (o4 [O9 9 1,Ox 10 78 9,OS 11 (o7 [40]) 10,OS 12 11 (o7 [41]),Tp 12]))
def y51:XF:=⟨[0],z51,[(.t 2)]⟩
theorem x51:jx ε 104=some y51:=by kernel_rfl
def z53:XC:=(Oe [Ia 2 oJ] [IY 3,ow 4 (O7 .lss 3)] 4 [IY 5,ol 6 (.un .neg 5),Ox 7 77 6,OS 8 (o7 [45]) 7,Tp 8] (T9 [IY 9,O1 10 .lss 9 10] 10 [IY 11,IY 12,TA 13 12 1,ol 14 (.slStr (o7 [48,49,50,51,52,53,54,55,56,57]) (some 11) (some 13)),Tp 14] (TN [La 15,IE (Ib 16 .quo 15 10),(Ox 17 77 16,some [OP 17,IJ 18 0 0,o9 (Ib 19 .rem 18 10) 0,IJ 20 0 0,o9 (Ib 21 .rem 20 10) 0,o9 (TA 22 21 1) 0,o9 (ol 23 (.slStr (o7 [48,49,50,51,52,53,54,55,56,57]) (some 19) (some 22))) 0,OP 24,o9 (Ia 2 Iq) 0]),La 18,IE (Ib 19 .rem 18 10),La 20,IE (Ib 21 .rem 20 10),IE (TA 22 21 1),IE (ol 23 (.slStr (o7 [48,49,50,51,52,53,54,55,56,57]) (some 19) (some 22))),IE (OS 24 17 23),IE (Tp 24)] .ret)))
def y53:XF:=⟨[0],z53,[(.t 2)]⟩
theorem x53:jx ε 77=some y53:=by kernel_rfl
def z18:XC:=(ov [TT 1,Ia 2 oJ,I0 3] (Oe [Ia 4 oJ] [OO 19 1,oH 20 19,I4 21 20,Ib 22 .gtr 21 32,oz 23 22,Oo 24 23 1 1,Ov 25 23 24,TQ 26 23 25,O6 27 23 .gtr 26 32,Tc 28 23 27,oz 29 28,Oo 30 29 2 1,Ov 31 29 30,TQ 32 29 31,O6 33 29 .gtr 32 32,Lc 34 29 33] 34 [Ia 2 oJ,OZ 3 141] (.seq (T6 [OO 35 1,Oh 36 35,IP 37 36,I0 38] 0 39 38 37 39 0 1 [Ik 40 4 36 38,oU 41 4 40,o8 6 [oJ,.nils,oB,oB],o5 4 6 41] (Oe [oU 43 4 6,Ox 44 56 43,oz 42 44,Tw 45 42,Tx 46 42,oy 7 45,oy 8 46] [oz 47 8,OV 48 47] 48 [Ia 2 oJ,OZ 3 141] (.ops [TW 49,oz 50 7,OS 51 49 50,TK 51])) 52 38 38 52) (.seq (T6 [Tv 53 1,Oh 54 53,IP 55 54,I0 56] 2 57 56 55 57 2 3 [Ik 58 7 54 56,oU 59 7 58,o8 10 [oJ,oJ,oB,oB,.nils,oB,oB],o5 7 10 59] (Oe [oU 61 7 10,Ox 62 57 61,oz 60 62,Tw 63 60,Tx 64 60,oy 11 63,oy 12 64] [oz 65 12,OV 66 65] 66 [Ia 2 oJ,OZ 3 141] (.ops [TW 67,oz 68 11,OS 69 67 68,TK 69])) 70 56 56 70) (OW (Ob [Ld 71 1,Oh 72 71,IP 73 72,I0 74] 4 (Tn 75 74 73) 75 4 5 (Oe [Ik 76 4 72 74,oU 77 4 76,o8 14 [oJ,.nils,oB,oB],o5 4 14 77] [OO 78 14,oH 79 78,Ox 80 58 79,TM 81 80,oz 82 81,Oo 83 82 1 14,Ov 84 82 83,TQ 85 82 84,O6 86 82 .gtr 85 32,Lc 87 82 86] 87 [Ia 2 oJ,OZ 3 141] (oX [TW 88,OO 89 14,oH 90 89,OS 91 (o7 [112,114,111,99,101,115,115,32]) 90,OS 92 91 (o7 [32,123,10]),OS 93 88 92,TK 93] (T6 [Tv 94 14,Oh 95 94,IP 96 95,I0 97] 6 98 97 96 98 6 7 [Ik 99 7 95 97,oU 100 7 99,o8 16 [oB,oB,oJ,.nils,oB,oB,.nils],o5 7 16 100] (Oe [oU 102 7 16,Ox 103 59 102,oz 101 103,Tw 104 101,Tx 105 101,oy 17 104,oy 18 105] [oz 106 18,OV 107 106] 107 [Ia 2 oJ,OZ 3 141] (.ops [TW 108,oz 109 17,OS 110 108 109,TK 110])) 111 97 97 111) (.ops [TW 112,OS 113 112 (o7 [125,10]),TK 113]))) 114 74 1 74 114) [TW 115,Tp 115,I0 3])))))
def y18:XF:=⟨[0],z18,[(.t 2),(.t 3)]⟩
theorem x18:jx ε 35=some y18:=by kernel_rfl
def z54:XC:=(Oe [TT 1,Ia 2 oJ,Ol 3] [OO 7 1,oH 8 7,Ox 9 58 8,TM 10 9,oz 11 10,Oo 12 11 1 1,Ov 13 11 12,TQ 14 11 13,O6 15 11 .lss 14 1,Tc 16 11 15,oz 17 16,Oo 18 17 1 1,Ov 19 17 18,TQ 20 17 19,O6 21 17 .gtr 20 32,Lc 22 17 21] 22 (TG (Ia 2 oJ) 3) (OU [OO 23 1,oH 24 23,OS 25 (o7 [101,110,117,109,32]) 24,OS 26 25 (o7 [32,123,32]),TK 26] (Ob [Tv 27 1,Oh 28 27,IP 29 28,I0 30] 0 (Tn 31 30 29) 31 0 1 (Oe [oz 32 30,Li 33 28 30,oH 34 33,oy 5 32,oy 6 34] [TY 35,Ox 36 58 35,OV 37 36] 37 (TG (Ia 2 oJ) 3) (.seq (Oz [Lb 38,ow 39 (O7 .gtr 38)] 39 [TW 40,OS 41 40 (o7 [44,32]),TK 41]) (.ops [TW 42,TY 43,OS 44 42 43,TK 44]))) 45 30 1 30 45) [TW 46,OS 47 46 (o7 [32,125,10]),Tp 47,Ta 3]))
def y54:XF:=⟨[0],z54,[(.t 2),(.t 3)]⟩
theorem x54:jx ε 56=some y54:=by kernel_rfl
def je0:XC:=(T9 [oE 57 4 1,oH 58 57,I4 59 58,Ib 60 .gtr 59 1,oz 61 60,Oo 62 61 0 1,Ov 63 61 62,Lg 64 61 58 [63],TS 65 61 64,Lc 66 61 65] 66 (TG (Ia 2 oJ) 3) (OW (Ob [oE 67 4 1,Oh 68 67,IP 69 68,I0 70] 0 (Tn 71 70 69) 71 0 1 (Oe [Ik 72 6 68 70,O9 73 72,Tz 6,TV 6 73] [O9 74 6,Ox 75 11 74,OV 76 75] 76 (TG (Ia 2 oJ) 3) (.ops [TW 77,O9 78 6,Ox 79 78 78,OS 80 (o7 [32,61,32]) 79,OS 81 77 80,TK 81])) 82 70 1 70 82) [TW 83,OS 84 83 (o7 [59,10]),Tp 84,Ta 3]))
def z55:XC:=(ov [TT 1,Ia 2 oJ,Ol 3] (oX [OO 7 1,oH 8 7,OS 9 (o7 [118,97,114,32]) 8,OS 10 9 (o7 [32,58,32]),TK 10] (oK [Tv 11 1,oH 12 11,ow 13 (.strb .eql 12 (.c oJ))] 13 (T9 [Ld 14 1,oH 15 14,Ox 16 76 15,TM 17 16,oz 18 17,Oo 19 18 3 1,Ov 20 18 19,Lg 21 18 76 [20],TS 22 18 21,Lc 23 18 22] 23 (TG (Ia 2 oJ) 3) (.dops [Tq 24 4,IX 25 2 1,Ts 26 25 25 2,(TR 27 77 26 0 [],some [OP 27,OP 28,o9 (Tl 29 1) 0,Ij (oH 30 29) 29 2 [(2,0)],OP 31,OP 32,OP 33,o9 (Ia 4 Iq) 0]),IO (OS 28 27 (o7 [46,46])),IX 29 3 1,Om 30 29 29 2 [(2,0)],(TR 31 77 30 0 [],OJ),IO (OS 32 28 31),IO (OS 33 24 32),IO (TK 33)])) (T9 [Ld 34 1,oH 35 34,ol 36 (O7 .neq 35),oz 37 36,Oo 38 37 3 1,Ov 39 37 38,If 40 37 (O7 .neq 39),Tc 41 37 40,oz 42 41,Oo 43 42 1 1,Ov 44 42 43,If 45 42 (.strb .neq 44 (o7 [98,111,111,108])),IH 46 42 45,Oy 47 46 1 1,Ow 48 46 47,Tm 49 (46,true) 58 [48],Ig 50 46 (IA 49),Lk 51 42 46 50 oW,Lc 52 42 51] 52 (TG (Ia 2 oJ) 3) (.ops [TW 53,Tv 54 1,oH 55 54,OS 56 53 55,TK 56]))) je0))
def y55:XF:=⟨[0],z55,[(.t 2),(.t 3)]⟩
theorem x55:jx ε 57=some y55:=by kernel_rfl
def z57:XC:=(Oe [TT 1,Ia 2 oJ,Ol 3] [OO 7 1,O9 8 7,Ox 9 11 8,TM 10 9,oz 11 10,Oo 12 11 6 1,Ov 13 11 12,TQ 14 11 13,O6 15 11 .lss 14 1,Tc 16 11 15,oz 17 16,Oo 18 17 6 1,Ov 19 17 18,TQ 20 17 19,O6 21 17 .gtr 20 32,Lc 22 17 21] 22 (TG (Ia 2 oJ) 3) (OU [OO 23 1,O9 24 23,Ox 25 78 24,OS 26 (o7 [32,32,119,104,101,110,32]) 25,OS 27 26 (o7 [32,100,111,32]),TK 27] (Ob [oE 28 6 1,Oh 29 28,IP 30 29,I0 31] 0 (Tn 32 31 30) 32 0 1 (Oe [oz 33 31,Ik 34 9 29 31,oU 35 9 34,o8 6 [oJ,oB,oB,oJ,.nils,oB,oB,oB,oB],oy 5 33,o5 9 6 35] [OO 36 6,oH 37 36,Ox 38 58 37,TM 39 38,oz 40 39,Oo 41 40 1 6,O0 42 40 6 41,Lg 43 40 11 [42],TS 44 40 43,Lc 45 40 44] 45 (TG (Ia 2 oJ) 3) (.seq (Oz [Lb 46,ow 47 (O7 .gtr 46)] 47 [TW 48,OS 49 48 (o7 [44,32]),TK 49]) (.dops [Tq 50 4,IX 51 0 6,Ts 52 51 51 9,IO (OS 53 52 (o7 [32,58,61,32])),IX 54 1 6,T8 55 6 54 54 29,(TR 56 78 55 0 [(3,9)],OJ),IO (OS 57 53 56),IO (OS 58 50 57),IO (TK 58)]))) 59 31 1 31 59) [TW 60,OS 61 60 (o7 [59,10]),Tp 61,Ta 3]))
def y57:XF:=⟨[0],z57,[(.t 2),(.t 3)]⟩
theorem x57:jx ε 59=some y57:=by kernel_rfl
section
variable {P:Program} {e:En} {st:St} {K:AV->St->Prop}
def gQ (P:Program)(t:TypeId)(v:AV)(st:St):ER:=(YU P (O v) t).run E0 st
theorem jiq (x:A)(t:TypeId):wK P base (.i (.assert x t)) e st K=on1 e x λv=>jp (gQ P t v st) K:=k_1 rfl (λ_=>rfl) K
end
theorem Wi {P:Program}(res:List RV)(m:Md)(K:Md->St->Prop)(L:Sl)(st:St):jga P res m K (.go L st)=yA P res L st λ_=>K m st:=nr rfl
theorem jrO (t:Tk)(st:St)(K:AV->St->Prop):jp (gQ ε 45 (er t) st) K=K (.tup [.agg [.int .i64 151,.int .i64 (t.line:Int),.int .i64 (t.col:Int)],.bool true]) st:=by
 have:gQ ε 45 (er t) st=.ok (.tup [.agg [.int .i64 151,.int .i64 (t.line:Int),.int .i64 (t.col:Int)],.bool true]) st:=by kernel_rfl
 rw[this];rfl
theorem jiK (st:St)(K:AV->St->Prop):jp (QO ε .eql 20 true .nilif .nilif st) K=K (.bool true) st:=by
 have:QO ε .eql 20 true .nilif .nilif st=.ok (.bool true) st:=by kernel_rfl
 rw[this];rfl
theorem jrj (t:Tk)(st:St)(K:AV->St->Prop):jp (QO ε .eql 20 true (er t) .nilif st) K=K (.bool false) st:=by
 have:QO ε .eql 20 true (er t) .nilif st=.ok (.bool false) st:=by kernel_rfl
 rw[this];rfl
theorem ja8 {P:Program}{f:FuncId}{xs:List AV}{m m1:Md}{st s1:St}(h:∀ K:Md->St->Prop,K m1 s1->DX P base f xs m st K)(K:Md->St->Prop):DX P base f xs m st K=K m1 s1:=by
 refine propext ⟨λ⟨m2,s2,⟨N2,D2,h2⟩,h3⟩=>?_,h K⟩;obtain⟨m',s',⟨N,D,h1⟩,rfl,rfl⟩:=h (λm' s'=>m'=m1/\s'=s1) ⟨rfl,rfl⟩;have e1:=h1 (max N N2) (Qar ..) (max D D2) (Qar ..);have e2:=h2 (max N N2) (Qas ..) (max D D2) (Qas ..);rw[e1] at e2;cases e2;exact h3
theorem jdv {fb:Nat}(st:St)(hfr:st.fr=[])(K:Md->St->Prop):DX ε base 65 [.ptr fb 0] .calm st K=K .calm st:=by
 refine ja8 (λK hK=>?_) K;refine uj jpS (by rfl) hfr ?_;simp only[gX,jt,κ,μ,ν,X4,YA];rw[(by unfold Wg;simp only[qq];rfl:Wg=_)];repeat'(first|apply jc<;>intro _|simp(disch:=first|exact dzD|fail) only[jiK,Wi,r6,γ,δ,ζ,η,θ])
 exact hK
theorem jgj {fb:Nat}(t:Tk){cs:List AV}(st:St)(hfr:st.fr=[])(C:Cl st fb cs)(hcs:cs.length=3)(K:Md->St->Prop) :
  DX ε base 65 [.ptr fb 0] (.pan (er t)) st K=K .done (wr (wr (nw st [.int .i64 0,.int .i64 0,.int .i64 0]) st.nx 0 [.int .i64 151,.int .i64 (t.line:Int),.int .i64 (t.col:Int)]) fb 0 [.int .i64 151,.int .i64 (t.line:Int),.int .i64 (t.col:Int)]):=by
 refine ja8 (λK hK=>?_) K;refine uj jpS (by rfl) hfr ?_;simp only[gX,jt,κ,μ,ν,X4,YA];rw[(by unfold Wg;simp only[qq];rfl:Wg=_)];have hl:=C.lt;have l0:=C.len;have hne:¬ fb=st.nx:=om
 (have zz:=aI @l0 @hcs;(repeat'(first|apply jc<;>intro _|simp(disch:=first|exact qT|fail) only[jrj,jiq,jrO,Wi,l0,hcs,r6,γ,δ,ζ,η,θ]));all_goals clear zz)
 exact hK
theorem vP {fb:Nat}(st:St)(K:Md->St->Prop):DX ε base 65 [.ptr fb 0] .calm st.bare K=K .calm st.bare:=jdv st.bare rfl K
theorem WD {fb:Nat}(t:Tk)(st:St)(h:qv st.h fb=3)(hn:fb<st.nx)(K:Md->St->Prop) :
  DX ε base 65 [.ptr fb 0] (.pan (er t)) st.bare K=K .done (wr (wr (nw st.bare [.int .i64 0,.int .i64 0,.int .i64 0]) st.nx 0 [.int .i64 151,.int .i64 (t.line:Int),.int .i64 (t.col:Int)]) fb 0 [.int .i64 151,.int .i64 (t.line:Int),.int .i64 (t.col:Int)]):=
 have C:Cl st fb (rats st.h fb 0 3):=Cl.of_rats hn h (J5 _ _ _ _) dc rfl
 jgj t st.bare rfl C.bar (J5 _ _ _ _) K
theorem jss:Go.Ev.isAgg ε 45=some true:=by kernel_rfl
theorem jsr:Go.Ev.sizeOf ε 45=some 3:=by kernel_rfl
theorem Y2 {b:Nat}{x y z:Int}{h:T AO}(ho:0+3<=qv h b)(hv:rats h b 0 3=[.int .i64 x,.int .i64 y,.int .i64 z]):(j9 ε 45 (.ptr b 0) (.agg [.int .i64 x,.int .i64 y,.int .i64 z]) h=true)=True:=eq_true (Y4 jss jsr dc ho hv rfl)
theorem vU {b:Nat}{x y z w:Int}{n:List Nat}{h:T AO}(ho:0+6<=qv h b)(hv:rats h b 0 6=[.int .i64 x,.int .i64 y,.str n,.nils,.int .i64 z,.int .i64 w]):(j9 ε 29 (.ptr b 0) (.agg [.int .i64 x,.int .i64 y,.str n,.nils,.int .i64 z,.int .i64 w]) h=true)=True:=eq_true (Y4 jao jan dc ho hv rfl)
section
variable {P:Program} {st:St} {K Kp:AV->St->Prop}
theorem Qg {f:FuncId}{vs:List AV}(h:st.fr=[(f,vs)])(res:List RV)(v:AV)(L:Sl):Vy P base res K Kp v L st=DX P base f vs (.pan v) st.bare λm' st'=>(match m' with
  |.calm=>yA P res L st'.bare λvs=>K (zN vs) st'.bare
  |.pan v=>Kp v st'.bare
  |.done=>yA P res L st'.bare λvs=>K (zN vs) st'.bare):=by
 have:Vy P base res K Kp v L st=yU P base res K Kp [(f,vs)] L st.bare (.pan v):=by show yU P base res K Kp st.fr L st.bare (.pan v)=_;rw[h]
 rw[this,jbs];rfl
theorem JH {f:FuncId}{vs:List AV}(h:st.fr=[(f,vs)])(res:List RV)(L:Sl):GM P base res K Kp (.rt L st)=DX P base f vs .calm st.bare λm' st'=>(match m' with
  |.calm=>yA P res L st'.bare λvs=>K (zN vs) st'.bare
  |.pan v=>Kp v st'.bare
  |.done=>yA P res L st'.bare λvs=>K (zN vs) st'.bare):=by
 have:GM P base res K Kp (.rt L st)=yU P base res K Kp [(f,vs)] L st.bare .calm:=by show yU P base res K Kp st.fr L st.bare .calm=_;rw[h]
 rw[this,jbs];rfl
theorem Yx (h:st.fr=[])(res:List RV)(L:Sl):GM P base res K Kp (.rt L st)=yA P res L st.bare λvs=>K (zN vs) st.bare:=by
 show yU P base res K Kp st.fr L st.bare .calm=_;rw[h];rfl
end
theorem jrh {s:St}{x:Ex}{q:Nat×Nat×Nat}{cs ds:List AV}(h:cs=eE x)(h2:ds=zO q):G0 (.tup [.agg (eE x),.agg (zO q)]) (.tup [.agg cs,.agg ds]) s:=by
 subst h h2;exact FzD.tup (.cons (.agg (.pc (qZ x))) (.cons (.agg (.pc (by rfl))) .nil))
theorem jcG {s:St}{q:Nat×Nat×Nat}{ds:List AV}(h2:ds=zO q):G0 (.tup [.agg (eE (.mk 0 0 [] [] 0 0)),.agg (zO q)]) (.tup [.agg [.int .i64 0,.int .i64 0,.str [],.nils,.int .i64 0,.int .i64 0],.agg ds]) s:=by
 subst h2;exact FzD.tup (.cons YD (.cons (.agg (.pc (by rfl))) .nil))
def ex0:Ex:=.mk 0 0 [] [] 0 0
def yv (l:List Nat):Ex×(Nat×Nat×Nat):=
 if(qr l).2.1≠0 then(ex0,(qr l).2) else match yt (qr l).1 0 with
  |.er t=>(ex0,(151,t.line,t.col))
  |.ok x j=>if(tk (qr l).1 j).kind=5 then(x,(0,0,0)) else(ex0,(151,(tk (qr l).1 j).line,(tk (qr l).1 j).col))
theorem yh {ts:List Tk}(W:Wds ts){i j:Nat}{x:Ex}(hi:i<ts.length)(h:yt ts i=.ok x j):i+1<=j/\j<ts.length/\x.ev (atW ts)/\ze 60 x=true:=by
 obtain⟨r,hg,hr⟩:=evR W hi;rw[Vk hr] at h;unfold Vj at h;cases r with
 |er t=>cases h
 |ok y k=>
  dsimp only at h;by_cases c:ze 60 y=true
  ·rw[if_pos c] at h;cases h;exact⟨hg.1,hg.2.1,hg.2.2,c⟩
  ·rw[if_neg c] at h;cases h
set_option maxHeartbeats 4000000 in
theorem jr5 (hb:NB base)(hP:PI base)(l:List Nat)(hl:l.length<=9223372036854775807)(hW:(qr l).2.1=0->Wds (qr l).1/\(qr l).1≠[]/\(qr l).2=(0,0,0)) :
  Tot base 54 [.str l] (.tup [.agg (eE (yv l).1),.agg (zO (yv l).2)]):=by
 refine hb.tot ?_ rfl rfl;refine WA x15 (hb.pur 54 1 dc) ?_;simp only[y15,jt,κ,μ,ν,ξ];rw[(by unfold z15;simp only[qq];rfl:z15=_)];have hC:=jng hb hP l hl;have f0:(zO (qr l).2)=[.int .i64 ((qr l).2.1:Int),.int .i64 ((qr l).2.2.1:Int),.int .i64 ((qr l).2.2.2:Int)]:=rfl;by_cases he:(qr l).2.1=0
 ·obtain⟨W,hne,hz⟩:=hW he;have hi:0<(qr l).1.length:=QbB.2 hne;have A:=Uu hb W hi;unfold yv;rw[if_neg (by simp[he])];rw[hz] at hC;generalize (qr l).1=ts at *;have fz:zO (0,0,0)=[.int .i64 0,.int .i64 0,.int .i64 0]:=rfl;rw[fz] at hC;cases hr:yt ts 0 with
  |er t=>
   rw[hr] at A;obtain⟨i',d',A⟩:=A;have E:∀ st p,Cl st p [.lst ts.length (fl Tk.cells ts),.int .i64 0,.int .i64 0]->∀ K Kp,XB ε base 72 [.ptr p 0] st K Kp=_:=λst p C K Kp=>A.xb C rfl (λst=>hb.no 72 dc _ _) K Kp;unfold pC at *;repeat'(first|apply jc<;>intro _|simp(disch:=first|exact dzD|fail) only[hC,E,wn,Qg (f:=65) (vs:=[.ptr 1 0]),JH (f:=65) (vs:=[.ptr 1 0]),Yx,vP,WD,r6,γ,δ,ζ,η,θ])
   exact jcG rfl
  |ok x j=>
   rw[hr] at A;have A:PM _ _ _ _ _ _ _:=A;have hj:j<ts.length:=(yh W hi hr).2.1;have hN:=λst p=>@Y9 base hb ts j 0 hj st p;have E:∀ st p,Cl st p [.lst ts.length (fl Tk.cells ts),.int .i64 0,.int .i64 0]->∀ K Kp,XB ε base 72 [.ptr p 0] st K Kp=_:=λst p C K Kp=>A.xb C rfl (λst=>hb.no 72 dc _ _) K Kp;dsimp only;by_cases k5:(tk ts j).kind=5
   ·rw[if_pos k5];have k5':((tk ts j).kind:Int)=5:=om
    unfold pC at *
    (have zz:=@Q5;(repeat'(first|apply jc<;>intro _|simp(disch:=first|exact qT|fail) only[hC,E,hN,k5',wn,Qg (f:=65) (vs:=[.ptr 1 0]),JH (f:=65) (vs:=[.ptr 1 0]),Yx,vP,WD,Q3,vU,Y2,<-qJ,Q5,r6,γ,δ,ζ,η,θ]));all_goals clear zz)
    exact jrh rfl rfl
   ·rw[if_neg k5];have k5':¬ ((tk ts j).kind:Int)=5:=om
    unfold pC at *;repeat'(first|apply jc<;>intro _|simp(disch:=first|exact dzD|fail) only[hC,E,hN,k5',Qr hb,wn,Qg (f:=65) (vs:=[.ptr 1 0]),JH (f:=65) (vs:=[.ptr 1 0]),Yx,vP,WD,Q3,vU,Y2,r6,γ,δ,ζ,η,θ])
    exact jcG rfl
 ·have he':¬ ((qr l).2.1:Int)=0:=om
  unfold yv;rw[if_pos he];rw[f0] at hC;generalize (qr l).1=ts at *;repeat'(first|apply jc<;>intro _|simp(disch:=first|exact dzD|fail) only[hC,he',wn,Qg (f:=65) (vs:=[.ptr 1 0]),JH (f:=65) (vs:=[.ptr 1 0]),Yx,vP,WD,Q3,vU,Y2,r6,γ,δ,ζ,η,θ])
  exact jcG rfl
inductive SR (α:Type) where
 |ok (x:α) (j:Nat)
 |er (t:Tk)
def Nbs (ts:List Tk):Prop:=∀ i,(tk ts i).num<=1000000
def AnS {α:Type}(base:Bs)(f:FuncId)(c xs:List AV)(ts:List Tk)(d:Nat)(enc:α->AV):SR α->Prop
 |.ok x j=>PM ε base f c xs (.ok (enc x)) (pC ts j d)
 |.er t=>∃ i' d',PM ε base f c xs (.pn (er t)) (pC ts i' d')
def SK {α:Type}(ts:List Tk)(d:Nat)(enc:α->AV)(r:SR α)(v:AV)(s:St):Prop:=match r with | .ok y j=>G1 3 (pC ts j d) (enc y) v s | .er _=>False
def SP {α:Type}(ts:List Tk)(r:SR α)(v:AV)(s:St):Prop:=match r with | .ok _ _=>False | .er t=>∃ i' d',G1 3 (pC ts i' d') (er t) v s
theorem jav {α:Type}(ts:List Tk)(d:Nat)(enc:α->AV)(y:α)(j:Nat)(v:AV)(s:St):SK ts d enc (.ok y j) v s=G1 3 (pC ts j d) (enc y) v s:=nr rfl
theorem zL {α:Type}(ts:List Tk)(t:Tk)(v:AV)(s:St):SP (α:=α) ts (.er t) v s = ∃ i' d',G1 3 (pC ts i' d') (er t) v s:=nr rfl
theorem vR {α:Type}{f:FuncId}{F:XF}(hl:jx ε f=some F)(hnd:F.body.nd=true)(hm:base.pur f=3){xs:List AV}{ts:List Tk}{i d:Nat}{enc:α->AV}{r:SR α}
  (h:xC ε base F.body (jt F.ps (.ptr 0 0 :: xs)) (nw st0 (pC ts i d)) (Xp ε F.res (SK ts d enc r)) λv _ s=>SP ts r v s.bare):AnS base f (pC ts i d) xs ts d enc r:=by
 rw[<-Gs] at h;obtain⟨q,he,hq⟩:=YF (st:=ZC (pC ts i d)) (K:=SK ts d enc r) (Kp:=SP ts r) hl hnd h;cases r with
 |ok y j=>
  refine PM.of hm rfl ⟨q,he,?_⟩;cases q<;>first|exact hq|exact hq.elim
 |er t=>
  cases q with
  |no=>exact hq.elim
  |ok v s=>exact(hq:False).elim
  |pn v s=>
   obtain⟨i',d',hq⟩:=(hq:∃ i' d',G1 3 (pC ts i' d') (er t) v s);exact⟨i',d',PM.of hm rfl ⟨_,he,hq⟩⟩
def Y8 (ts:List Tk)(i:Nat):SR Int:=
 if isM (tk ts i) [[45]]=true then(if(tk ts (i+1)).kind=2 then .ok (-((tk ts (i+1)).num:Int)) (i+2) else .er (tk ts (i+1)))
 else(if(tk ts i).kind=2 then .ok ((tk ts i).num:Int) (i+1) else .er (tk ts i))
theorem jb8 (hb:NB base){ts:List Tk}(W:Wds ts)(N:Nbs ts){i d:Nat}(hi:i<ts.length):AnS base 122 (pC ts i d) [] ts d (λn=>.int .i64 n) (Y8 ts i):=by
 have wl:=W.len;have T:=Y0 hb hi (d:=d) om [[45]] (cs:=[.str [45]]) (n:=1) rfl rfl dc;unfold Y8;by_cases c1:isM (tk ts i) [[45]]=true
 ·rw[if_pos c1];have hi1:=W.isM hi c1;have hN:=λst p=>@Y9 base hb ts (i+1) d hi1 st p;have hn:=N (i+1);by_cases k2:(tk ts (i+1)).kind=2
  ·rw[if_pos k2];have k2':((tk ts (i+1)).kind:Int)=2:=om
   show PM _ _ _ _ _ _ _;unfold pC at *;refine qc jfb (by rfl) (hb.pur 122 3 dc) rfl ?_;simp only[jbo,jt,κ,μ,ν,ξ];rw[(by unfold Wh;simp only[qq];rfl:Wh=_)];repeat'(first|apply jc<;>intro _|simp(disch:=first|exact dzD|fail) only[T,c1,hN,k2',r6,γ,δ,ζ,η,θ])
   (refine G1.done ?_ (by rfl) (by rfl) ?_;(· (first|exact cyD|fail));(· first|exact vyD|skip))
  ·rw[if_neg k2];have k2':¬ ((tk ts (i+1)).kind:Int)=2:=om
   refine⟨i+1,d,?_⟩;unfold pC at *;refine qc jfb (by rfl) (hb.pur 122 3 dc) rfl ?_;simp only[jbo,jt,κ,μ,ν,ξ];rw[(by unfold Wh;simp only[qq];rfl:Wh=_)];repeat'(first|apply jc<;>intro _|simp(disch:=first|exact dzD|fail) only[T,c1,hN,k2',Qr hb,r6,γ,δ,ζ,η,θ])
   (refine G1.done ?_ (by rfl) (by rfl) ?_;(· (first|exact cyD|fail));(· first|exact vyD|skip))
 ·rw[if_neg c1];have hN:=λst p=>@Y9 base hb ts i d hi st p;have hn:=N i;by_cases k2:(tk ts i).kind=2
  ·rw[if_pos k2];have k2':((tk ts i).kind:Int)=2:=om
   show PM _ _ _ _ _ _ _;unfold pC at *;refine qc jfb (by rfl) (hb.pur 122 3 dc) rfl ?_;simp only[jbo,jt,κ,μ,ν,ξ];rw[(by unfold Wh;simp only[qq];rfl:Wh=_)];repeat'(first|apply jc<;>intro _|simp(disch:=first|exact dzD|fail) only[T,c1,hN,k2',r6,γ,δ,ζ,η,θ])
   (refine G1.done ?_ (by rfl) (by rfl) ?_;(· (first|exact cyD|fail));(· first|exact vyD|skip))
  ·rw[if_neg k2];have k2':¬ ((tk ts i).kind:Int)=2:=om
   refine⟨i,d,?_⟩;unfold pC at *;refine qc jfb (by rfl) (hb.pur 122 3 dc) rfl ?_;simp only[jbo,jt,κ,μ,ν,ξ];rw[(by unfold Wh;simp only[qq];rfl:Wh=_)];repeat'(first|apply jc<;>intro _|simp(disch:=first|exact dzD|fail) only[T,c1,hN,k2',Qr hb,r6,γ,δ,ζ,η,θ])
   (refine G1.done ?_ (by rfl) (by rfl) ?_;(· (first|exact cyD|fail));(· first|exact vyD|skip))
structure EnumT where
 name:List Nat
 vals:List (List Nat)
 line:Int
 col:Int
def enE (e:EnumT):List AV:=[.str e.name,.lst e.vals.length (e.vals.map .str),.int .i64 (e.line:Int),.int .i64 (e.col:Int)]
def Xu (ts:List Tk):Nat->Nat->List (List Nat)->SR (List (List Nat))
 |0,i,_=>.er (tk ts i)
 |n+1,i,vs=>if(tk ts i).kind=1 then
   (if 32<=vs.length then .er (tk ts i)
    else if isM (tk ts (i+1)) [[44]]=true then Xu ts n (i+2) (vs ++ [(tk ts i).text])
    else if isM (tk ts (i+1)) [[125]]=true then .ok (vs ++ [(tk ts i).text]) (i+2)
    else .er (tk ts (i+1)))
  else .er (tk ts i)
def Yv (ts:List Tk)(i:Nat):SR EnumT:=
 if(tk ts i).kind=1 then
  (if isM (tk ts (i+1)) [[123]]=true then(match Xu ts ts.length (i+2) [] with
    |.ok vs j=>.ok ⟨(tk ts i).text,vs,(tk ts i).line,(tk ts i).col⟩ j
    |.er t=>.er t)
   else .er (tk ts (i+1)))
 else .er (tk ts i)
theorem wU (hb:NB base){n:Nat}(h:n<32)(t:Tk):Tot base 87 [.int .i64 (n:Int),.agg t.cells] (.tup []):=by
 have:=jhy hb n t;rw[if_neg om] at this;exact this
theorem wV (hb:NB base){n:Nat}(h:32<=n)(t:Tk):Ret base 87 [.int .i64 (n:Int),.agg t.cells] (.pn (er t)):=by
 have:=jhy hb n t;rw[if_pos h] at this;exact this
theorem jsk:Go.Ev.isAgg ε 106=some false:=by kernel_rfl
theorem jsj:Go.Ev.sizeOf ε 106=some 1:=by kernel_rfl
theorem Gf {b o:Nat}{v:AV}{h:T AO}(ho:o<qv h b)(hv:rat h b o=v)(hc:eqs v=true):(j9 ε 106 (.ptr b o) v h=true)=True:=eq_true (Qk jsk jsj ho hv hc)
theorem Lv.eqs {lo hi n z:Nat}{s:St}{v:AV}{cs:List AV}(h:Lv lo hi s v n cs z):Go.Sy.eqs v=true:=by
 rcases h with ⟨rfl,_⟩|⟨b,rfl,_⟩<;>rfl
theorem Lv.cell {lo hi n z:Nat}{s:St}{v:AV}{cs:List AV}(h:Lv lo hi s v n cs z):v.cell=true:=by
 rcases h with ⟨rfl,_⟩|⟨b,rfl,_⟩<;>rfl
theorem Lv.cells {lo hi n z:Nat}{s:St}{v:AV}{cs:List AV}(h:Lv lo hi s v n cs z):v.cells=[v]:=by
 rcases h with ⟨rfl,_⟩|⟨b,rfl,_⟩<;>rfl
theorem Lv.plain {lo hi n z:Nat}{s:St}{v:AV}{cs:List AV}(h:Lv lo hi s v n cs z):v.plain=true:=by
 rcases h with ⟨rfl,_⟩|⟨b,rfl,_⟩<;>rfl
theorem Lv.len {lo hi n z:Nat}{s:St}{v:AV}{cs:List AV}(h:Lv lo hi s v n cs z)(st:St)(K:AV->St->Prop):jp (lenV v st) K=K (.int .i64 (n:Int)) st:=by
 rcases h with ⟨rfl,rfl,_⟩|⟨b,rfl,_⟩
 ·exact jbE
 ·exact jff ..
theorem jC (z:Nat)(v:AV)(s:St):(apv z v s).cells=[apv z v s]:=by unfold apv;split<;>rfl
theorem jI (z:Nat)(v:AV)(s:St):(apv z v s).plain=true:=by unfold apv;split<;>rfl
theorem jL (z:Nat)(v:AV)(s:St)(l:List AV):lall AV.cell (apv z v s :: l)=lall AV.cell l:=by unfold apv;split<;>rfl
set_option maxHeartbeats 4000000 in
theorem jrm (hb:NB base){ts:List Tk}(W:Wds ts){i d:Nat}(hi:i<ts.length):AnS base 88 (pC ts i d) [] ts d (λe=>.agg (enE e)) (Yv ts i):=by
 have wl:=W.len;have N:=λst p=>@uZ base hb ts i d hi om st p;unfold Yv;by_cases k1:(tk ts i).kind=1
 ·rw[if_pos k1];have hi1:i+1<ts.length:=W.next i hi om
  have M:=λst p=>@QV base hb ts (i+1) d hi1 om [123] st p;by_cases c1:isM (tk ts (i+1)) [[123]]=true
  ·rw[if_pos c1];have hi2:=W.isM hi1 c1;suffices h:∀ r:SR EnumT,(match Xu ts ts.length (i+2) [] with
    |.ok vs j=>SR.ok ⟨(tk ts i).text,vs,(tk ts i).line,(tk ts i).col⟩ j
    |.er t=>.er t:SR EnumT)=r->AnS base 88 (pC ts i d) [] ts d (λe=>.agg (enE e)) r from h _ rfl
   intro r hr;refine vR x78 (by rfl) (hb.pur 88 3 dc) ?_;simp only[y78,jt,κ,μ,ν,ξ];rw[(by unfold z78;simp only[qq];rfl:z78=_)];unfold pC at *;repeat'(first|apply jc<;>intro _|simp(disch:=first|exact dzD|fail) only[N,k1,M,c1,r6,γ,δ,ζ,η,θ])
   refine uO λu hu=>?_;have n0:u.nx=4:=by rw[hu];rfl
   have C0:Cl u 0 (pC ts (i+2) d):=by
    rw[hu];unfold pC
    (first|exact cyD|fail)
   have C1:Cl u 1 [.str [],.nils,.int .i64 0,.int .i64 0]:=by
    rw[hu]
    (first|exact cyD|fail)
   have C3:Cl u 3 [.str (tk ts i).text,.nils,.int .i64 ((tk ts i).line:Int),.int .i64 ((tk ts i).col:Int)]:=by
    rw[hu]
    (first|exact cyD|fail)
   clear hu N M;generalize (tk ts i).text=nm at *;generalize (tk ts i).line=ln at *;generalize (tk ts i).col=co at *;refine zu (λmm L s=>∃ (m i':Nat) (vs:List (List Nat)) (v:AV),mm=m/\ts.length<=i'+m/\i'<ts.length/\(match Xu ts m i' vs with | .ok vs j=>SR.ok ⟨nm,vs,ln,co⟩ j | .er t=>.er t:SR EnumT)=r/\4<=s.nx/\Cl s 0 (pC ts i' d)/\Cl s 1 [.str [],.nils,.int .i64 0,.int .i64 0]/\Cl s 3 [.str nm,v,.int .i64 (ln:Int),.int .i64 (co:Int)]/\Lv 4 s.nx s v vs.length (vs.map .str) 1/\Has L 0 (.ptr 0 0)/\Has L 2 (.ptr 1 0)/\Has L 4 (.ptr 3 0)) ?_ ts.length ?_
   ·rintro m L s ⟨_,i',vs,v,rfl,hm,hi',hl,n0,C0,C1,C3,V,i0,i2,i4⟩;clear hr;cases m with
    |zero=>omega
    |succ m=>
    unfold Xu at hl;obtain⟨q,hq⟩:∃ q,q=s.nx:=⟨_,rfl⟩;rw[<-hq] at V;have hq':q<=s.nx:=QaU hq;have hN:=λst p=>@Y9 base hb ts i' d hi' st p;have hM:=λst p=>@uZ base hb ts i' d hi' om st p;have L0:=C0.lt;have L1:=C1.lt;have L3:=C3.lt;have ve:=V.eqs;have g3:rat s.h 3 1=v:=C3.cell 1 (QbA (QaR 2));have vl:=V.len;by_cases k1:(tk ts i').kind=1
    ·rw[if_pos k1] at hl;have k1':((tk ts i').kind:Int)=1:=om
     have hi1:i'+1<ts.length:=W.next i' hi' om
     by_cases h32:32<=vs.length
     ·rw[if_pos h32] at hl;subst hl;have R:=wV hb h32 (tk ts i');unfold pC at *
      (have zz:=aI @g3 (aI C0.r (aI C1.r C3.r));(repeat'(first|apply jc<;>intro _|simp(disch:=first|exact qT|fail) only[ja i0,ja i2,ja i4,hN,k1',vl,R,Gf,ve,zL,C0.q,C1.q,C3.q,g3,C0.r,C1.r,C3.r,r6,γ,δ,ζ,η,θ]));all_goals clear zz)
      refine⟨i',d,?_⟩;unfold pC
      (refine G1.done ?_ (by rfl) (by rfl) ?_;(· (have zz:=aI C0.q (aI C1.q (aI C3.q (aI C0.r (aI C1.r C3.r))));first|exact qp|fail));(· first|exact vyD|skip))
     ·rw[if_neg h32] at hl;have R:=wU hb (show vs.length<32 by omega) (tk ts i');have T:=Y0 hb hi1 (d:=d) om [[44]] (cs:=[.str [44]]) (n:=1) rfl rfl dc;have M:=λst p=>@QV base hb ts (i'+1) d hi1 om [125] st p;have A:=λst bv xc xx K h hv=>@JS 4 q vs.length 1 st v (vs.map .str) K 16 bv xc xx h dc om om hv;have V2:∀ st m',Lv 4 q st v vs.length (vs.map .str) 1->4<=st.nx->m'=st.nx+1->Lv 4 m' (aps v st [.str (tk ts i').text]) (apv 1 v st) (vs ++ [(tk ts i').text]).length ((vs ++ [(tk ts i').text]).map .str) 1:=λst m' h h2 h3=>by
       rw[ψ,Qbf];exact h.put rfl h2 h3
      unfold pC at *
      (have zz:=aI @g3 (aI V.ln (aI V.rts (aI @jA (aI @jF (aI @jJ (aI @V (aI @ve (aI @jC (aI @jI (aI @jL (aI C0.r (aI C1.r C3.r))))))))))));(repeat'(first|apply jc<;>intro _|simp(disch:=first|exact qT|fail) only[ja i0,ja i2,ja i4,hN,hM,k1,k1',vl,R,Gf,ve,A,V.at,jC,C0.q,C1.q,C3.q,g3,V.ln,V.rts,jA,jF,jJ,V,ve,jC,jI,jL,C0.r,C1.r,C3.r,r6,γ,δ,ζ,η,θ]));all_goals clear zz)
      rw[T _ 0 (s.nx+1+1) 1 true (by(have zz:=aI C0.q (aI C1.q (aI C3.q (aI @g3 (aI V.ln (aI V.rts (aI C0.r (aI C1.r C3.r)))))));first|exact qp|fail)) (by(have zz:=aI C0.q (aI C1.q (aI C3.q (aI @g3 (aI V.ln (aI V.rts (aI C0.r (aI C1.r C3.r)))))));first|exact qp|fail)) om]
      (have zz:=aI @g3 (aI V.ln (aI V.rts (aI @jC (aI @jI (aI @jL (aI C0.r (aI C1.r C3.r)))))));(repeat'(first|apply jc<;>intro _|simp(disch:=first|exact qT|fail) only[ja i0,ja i2,ja i4,M,V.at,jC,jav,zL,C0.q,C1.q,C3.q,g3,V.ln,V.rts,jC,jI,jL,C0.r,C1.r,C3.r,r6,γ,δ,ζ,η,θ]));all_goals clear zz)
      ·rename_i c;rw[if_pos c] at hl;have hi2:=W.isM hi1 c;refine⟨m,om,m,i'+1+1,vs ++ [(tk ts i').text],?v,rfl,om,hi2,hl,om,?c0,?c1,?c3,?lv,?has⟩;case lv=>
        refine Lv.up (hi:=s.nx+2) ?_ om;simp(disch:=first|omega|(simp only[ji,jo,jr,ju];omega)) only[jA,jF,jJ];refine V2 _ _ ?_ ?_ ?_;all_goals first|(simp only[ji,jo];done)|(simp only[ji,jo];omega)|(simp(disch:=first|omega|(simp only[ji,jo];omega)) only[jA,jF];exact V)
       case c0=>(have zz:=aI C0.q (aI C1.q (aI C3.q (aI @g3 (aI V.ln (aI V.rts (aI @jC (aI @jI (aI @jL (aI C0.r (aI C1.r C3.r))))))))));first|exact qp|fail)
       case c1=>(have zz:=aI C0.q (aI C1.q (aI C3.q (aI @g3 (aI V.ln (aI V.rts (aI @jC (aI @jI (aI @jL (aI C0.r (aI C1.r C3.r))))))))));first|exact qp|fail)
       case c3=>(have zz:=aI C0.q (aI C1.q (aI C3.q (aI @g3 (aI V.ln (aI V.rts (aI @jC (aI @jI (aI @jL (aI C0.r (aI C1.r C3.r))))))))));first|exact qp|fail)
       case has=>simp(disch:=decide) only[h12,i0,i2,i4]
      ·rename_i c c2;rw[if_neg c,if_pos c2] at hl;have hl:SR.ok (⟨nm,vs ++ [(tk ts i').text],ln,co⟩:EnumT) (i'+2)=r:=hl;subst hl;show G1 3 (pC ts (i'+2) d) (.agg (enE ⟨nm,vs ++ [(tk ts i').text],ln,co⟩)) _ _;refine G1.done ?_ (by rfl) (by rfl) (FzD.agg (.cons (.pc rfl) (.cons (Lv.fz (lo:=4) (hi:=s.nx+2) (z:=1) ?_ dc (uS _)) (.cons (.pc rfl) (.cons (.pc rfl) .nil)))))
       ·unfold pC
        (have zz:=aI C0.q (aI C1.q (aI C3.q (aI @g3 (aI V.ln (aI V.rts (aI @jC (aI @jI (aI @jL (aI C0.r (aI C1.r C3.r))))))))));first|exact qp|fail)
       ·simp(disch:=first|omega|(simp only[ji,jo,jr,ju];omega)) only[jH,jA,jF,jJ];refine V2 _ _ ?_ ?_ ?_;all_goals first|(simp only[ji,jo];done)|(simp only[ji,jo];omega)|(simp(disch:=first|omega|(simp only[ji,jo];omega)) only[jA,jF];exact V)
      ·rename_i c c2;rw[if_neg c,if_neg c2] at hl;have hl:SR.er (tk ts (i'+1))=r:=hl;subst hl;refine⟨i'+1,d,?_⟩;unfold pC
       (refine G1.done ?_ (by rfl) (by rfl) ?_;(· (have zz:=aI C0.q (aI C1.q (aI C3.q (aI @g3 (aI V.ln (aI V.rts (aI @jC (aI @jI (aI @jL (aI C0.r (aI C1.r C3.r))))))))));first|exact qp|fail));(· first|exact vyD|skip))
    ·rw[if_neg k1] at hl;have k1':¬ ((tk ts i').kind:Int)=1:=om
     subst hl;unfold pC at *
     (have zz:=aI @g3 (aI C0.r (aI C1.r C3.r));(repeat'(first|apply jc<;>intro _|simp(disch:=first|exact qT|fail) only[ja i0,ja i2,ja i4,hN,hM,k1,k1',Gf,ve,zL,C0.q,C1.q,C3.q,g3,C0.r,C1.r,C3.r,r6,γ,δ,ζ,η,θ]));all_goals clear zz)
     refine⟨i',d,?_⟩;unfold pC
     (refine G1.done ?_ (by rfl) (by rfl) ?_;(· (have zz:=aI C0.q (aI C1.q (aI C3.q (aI C0.r (aI C1.r C3.r))));first|exact qp|fail));(· first|exact vyD|skip))
   ·refine⟨ts.length,i+2,[],.nils,rfl,om,hi2,hr,om,C0,C1,C3,Lv.nil,?_⟩;simp(disch:=decide) only[h12]
  ·rw[if_neg c1];refine⟨i+1,d,?_⟩;unfold pC at *;refine qc x78 (by rfl) (hb.pur 88 3 dc) rfl ?_;simp only[y78,jt,κ,μ,ν,ξ];rw[(by unfold z78;simp only[qq];rfl:z78=_)];repeat'(first|apply jc<;>intro _|simp(disch:=first|exact dzD|fail) only[N,k1,M,c1,r6,γ,δ,ζ,η,θ])
   (refine G1.done ?_ (by rfl) (by rfl) ?_;(· (first|exact cyD|fail));(· first|exact vyD|skip))
 ·rw[if_neg k1];refine⟨i,d,?_⟩;unfold pC at *;refine qc x78 (by rfl) (hb.pur 88 3 dc) rfl ?_;simp only[y78,jt,κ,μ,ν,ξ];rw[(by unfold z78;simp only[qq];rfl:z78=_)];repeat'(first|apply jc<;>intro _|simp(disch:=first|exact dzD|fail) only[N,k1,r6,γ,δ,ζ,η,θ])
  (refine G1.done ?_ (by rfl) (by rfl) ?_;(· (first|exact cyD|fail));(· first|exact vyD|skip))
structure DeclT where
 name:List Nat
 ty:List Nat
 lo:Int
 hi:Int
 begins:List Ex
 line:Int
 col:Int
def qk (d:DeclT):List AV:=[.str d.name,.str d.ty,.int .i64 d.lo,.int .i64 d.hi,.lst d.begins.length (fl eE d.begins),.int .i64 (d.line:Int),.int .i64 (d.col:Int)]
def Wp (ts:List Tk)(i:Nat):SR (List Nat×Int×Int):=
 if isM (tk ts i) [[98,111,111,108]]=true then .ok ([98,111,111,108],0,0) (i+1)
 else if(tk ts i).kind=1 then .ok ((tk ts i).text,0,0) (i+1)
 else match Y8 ts i with
  |.er t=>.er t
  |.ok lo j=>if isM (tk ts j) [[46,46]]=true then(match Y8 ts (j+1) with
   |.er t=>.er t
   |.ok hi k=>.ok ([],lo,hi) k) else .er (tk ts j)
def wj (ts:List Tk)(i:Nat):SR (List Ex):=
 if isM (tk ts i) [[61]]=true then(match yt ts (i+1) with
  |.er t=>.er t
  |.ok x j=>if isM (tk ts j) [[59]]=true then .ok [x] (j+1) else .er (tk ts j))
 else if isM (tk ts i) [[59]]=true then .ok [] (i+1) else .er (tk ts i)
def Yw (ts:List Tk)(i:Nat):SR DeclT:=
 if(tk ts i).kind=1 then
  (if isM (tk ts (i+1)) [[58]]=true then(match Wp ts (i+2) with
    |.er t=>.er t
    |.ok y j=>(match wj ts j with
     |.er t=>.er t
     |.ok bs k=>.ok ⟨(tk ts i).text,y.1,y.2.1,y.2.2,bs,(tk ts i).line,(tk ts i).col⟩ k))
   else .er (tk ts (i+1)))
 else .er (tk ts i)
def zD:List AV:=[.str [],.str [],.int .i64 0,.int .i64 0,.nils,.int .i64 0,.int .i64 0]
theorem jsK {m d b cap:Nat}{s:St}{ks:List Ex}{ex:Bool}{cs:List AV}(C:Cl s b cs)(hc:cs=fl eE ks)(hm:m<=b):FzD m (d+3) s (.slice b 0 ks.length cap 6 ex) (.lst ks.length (fl eE ks)):=by
 subst hc;have hl:=Jh zK ks;refine FzD.slice C.rw_ (QaU hl.symm) hm ?_;rw[<-hl,Qaf];exact .pc (yZ qZ ks)
set_option maxHeartbeats 4000000 in
theorem jge (hb:NB base){ts:List Tk}(W:Wds ts){j:Nat}(hj:j<ts.length){nm ty:List Nat}{lo hi:Int}{ln co:Nat}{r:SR DeclT}
  (hr:(match wj ts j with | .er t=>SR.er t | .ok bs k=>.ok ⟨nm,ty,lo,hi,bs,ln,co⟩ k)=r) {L:Sl} {s:St} (n0:4<=s.nx) (C0:Cl s 0 (pC ts j 0)) (C1:Cl s 1 zD)
  (C3:Cl s 3 [.str nm,.str ty,.int .i64 lo,.int .i64 hi,.nils,.int .i64 (ln:Int),.int .i64 (co:Int)]) (i0:Has L 0 (.ptr 0 0)) (i2:Has L 2 (.ptr 1 0)) (i4:Has L 4 (.ptr 3 0)) :
  xC ε base jeV L s (Xp ε y79.res (SK ts 0 (λd=>.agg (qk d)) r)) λv _ s=>SP ts r v s.bare:=by
 have wl:=W.len;have L0:=C0.lt;have L1:=C1.lt;have L3:=C3.lt;have T:=Y0 hb hj (d:=0) om [[61]] (cs:=[.str [61]]) (n:=1) rfl rfl dc;unfold wj at hr;unfold zD pC at *;rw[(by unfold jeV;simp only[qq];rfl:jeV=_)];simp only[y79];by_cases c1:isM (tk ts j) [[61]]=true
 ·rw[if_pos c1] at hr;have hj1:=W.isM hj c1;have A:=Uu hb W hj1;cases hw:yt ts (j+1) with
  |er t=>
   rw[hw] at hr A;have hr:SR.er t=r:=hr;subst hr;obtain⟨i',d',A⟩:=A;have E:∀ st p,Cl st p (pC ts (j+1) 0)->∀ K Kp,XB ε base 72 [.ptr p 0] st K Kp=_:=λst p C K Kp=>A.xb C rfl (λst=>hb.no 72 dc _ _) K Kp;unfold pC at *
   (have zz:=aI C0.r (aI C1.r C3.r);(repeat'(first|apply jc<;>intro _|simp(disch:=first|exact qT|fail) only[ja i0,ja i2,ja i4,T,c1,E,zL,C0.q,C1.q,C3.q,C0.r,C1.r,C3.r,r6,γ,δ,ζ,η,θ]));all_goals clear zz)
   refine⟨i',d',?_⟩;unfold pC
   (refine G1.done ?_ (by rfl) (by rfl) ?_;(· (have zz:=aI C0.q (aI C1.q (aI C3.q (aI C0.r (aI C1.r C3.r))));first|exact qp|fail));(· first|exact vyD|skip))
  |ok x q=>
   rw[hw] at hr A;have A:PM _ _ _ _ _ _ _:=A;have E:∀ st p,Cl st p (pC ts (j+1) 0)->∀ K Kp,XB ε base 72 [.ptr p 0] st K Kp=_:=λst p C K Kp=>A.xb C rfl (λst=>hb.no 72 dc _ _) K Kp;have hq:q<ts.length:=(yh W hj1 hw).2.1;have M:=λst p=>@QV base hb ts q 0 hq om [59] st p;unfold pC at *
   (have zz:=aI C0.r (aI C1.r C3.r);(repeat'(first|apply jc<;>intro _|simp(disch:=first|exact qT|fail) only[ja i0,ja i2,ja i4,T,c1,E,M,zL,jav,C0.q,C1.q,C3.q,C0.r,C1.r,C3.r,r6,γ,δ,ζ,η,θ]));all_goals clear zz)
   ·rename_i c2;dsimp only at hr;rw[if_pos c2] at hr;have hr:SR.ok (⟨nm,ty,lo,hi,[x],ln,co⟩:DeclT) (q+1)=r:=hr;subst hr;show G1 3 (pC ts (q+1) 0) (.agg (qk ⟨nm,ty,lo,hi,[x],ln,co⟩)) _ _;refine G1.done ?_ (by rfl) (by rfl) (FzD.agg (.cons (.pc rfl) (.cons (.pc rfl) (.cons (.pc rfl) (.cons (.pc rfl) (.cons (jsK (ks:=[x]) (cs:=eE x) ?_ (by rw[JZ]) om) (.pc rfl)))))))
    ·unfold pC
     (have zz:=aI C0.q (aI C1.q (aI C3.q (aI C0.r (aI C1.r C3.r))));first|exact qp|fail)
    ·(have zz:=aI C0.q (aI C1.q (aI C3.q (aI C0.r (aI C1.r C3.r))));first|exact qp|fail)
   ·rename_i c2;dsimp only at hr;rw[if_neg c2] at hr;have hr:SR.er (tk ts q)=r:=hr;subst hr;refine⟨q,0,?_⟩;unfold pC
    (refine G1.done ?_ (by rfl) (by rfl) ?_;(· (have zz:=aI C0.q (aI C1.q (aI C3.q (aI C0.r (aI C1.r C3.r))));first|exact qp|fail));(· first|exact vyD|skip))
 ·rw[if_neg c1] at hr;have M:=λst p=>@QV base hb ts j 0 hj om [59] st p;unfold pC at *
  (have zz:=aI C0.r (aI C1.r C3.r);(repeat'(first|apply jc<;>intro _|simp(disch:=first|exact qT|fail) only[ja i0,ja i2,ja i4,T,c1,M,zL,jav,C0.q,C1.q,C3.q,C0.r,C1.r,C3.r,r6,γ,δ,ζ,η,θ]));all_goals clear zz)
  ·rename_i c2;rw[if_pos c2] at hr;have hr:SR.ok (⟨nm,ty,lo,hi,[],ln,co⟩:DeclT) (j+1)=r:=hr;subst hr;show G1 3 (pC ts (j+1) 0) (.agg (qk ⟨nm,ty,lo,hi,[],ln,co⟩)) _ _;refine G1.done ?_ (by rfl) (by rfl) (FzD.agg (.cons (.pc rfl) (.cons (.pc rfl) (.cons (.pc rfl) (.cons (.pc rfl) (.cons .nils (.pc rfl)))))));unfold pC
   (have zz:=aI C0.q (aI C1.q (aI C3.q (aI C0.r (aI C1.r C3.r))));first|exact qp|fail)
  ·rename_i c2;rw[if_neg c2] at hr;have hr:SR.er (tk ts j)=r:=hr;subst hr;refine⟨j,0,?_⟩;unfold pC
   (refine G1.done ?_ (by rfl) (by rfl) ?_;(· (have zz:=aI C0.q (aI C1.q (aI C3.q (aI C0.r (aI C1.r C3.r))));first|exact qp|fail));(· first|exact vyD|skip))
end Go.Sy
end
