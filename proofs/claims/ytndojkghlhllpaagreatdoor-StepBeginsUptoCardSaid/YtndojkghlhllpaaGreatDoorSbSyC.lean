/-
  Contracts: the code lowered, what it does told by rules, and the contracts of the functions that the law reaches.
-/
import Derived.Test.YtndojkghlhllpaaGreatDoorSbSyB
import Derived.Test.YtndojkghlhllpaaGreatDoorProg
import Derived.KernelRfl
set_option linter.unusedVariables false
set_option linter.unusedSimpArgs false
open Go.Proofs.Tryz renaming prog → γ
open Nat renaming reduceAdd → δ, reduceSub → ε, reduceMul → ζ, reduceBEq → θ, le_refl → τ, le_trans → Qab, zero_le → Qae, zero_add → Qam, le_max_left → Qas, le_max_right → Qat, lt_or_ge → Qav, lt_of_lt_of_le → Qaw, mul_le_mul_right → Qax, not_lt_zero → Qay, mul_one → QaI, add_mul → QaL, sub_zero → QaN, le_of_eq → QaO, succ_mul → QaQ, zero_mul → QaU, succ_pos → QaY, ne_of_lt → Qbh, lt_irrefl → Qbj, min_eq_left → Qbr, add_assoc → Qbs, add_zero → Qbt, mod_eq_of_lt → Qbv, one_mul → Qbx, add_comm → Qby, lt_succ_self → Qbz, succ_lt_succ → QbD, le_of_lt → QbS, lt_trichotomy → Qcm, le_succ_of_le → Qcq, beq → Qcw, succ → Qcx, ble → Qcy, add → Qcz, mul → QcA, sub → QcB
open Int renaming reduceToNat → η, natCast_zero → χ, zero_add → ψ, ofNat → QaB, eq_ofNat_of_zero_le → QbA, natCast_nonneg → QbX, toNat_natCast → Qcj
open List renaming map_cons → κ, map_nil → μ, getD_cons_zero → ν, getD_cons_succ → ξ, length_append → υ, length_cons → φ, length_nil → ω, getElem_mem → Qac, getD → Qad, take_length → Qaf, getElem?_eq_getElem → Qag, length_map → Qah, range' → Qai, cons_append → Qaj, range → Qak, all_eq_true → Qal, nil_append → Qan, cons → Qao, length_take → Qap, getD_eq_getElem?_getD → Qaq, mem_append → Qau, length_drop → QaD, all_cons → QaF, append_assoc → QaG, mem_map → QaH, take_zero → QaJ, mem_singleton → QaK, mem_cons → QaS, append_nil → QaT, map_congr_left → QaW, all_append → QaZ, map_append → Qba, foldl_append → Qbb, eq_nil_of_length_eq_zero → Qbc, mem_iff_getElem → Qbd, flatMap_cons → Qbf, drop_zero → Qbg, map_map → Qbi, length_singleton → Qbk, range'_succ → Qbl, getElem?_eq_some_iff → Qbm, getElem?_append_left → Qbn, mem_range → Qbo, take_append_drop → Qbp, ext_getElem → Qbq, drop_drop → Qbu, getElem_cons_zero → QbB, length_pos_iff → QbE, getElem_append_left → QbF, drop_length → QbG, length_eq_zero_iff → QbH, getElem?_take → QbI, getElem?_drop → QbJ, any_cons → QbL, getElem?_map → QbM, foldl_cons → QbN, take_add_one → QbO, getElem_map → QbP, map_toArray → QbQ, getElem_cons_succ → QbT, getElem_cons_drop → QbU, mem_of_mem_take → QbV, take_take → QbW, foldr_cons → QbY, length_range → Qca, getElem?_append_right → Qcb, mem_append_left → Qcd, mem_cons_of_mem → Qce, drop_eq_getElem_cons → Qcf, take_of_length_le → Qcg, getElem_append_right → Qci, countP_singleton → Qco, take_succ_cons → Qcp, nodup_append → Qcr, dropLast_concat_getLast → Qcv
open Bool renaming and_eq_true → Qaa, or_eq_true → QaC, eq_iff_iff → QaE, false_eq_true → QaR, not_eq_true' → QaV, true_eq_false → QbC, or_eq_false_iff → QbZ, eq_false_iff → Qch
open Array renaming length_toList → Qar, getElem?_eq_some_iff → Qaz, replicate → QaM, toList_map → Qbw, getElem?_toList → QbR, getD_eq_getD_getElem? → Qcc, toList_append → Qcl, mem_toList_iff → Qcn, getElem?_eq_getElem → Qct, getElem?_setIfInBounds_ne → Qcu
open Option renaming map_some → QaA, getD_some → QaP, bind_some → QaX, map_none → Qbe, map_eq_some_iff → QbK, isSome_iff_exists → Qcs
open Function renaming comp_def → Qck
noncomputable section
namespace Go.Sy
open Go.Ev Go.RowKit
section
variable {P:Program} {base:Bs} {st:St} {K:AV->St->Prop} {e:En}
theorem jqL {b o k:Nat}(hpos:0<k)(h:o+k<=qv st.h b):jh (zI k (.ptr b o) st) K=K (.agg ((Qak k).map λi=>rat st.h b (o+i))) st:=by
 obtain⟨n,zl,z,cs,hg⟩:=QD (h:=st.h) (b:=b) om;rw[yG hg] at h;have e1:Qcy (Qcz o k) n=true:=qu h;simp only[zI,yf,hg,yl,e1,cond_true,jh,JG hg,qi]
theorem js1 {l:List Nat}{n:Nat}(h:n<=l.length)(k:IntKind):jh (JL (.str l) (some (.int k (n:Int))) none st) K=K (.str (l.drop n)) st:=by
 have e:qC (.int k (n:Int))=λF=>F n:=by funext F;show(force n F)=F n;rw[jF]
 have e1:Qcy n l.length=true:=qu h;have e2:Qcy l.length l.length=true:=qu (τ _);simp only[JL,Jf,optA,e,jL,jF,e1,e2,cond_true,jh,qK,yP];rw[show QcB l.length n=(l.drop n).length by rw[QaD];rfl,Qaf]
theorem js0 {l:List Nat}{n:Nat}(h:n<=l.length)(k:IntKind):jh (JL (.str l) none (some (.int k (n:Int))) st) K=K (.str (l.take n)) st:=by
 have e:qC (.int k (n:Int))=λF=>F n:=by funext F;show(force n F)=F n;rw[jF]
 have e1:Qcy n l.length=true:=qu h;have e2:Qcy 0 n=true:=qu (Qae _);simp only[JL,Jf,optA,e,jL,jF,e1,e2,cond_true,jh,qK,yP];rfl
theorem jsZ {l:List Nat}{a n:Nat}(h:a<=n)(h2:n<=l.length)(k k':IntKind):jh (JL (.str l) (some (.int k (a:Int))) (some (.int k' (n:Int))) st) K=K (.str ((l.drop a).take (n - a))) st:=by
 have e:∀ (k:IntKind) (n:Nat),qC (.int k (n:Int))=λF=>F n:=λk n=>by funext F;show(force n F)=F n;rw[jF]
 have e1:Qcy n l.length=true:=qu h2;have e2:Qcy a n=true:=qu h;simp only[JL,Jf,optA,e,jL,jF,e1,e2,cond_true,jh,qK,yP];rfl
end
def nw (s:St)(cs:List AV):St:=⟨s.nx+1,(qf (jN s.nx)).run (.row cs.length cs.length cs .e) s.h,s.dirty,s.fr⟩
def jf6 (x:Option AO)(o:Nat)(vs:List AV):AO:=match x with|some (.row n zl z cs)=>.row n zl z (qx vs cs o)|_=>.row 0 1 [] (qx vs .e o)
def wr (s:St)(b o:Nat)(vs:List AV):St:=⟨s.nx,(qf (jN b)).run (jf6 (jv s.h b) o vs) s.h,min s.dirty b,s.fr⟩
def apO (x:Option AO)(vs:List AV):AO:=match x with|some (.row n zl z cs)=>.row (n+vs.length) zl z (qx vs cs n)|_=>.row vs.length 1 [] (qx vs .e 0)
def ap (s:St)(b:Nat)(vs:List AV):St:=⟨s.nx+1,(qf (jN s.nx)).run (apO (jv s.h b) vs) ((qf (jN b)).run .dead s.h),min s.dirty b,s.fr⟩
theorem jg (s:St)(cs:List AV):(nw s cs).nx=s.nx+1:=nr rfl
theorem jj (s:St)(b o:Nat)(vs:List AV):(wr s b o vs).nx=s.nx:=nr rfl
theorem jp (s:St):s.bare.nx=s.nx:=nr rfl
theorem Wp (s:St):s.bare.h=s.h:=nr rfl
theorem Vf (s:St)(cs:List AV):(nw s cs).fr=s.fr:=nr rfl
theorem jbr (s:St)(b o:Nat)(vs:List AV):(wr s b o vs).fr=s.fr:=nr rfl
theorem je2 (s:St):s.bare.fr=[]:=nr rfl
theorem q6 {s:St}{cs:List AV}{b:Nat}(h:b≠s.nx):jv (nw s cs).h b=jv s.h b:=by unfold nw;rw[qa,if_neg h]
theorem zG {s:St}{b o:Nat}{vs:List AV}{c:Nat}(h:c≠b):jv (wr s b o vs).h c=jv s.h c:=by unfold wr;rw[qa,if_neg h]
theorem kw {s:St}{b:Nat}{vs:List AV}{c:Nat}(h:c≠s.nx)(h2:c≠b):jv (ap s b vs).h c=jv s.h c:=by unfold ap;rw[qa,if_neg h,qa,if_neg h2]
theorem jiN (s:St)(cs:List AV):qv (nw s cs).h s.nx=cs.length:=by unfold nw;rw[jls,if_pos rfl]
theorem XQ {s:St}{cs:List AV}{b:Nat}(h:b≠s.nx):qv (nw s cs).h b=qv s.h b:=yS (q6 h)
theorem jg0 {s:St}{cs:List AV}{i:Nat}(h:i<cs.length):rat (nw s cs).h s.nx i=cs.getD i .bad:=by unfold nw;rw[joz,if_pos rfl,zx,Yv,Qbv h];rfl
theorem v7 {s:St}{cs:List AV}{b i:Nat}(h:b≠s.nx):rat (nw s cs).h b i=rat s.h b i:=yH (q6 h) i
theorem vh {s:St}{cs:List AV}{b:Nat}(h:b=s.nx):qv (nw s cs).h b=cs.length:=by rw[h,jiN]
theorem Gq {s:St}{cs:List AV}{b i:Nat}(h:b=s.nx)(hi:i<cs.length):rat (nw s cs).h b i=cs.getD i .bad:=by rw[h,jg0 hi]
theorem Xo (s:St)(b o:Nat)(vs:List AV)(c:Nat):qv (wr s b o vs).h c=qv s.h c:=by
 by_cases h:c=b
 ·subst h;unfold wr jf6 qv;rw[qa,if_pos rfl];cases jv s.h c with
  |none=>rfl
  |some x=>cases x<;>rfl
 ·exact yS (zG h)
theorem UE (s:St)(b o:Nat)(vs:List AV)(i:Nat):rat (wr s b o vs).h b i=if o<=i/\i<o+vs.length then vs.getD (i - o) .bad else rat s.h b i:=by
 unfold wr rat;rw[qa,if_pos rfl];unfold jf6;cases jv s.h b with
 |none=>simp only[zc];congr 1;rw[zx,Yv];rfl
 |some x=>cases x<;>simp only[zc]<;>(congr 1;rw[zx,Yv];rfl)
theorem kI {s:St}{b o:Nat}{vs:List AV}{i:Nat}(h1:o<=i)(h2:i<o+vs.length):rat (wr s b o vs).h b i=vs.getD (i - o) .bad:=by rw[UE,if_pos ⟨h1,h2⟩]
theorem Gn {s:St}{b o:Nat}{vs:List AV}{i:Nat}(h:i<o):rat (wr s b o vs).h b i=rat s.h b i:=by rw[UE,if_neg om]
theorem Gp {s:St}{b o:Nat}{vs:List AV}{i:Nat}(h:o+vs.length<=i):rat (wr s b o vs).h b i=rat s.h b i:=by rw[UE,if_neg om]
theorem Z9 {s:St}{b o c:Nat}{vs:List AV}{i:Nat}(h:c≠b):rat (wr s b o vs).h c i=rat s.h c i:=yH (zG h) i
theorem jlW {s:St}{b o:Nat}{vs:List AV}{c:Nat}(h:uQ s.h c):uQ (wr s b o vs).h c:=by
 by_cases hc:c=b
 ·subst hc;unfold uQ wr;rw[qa,if_pos rfl];obtain⟨n,zl,z,cs,e⟩:=h;rw[e];exact⟨_,_,_,_,rfl⟩
 ·exact Jy (zG hc) h
structure Cl (s:St)(b:Nat)(cs:List AV):Prop where
 lt:b<s.nx
 row:uQ s.h b
 len:qv s.h b=cs.length
 cell:∀ i,i<cs.length->rat s.h b i=cs.getD i .bad
theorem Cl.keep {s s':St}{b:Nat}{cs:List AV}(h:Cl s b cs)(hn:s.nx<=s'.nx)(k:jv s'.h b=jv s.h b):Cl s' b cs:=
 ⟨Qaw h.lt hn,Jy k h.row,(yS k).trans h.len,λi hi=>(yH k i).trans (h.cell i hi)⟩
theorem Cl.new (s:St)(cs:List AV):Cl (nw s cs) s.nx cs:=
 ⟨Qbz _,⟨_,_,_,_,by unfold nw;rw[qa,if_pos rfl]⟩,jiN s cs,λi hi=>jg0 hi⟩
theorem Cl.nw {s:St}{b:Nat}{cs:List AV}(h:Cl s b cs)(ds:List AV):Cl (nw s ds) b cs:=h.keep (Nat.le_succ _) (q6 (Qbh h.lt))
theorem Cl.wrO {s:St}{b:Nat}{cs:List AV}(h:Cl s b cs){c:Nat}(hc:b≠c)(o:Nat)(vs:List AV):Cl (wr s c o vs) b cs:=h.keep (τ _) (zG hc)
def upd:List AV->Nat->List AV->List AV
 |[],_,_=>[]
 |c :: cs,0,[]=>c :: cs
 |c :: cs,0,v :: vs=>v :: upd cs 0 vs
 |c :: cs,o+1,vs=>c :: upd cs o vs
theorem Wc:∀ (cs:List AV) (o:Nat) (vs:List AV),(upd cs o vs).length=cs.length
 |[],_,_=>rfl
 |c :: cs,0,[]=>rfl
 |c :: cs,0,v :: vs=>by show(upd cs 0 vs).length+1=_;rw[Wc cs 0 vs];rfl
 |c :: cs,o+1,vs=>by show(upd cs o vs).length+1=_;rw[Wc cs o vs];rfl
theorem UL:∀ (cs:List AV) (o:Nat) (vs:List AV) (i:Nat),i<cs.length->(upd cs o vs).getD i .bad=if o<=i/\i<o+vs.length then vs.getD (i - o) .bad else cs.getD i .bad
 |[],_,_,_,h=>by simp at h
 |c :: cs,0,[],i,h=>by rw[if_neg (by simp)];rfl
 |c :: cs,0,v :: vs,0,h=>by rw[if_pos (by simp)];rfl
 |c :: cs,0,v :: vs,i+1,h=>by
  show(upd cs 0 vs).getD i .bad=_;rw[UL cs 0 vs i (by simpa using h)];by_cases hi:i<vs.length
  ·rw[if_pos om,if_pos (by simp;omega)];rfl
  ·rw[if_neg om,if_neg (by simp;omega)];rfl
 |c :: cs,o+1,vs,0,h=>by rw[if_neg om];rfl
 |c :: cs,o+1,vs,i+1,h=>by
  show(upd cs o vs).getD i .bad=_;rw[UL cs o vs i (by simpa using h)];by_cases hi:o<=i/\i<o+vs.length
  ·rw[if_pos hi,if_pos om,Nat.add_sub_add_right]
  ·rw[if_neg hi,if_neg om];rfl
theorem Cl.wr {s:St}{b:Nat}{cs:List AV}(h:Cl s b cs)(o:Nat)(vs:List AV):Cl (wr s b o vs) b (upd cs o vs):=
 ⟨h.lt,jlW h.row,by rw[Xo,h.len,Wc],λi hi=>by
  rw[Wc] at hi;rw[UE,UL _ _ _ _ hi,h.cell i hi]⟩
theorem Cl.ap {s:St}{b:Nat}{cs:List AV}(h:Cl s b cs)(vs:List AV):Cl (ap s b vs) s.nx (cs ++ vs):=by
 obtain⟨n,zl,z,ks,e⟩:=h.row;have hl:=h.len;rw[yG e] at hl;have eo:jv (Go.Sy.ap s b vs).h s.nx=some (.row (n+vs.length) zl z (qx vs ks n)):=by unfold Go.Sy.ap;rw[qa,if_pos rfl,e];rfl
 refine⟨Qbz _,⟨_,_,_,_,eo⟩,by rw[yG eo,υ,hl],λi hi=>?_⟩;rw[JG eo,zc];rw[υ] at hi;by_cases hc:n<=i/\i<n+vs.length
 ·rw[if_pos hc,Qaq,Qaq,Qcb om,hl]
 ·have hi':i<cs.length:=om
  rw[if_neg hc,<-JG e,h.cell i hi',Qaq,Qaq,Qbn hi']
theorem YU (cs:List AV):(AV.agg cs).cells=cs:=nr rfl
theorem uK (k:IntKind)(n:Int):(AV.int k n).cells=[.int k n]:=nr rfl
theorem uG (l:List Nat):(AV.str l).cells=[.str l]:=nr rfl
theorem wX (b:Bool):(AV.bool b).cells=[.bool b]:=nr rfl
theorem ZX (b o n c z:Nat)(x:Bool):(AV.slice b o n c z x).cells=[.slice b o n c z x]:=nr rfl
theorem wW:AV.nils.cells=[.nils]:=nr rfl
theorem uI (b o:Nat):(AV.ptr b o).cells=[.ptr b o]:=nr rfl
theorem jcS:lall AV.cell []=true:=nr rfl
theorem jcU (k:IntKind)(n:Int)(l:List AV):lall AV.cell (.int k n :: l)=lall AV.cell l:=nr rfl
theorem jcQ (x:List Nat)(l:List AV):lall AV.cell (.str x :: l)=lall AV.cell l:=nr rfl
theorem jac (x:Bool)(l:List AV):lall AV.cell (.bool x :: l)=lall AV.cell l:=nr rfl
theorem gK (b o n c z:Nat)(x:Bool)(l:List AV):lall AV.cell (.slice b o n c z x :: l)=lall AV.cell l:=nr rfl
theorem jab (l:List AV):lall AV.cell (.nils :: l)=lall AV.cell l:=nr rfl
theorem jcR (b o:Nat)(l:List AV):lall AV.cell (.ptr b o :: l)=lall AV.cell l:=nr rfl
theorem jlL (a b:List AV)(h:lall AV.cell a=true):lall AV.cell (a ++ b)=lall AV.cell b:=by
 induction a with
 |nil=>rfl
 |cons c a ih=>
  have h':cond c.cell (lall AV.cell a) false=true:=h;cases hc:c.cell with
  |false=>rw[hc] at h';cases h'
  |true=>
   rw[hc] at h';show cond c.cell (lall AV.cell (a ++ b)) false=_;rw[hc];exact ih h'
section
variable {P:Program} {base:Bs} {st:St} {K:AV->St->Prop} {e:En}
theorem jg4 (cs:List AV):jh (Ev.newRow st cs) K=K (.ptr st.nx 0) (nw st cs):=by
 simp only[Ev.newRow,jF,jL,St.alloc_eq,jh];rfl
theorem jnW {v:AV}(h:lall AV.cell v.cells=true):jh (jme v st) K=K (.ptr st.nx 0) (nw st v.cells):=by
 simp only[jme,h,cond_true];exact jg4 _
theorem jsG {k b o:Nat}{v:AV}(hk:0<k)(hc:v.cells.length=k)(hl:lall AV.cell v.cells=true)(ho:o+k<=qv st.h b):jh (stV k (.ptr b o) v st) K=K qj (wr st b o v.cells):=by
 obtain⟨n,zl,z,cs,hg⟩:=QD (h:=st.h) (b:=b) om;rw[yG hg] at ho;have e1:Qcw (jO v.cells) k=true:=YB (by rw[jL];exact hc);have e2:Qcy (Qcz o k) n=true:=qu ho;simp only[stV,yf,hg,yl,e1,e2,hl,cond_true,St.put_eq,jh];unfold wr jf6;rw[hg]
def rats (h:T AO)(b o:Nat):Nat->List AV
 |0=>[]
 |k+1=>rat h b o :: rats h b (o+1) k
theorem JW (h:T AO)(b:Nat):∀ (k o:Nat),rats h b o k=(Qak k).map λi=>rat h b (o+i)
 |0,o=>rfl
 |k+1,o=>by
  rw[List.range_succ_eq_map,κ,Qbi];show rat h b o :: rats h b (o+1) k=_;rw[JW h b k (o+1)]
  congr 1
  refine QaW λi _=>?_;show rat h b (o+1+i)=rat h b (o+(i+1));rw[Qbs,Qby 1 i]
theorem jg5 {k b o:Nat}(hk:0<k)(h:o+k<=qv st.h b):jh (zI k (.ptr b o) st) K=K (.agg (rats st.h b o k)) st:=by rw[JW];exact jqL hk h
theorem rats0 (h:T AO)(b o:Nat):rats h b o 0=[]:=nr rfl
theorem ja3 (h:T AO)(b o k:Nat):rats h b o (k+1)=rat h b o :: rats h b (o+1) k:=nr rfl
theorem Cl.ratsP {s:St}{b:Nat}{cs:List AV}(h:Cl s b cs):∀ k o,o+k<=cs.length->rats s.h b o k=(cs.drop o).take k
 |0,o,_=>rfl
 |k+1,o,hk=>by
  show rat s.h b o :: Go.Sy.rats s.h b (o+1) k=_;rw[h.ratsP k (o+1) om,h.cell o om,Qcf (show o<cs.length by omega),Qcp,Qaq,Qag om];rfl
theorem Z3 {h h':T AO}{b:Nat}(e:jv h' b=jv h b):∀ k o,rats h' b o k=rats h b o k
 |0,_=>rfl
 |k+1,o=>by rw[ja3,ja3,yH e,Z3 e k]
theorem Qd (h:T AO)(b:Nat):∀ k o,(rats h b o k).length=k
 |0,_=>rfl
 |k+1,o=>by rw[ja3,φ,Qd h b k]
theorem ZB {h:T AO}{b:Nat}:∀ {k o:Nat} {cs:List AV},cs.length=k->(∀ i,i<k->rat h b (o+i)=cs.getD i .bad)->rats h b o k=cs
 |0,o,[],_,_=>rfl
 |k+1,o,c :: cs,hl,h=>by
  rw[ja3,ZB (cs:=cs) (by simpa using hl) (λi hi=>by
   have:=h (i+1) om;rw[show o+1+i=o+(i+1) by omega,this];rfl)]
  have:=h 0 om;rw[Qbt] at this;rw[this];rfl
theorem joy {s:St}{cs:List AV}{k:Nat}(h:cs.length=k):rats (nw s cs).h s.nx 0 k=cs:=ZB h λi hi=>by rw[Qam];exact jg0 om
theorem ZA {s:St}{cs:List AV}{b k:Nat}(hb:b=s.nx)(h:cs.length=k):rats (nw s cs).h b 0 k=cs:=by rw[hb,joy h]
theorem Zz {s:St}{cs:List AV}{b o k:Nat}(h:b≠s.nx):rats (nw s cs).h b o k=rats s.h b o k:=Z3 (q6 h) _ _
theorem w9 {s:St}{b o k:Nat}{vs:List AV}(h:vs.length=k):rats (wr s b o vs).h b o k=vs:=ZB h λi hi=>by
 rw[kI om om,Nat.add_sub_cancel_left]
theorem Zx {s:St}{b c o o' k:Nat}{vs:List AV}(h:b≠c):rats (wr s c o' vs).h b o k=rats s.h b o k:=Z3 (zG h) _ _
theorem Zy {s:St}{b o k:Nat}{vs:List AV}:rats (wr s b o vs).h b 0 k=upd (rats s.h b 0 k) o vs:=by
 refine ZB (by rw[Wc,Qd]) λi hi=>?_;rw[Qam,UE,UL _ _ _ _ (by rw[Qd];exact hi),JW]
 congr 1
 simp[Qaq,QbM,hi]
theorem Zr (o:Nat)(vs:List AV):upd [] o vs=[]:=nr (by cases o<;>rfl)
theorem YY (c:AV)(cs:List AV):upd (c :: cs) 0 []=c :: cs:=nr rfl
theorem YZ (c:AV)(cs:List AV)(v:AV)(vs:List AV):upd (c :: cs) 0 (v :: vs)=v :: upd cs 0 vs:=nr rfl
theorem ZK (c:AV)(cs:List AV)(o:Nat)(vs:List AV):upd (c :: cs) (o+1) vs=c :: upd cs o vs:=nr rfl
theorem ZJ:∀ (cs:List AV) ,upd cs 0 []=cs
 |[]=>rfl
 |c :: cs=>rfl
theorem Cl.of_rats {s:St}{b k:Nat}{cs:List AV}(h1:b<s.nx)(h2:qv s.h b=k)(h3:cs.length=k)(h4:0<k)(h5:Go.Sy.rats s.h b 0 k=cs):Cl s b cs:=by
 refine⟨h1,QD om,om,λi hi=>?_⟩;have:=congrArg (λl=>l.getD i .bad) h5;rw[JW] at this;have hi':i<k:=om
 simpa[Qaq,QbM,hi'] using this
theorem Cl.rats0 {s:St}{b k:Nat}{cs:List AV}(h:Cl s b cs)(hk:cs.length=k):Go.Sy.rats s.h b 0 k=cs:=ZB hk λi hi=>by rw[Qam];exact h.cell i om
theorem Cl.ldA {s:St}{b k o:Nat}{cs:List AV}(h:Cl s b cs)(hk:0<k)(ho:o+k<=cs.length)(K:AV->St->Prop):jh (zI k (.ptr b o) s) K=K (.agg ((cs.drop o).take k)) s:=by
 rw[jg5 hk (by rw[h.len];exact ho),h.ratsP k o ho]
end
section
variable {P:Program} {base:Bs} {st:St} {K:AV->St->Prop} {e:En}
theorem Wd:∀ (z:List AV) (off:Nat) (vs:List AV),off+vs.length<=z.length->z.take off ++ (vs ++ z.drop (off+vs.length))=upd z off vs
 |[],off,vs,h=>by
  have hv:vs=[]:=Qbc (by have h':off+vs.length<=0:=h;omega);subst hv;simp[upd]
 |c :: z,0,[],_=>rfl
 |c :: z,0,v :: vs,h=>by
  show v :: (vs ++ (c :: z).drop (0+(vs.length+1)))=v :: upd z 0 vs;rw[<-Wd z 0 vs (by simp at h ⊢;omega)];simp
 |c :: z,off+1,vs,h=>by
  show c :: z.take off ++ (vs ++ (c :: z).drop (off+1+vs.length))=c :: upd z off vs;rw[<-Wd z off vs (by simp at h;omega),show off+1+vs.length=(off+vs.length)+1 by omega];rfl
theorem jao {z:List AV}{off size:Nat}{v:AV}{ps:List ((Nat×Nat)×AV)}(h1:v.plain=true)(h2:v.cells.length=size)(h3:off+size<=z.length):Yx z (((off,size),v) :: ps)=Yx (upd z off v.cells) ps:=by
 have e1:Qcw (jO v.cells) size=true:=YB (by rw[jL];exact h2);have e2:Qcy (Qcz off size) (jO z)=true:=qu (by rw[jL];exact h3);have e3:yQ (yh z off) (yQ v.cells (zp z (Qcz off size)))=upd z off v.cells:=by
  rw[yw,yw,qK,yP,<-Wd z off v.cells om,h2];rfl
 show cond v.plain (cond (Qcw (jO v.cells) size) (cond (Qcy (Qcz off size) (jO z)) (Yx (yQ (yh z off) (yQ v.cells (zp z (Qcz off size)))) ps) none) none) none=_;rw[h1,e1,e2,e3];rfl
theorem jdO (z:List AV):jh (UA z [] st) K=K (.agg z) st:=nr rfl
theorem jdN {z:List AV}{off size:Nat}{v:AV}{ps:List ((Nat×Nat)×AV)}(h1:v.plain=true)(h2:v.cells.length=size)(h3:off+size<=z.length):jh (UA z (((off,size),v) :: ps) st) K=jh (UA (upd z off v.cells) ps st) K:=by
 unfold UA;rw[jao h1 h2 h3]
def bSV (len s:Nat)(z:List AV)(ps:List ((Nat×Nat)×AV))(st:St):ER:=jS (Yx z ps) λcells=>
 cond (lall AV.cell cells) (force (jO cells) λn=>st.alloc (.row n n cells .e) λb st=>.ok (.slice b 0 len len s true) st) .no
theorem jmp (len s:Nat)(z:List AV)(ps:List ((Nat×Nat)×AV)):jh (Hp len s z ps st) K=jh (bSV len s (zf z len) ps st) K:=nr rfl
theorem jg6 {len s:Nat}{z:List AV}(h:lall AV.cell z=true):jh (bSV len s z [] st) K=K (.slice st.nx 0 len len s true) (nw st z):=by
 have e:Yx z []=some z:=rfl;simp only[bSV,e,jS,h,cond_true,jF,jL,St.alloc_eq,jh];rfl
theorem jbD {len s:Nat}{z:List AV}{off size:Nat}{v:AV}{ps:List ((Nat×Nat)×AV)}(h1:v.plain=true)(h2:v.cells.length=size)(h3:off+size<=z.length):jh (bSV len s z (((off,size),v) :: ps) st) K=jh (bSV len s (upd z off v.cells) ps st) K:=by
 unfold bSV;rw[jao h1 h2 h3]
theorem gb (z:List AV):zf z 0=[]:=nr rfl
theorem UX (z:List AV)(n:Nat):zf z (n+1)=z ++ zf z n:=nr (by first|rfl|(unfold zf;simp[yw]))
def W0 (e:En):List ((Nat×Nat)×A)->(F:List ((Nat×Nat)×AV)->Prop)->Res F
 |[],F=>F []
 |(p,a) :: l,F=>on1 e a λv=>W0 e l λvs=>F ((p,v) :: vs)
theorem GS (e:En):∀ (l:List ((Nat×Nat)×A)) (F:List ((Nat×Nat)×AV)->Prop),W0 e l F=((l.map (·.2)).all (okA e)=true/\F (l.map λp=>(p.1,vl e p.2)))
 |[],F=>by simp[W0]
 |(p,a) :: l,F=>by simp[W0,GS e l,on1,and_assoc]
theorem jc4 (z:List AV)(ps:List ((Nat×Nat)×A)):wK P base (.i (.build z ps)) e st K=W0 e ps λvs=>jh (UA z vs st) K:=by
 rw[GS];rfl
theorem jaj (len s:Nat)(z:List AV)(ps:List ((Nat×Nat)×A)):wK P base (.i (.buildS len s z ps)) e st K=W0 e ps λvs=>jh (Hp len s z vs st) K:=by
 rw[GS];rfl
theorem jnz (f:FuncId)(l:List A):wK P base (.i (.fn f l)) e st K=vH e l λvs=>K (.fn f vs) st:=by
 rw[Wk];rfl
theorem jnd (F:List ((Nat×Nat)×AV)->Prop):W0 e [] F=F []:=nr rfl
theorem jnc (p:Nat×Nat)(a:A)(l:List ((Nat×Nat)×A))(F:List ((Nat×Nat)×AV)->Prop):W0 e ((p,a) :: l) F=on1 e a λv=>W0 e l λvs=>F ((p,v) :: vs):=nr rfl
theorem HK (k:IntKind)(n:Int):(AV.int k n).plain=true:=nr rfl
theorem HH (l:List Nat):(AV.str l).plain=true:=nr rfl
theorem gi (b:Bool):(AV.bool b).plain=true:=nr rfl
theorem kQ (b o n c z:Nat)(x:Bool):(AV.slice b o n c z x).plain=true:=nr rfl
theorem gh:AV.nils.plain=true:=nr rfl
theorem HI (b o:Nat):(AV.ptr b o).plain=true:=nr rfl
theorem HM (cs:List AV):(AV.agg cs).plain=true:=nr rfl
theorem jej (t:TypeId)(x:A):wK P base (.i (.iface t x)) e st K=on1 e x λv=>K (.iface t v) st:=k_1 (V:=λv st=>.ok (.iface t v) st) rfl (λ_=>rfl) K
end
def eqs:AV->Bool
 |.bool _=>true | .int _ _=>true | .str _=>true | .ptr _ _=>true | .nilp=>true | .slice _ _ _ _ _ _=>true | .nils=>true | .map _=>true | .nilm=>true | .nilf=>true | .nilif=>true | .lst _ _=>true | .xlst _ _=>true | .lptr _ _=>true
 |_=>false
theorem jl6 (a:Int):eqI a a=true:=by cases a<;>simp[eqI]
theorem JQ (a:Nat):Qcw a a=true:=by rw[qM]
theorem Un (l:List AV):uX l l=true:=by unfold uX;exact @decide_eq_true _ (_) rfl
theorem Up {v:AV}(h:eqs v=true):ZF v v=true:=by
 cases v<;>first|(cases h;done)|rfl|skip
 case bool b=>cases b<;>rfl
 case int k n=>show cond (eqK k k) (eqI n n) false=true;rw[Xv,jl6];rfl
 case str s=>show ZM s s=true;rw[Qb];simp
 case ptr b o=>show cond (Qcw b b) (Qcw o o) false=true;rw[JQ,JQ];rfl
 case slice b o n c z ex=>
  show cond (Qcw b b) (cond (Qcw o o) (cond (Qcw n n) (cond (Qcw c c) (cond (Qcw z z) (cond ex ex (cond ex false true)) false) false) false) false) false=true;rw[JQ,JQ,JQ,JQ,JQ];cases ex<;>rfl
 case map r=>show Qcw r r=true;exact JQ r
 case lst n cs=>show cond (Qcw n n) (uX cs cs) false=true;rw[JQ,Un];rfl
 case xlst n cs=>show cond (Qcw n n) (uX cs cs) false=true;rw[JQ,Un];rfl
 case lptr cs n=>show cond (Qcw n n) (uX cs cs) false=true;rw[JQ,Un];rfl
theorem Uo:∀ {l:List AV},l.all eqs=true->Wt l l=true
 |[],_=>rfl
 |v :: l,h=>by
  simp only[QaF,Qaa] at h;show cond (ZF v v) (Wt l l) false=true;rw[Up h.1,Uo h.2];rfl
theorem jjr {v:AV}(h:eqs v=true):jgI v v=true:=by
 cases v<;>first|(cases h;done)|exact Up h
section
variable {P:Program}
theorem QW {t:TypeId}{b o:Nat}{v:AV}{h:T AO}(h1:Go.Ev.isAgg P t=some false)(h2:Go.Ev.sizeOf P t=some 1)(ho:o<qv h b)(hv:rat h b o=v)(hc:eqs v=true):jY P t (.ptr b o) v h=true:=by
 obtain⟨n,zl,z,cs,hg⟩:=QD (h:=h) (b:=b) om;rw[yG hg] at ho;rw[JG hg] at hv;have e3:Qcy (Qcx o) n=true:=qu ho;have e:(qX P t).run (.ptr b o) h=some v:=by simp only[qX,h1,h2,hg,e3,cond_true,hv]
 unfold jY;dsimp only;rw[e];exact jjr hc
theorem Y5 {t:TypeId}{b o k:Nat}{cs:List AV}{h:T AO}(h1:Go.Ev.isAgg P t=some true)(h2:Go.Ev.sizeOf P t=some k)(hk:0<k)(ho:o+k<=qv h b)(hv:rats h b o k=cs)(hc:cs.all eqs=true):jY P t (.ptr b o) (.agg cs) h=true:=by
 obtain⟨n,zl,z,cs',hg⟩:=QD (h:=h) (b:=b) om;rw[yG hg] at ho;have e3:Qcy (Qcz o k) n=true:=qu ho;have e:(qX P t).run (.ptr b o) h=some (.agg cs):=by
  simp only[qX,h1,h2,hg,e3,cond_true];rw[<-hv,JW,qi]
  congr 2
  refine QaW λi _=>?_;rw[JG hg]
 unfold jY;dsimp only;rw[e];exact Uo hc
def Yu (P:Program)(t u:TypeId)(x y:TE):Bool:=
 match x,y with
 |.rd a v,.wr pre post=>jY P t a v pre && jY P t a v post
 |.rd _ _,.rd _ _=>false
 |.wr pre post,.rd a v=>jY P u a v pre && jY P u a v post
 |.wr _ _,.wr _ _=>false
 |_,_=>true
theorem h_0 (t:TypeId)(x:TE)(tb:List TE):(held P t x tb []=true)=True:=by simp[held]
theorem h_1 (t:TypeId)(x:TE)(tb:List TE)(k:Nat)(u:TypeId)(l:List (Nat×TypeId)):(held P t x tb ((k,u) :: l)=true)=(Yu P t u x (yD .none tb k)=true/\held P t x tb l=true):=by
 have e:held P t x tb ((k,u) :: l)=cond (Yu P t u x (yD .none tb k)) (held P t x tb l) false:=by
  show cond _ _ false=cond _ _ false
  congr 1
  unfold Yu;cases x<;>cases yD TE.none tb k<;>first|rfl|(simp only[Bool.cond_eq_ite];split<;>simp[*])
 rw[e];cases Yu P t u x (yD .none tb k)<;>simp
theorem jrP (t u:TypeId)(a v:AV)(pre post:T AO):(Yu P t u (.rd a v) (.wr pre post)=true)=(jY P t a v pre=true/\jY P t a v post=true):=by simp[Yu]
theorem jrO (t u:TypeId)(a v:AV)(pre post:T AO):(Yu P t u (.wr pre post) (.rd a v)=true)=(jY P u a v pre=true/\jY P u a v post=true):=by simp[Yu]
theorem jrR (t u:TypeId)(y:TE):(Yu P t u .none y=true)=True:=by simp[Yu]
theorem jrQ (t u:TypeId)(x:TE):(Yu P t u x .none=true)=True:=by cases x<;>simp[Yu]
theorem jrB (d x:TE)(l:List TE):yD d (x :: l) 0=x:=nr rfl
theorem jrA (d x:TE)(l:List TE)(n:Nat):yD d (x :: l) (n+1)=yD d l n:=nr rfl
theorem jqY (e:En)(v:AV)(st st':St):teW none e v st st'=.none:=nr rfl
theorem jqX (e:En)(v:AV)(st st':St):teW (some none) e v st st'=.wr st.h st'.h:=nr rfl
theorem jqW (a:A)(e:En)(v:AV)(st st':St):teW (some (some a)) e v st st'=.rd (vl e a) v:=nr rfl
theorem jqH (e:En)(v:AV):vl e (.c v)=v:=nr rfl
theorem jqF (x:Nat)(v:AV)(l g:Sl):vl ⟨(x,v) :: l,g⟩ (.t x)=v:=by simp[vl,En.look,zi,En.has,zY]
theorem jmE {k x:Nat}(h:k≠x)(v:AV)(l g:Sl):vl ⟨(k,v) :: l,g⟩ (.t x)=vl ⟨l,g⟩ (.t x):=by simp[vl,En.look,zi,En.has,zY,h]
theorem jqG (x:Nat)(v:AV)(g:Sl):vl ⟨[],(x,v) :: g⟩ (.t x)=v:=by simp[vl,En.look,zi,En.has,zY,has]
theorem jmF {k x:Nat}(h:k≠x)(v:AV)(g:Sl):vl ⟨[],(k,v) :: g⟩ (.t x)=vl ⟨[],g⟩ (.t x):=by simp[vl,En.look,zi,En.has,zY,has,h]
theorem GC {L:Sl}{x:Nat}{v:AV}(h:Has L x v):vl ⟨[],L⟩ (.t x)=v:=by
 obtain⟨h1,h2⟩:=h;simp[vl,En.has,En.look,has,h2]
end
section
variable {P:Program} {base:Bs} {st:St} {K:AV->St->Prop} {e:En}
def vE (sz:Nat)(v:AV)(lo hi:Option AV)(st:St):ER:=match v with
 |.nils=>optA lo 0 λl=>optA hi 0 λh=>cond (Qcw l 0) (cond (Qcw h 0) (.ok .nils st) .no) .no
 |.slice b o len cap sz' ex=>optA lo 0 λl=>optA hi len λh=>
  cond (Qcw sz' sz) (cond (Qcy l h) (cond (Qcy h cap) (force (QcB h l) λk=>force (Qcz o (QcA l sz)) λo=>force (QcB cap l) λc=>.ok (.slice b o k c sz ex) st) .no) .no) .no
 |.lst n cs=>optA lo 0 λl=>optA hi n λh=>
  cond (Qcy l h) (cond (Qcy h n) (cond (Qcy (QcA h sz) (jO cs)) (.ok (.lst (QcB h l) (yh (zp cs (QcA l sz)) (QcA (QcB h l) sz))) st) .no) .no) .no
 |_=>.no
theorem jiV (sz:Nat)(x lo:A):wK P base (.i (.slS sz x (some lo) none)) e st K=on1 e x λv=>on1 e lo λl=>jh (vE sz v (some l) none st) K:=k_2 (V:=λv l st=>vE sz v (some l) none st) rfl (λ_=>rfl) K
theorem jiU (sz:Nat)(x hi:A):wK P base (.i (.slS sz x none (some hi))) e st K=on1 e x λv=>on1 e hi λh=>jh (vE sz v none (some h) st) K:=k_2 (V:=λv h st=>vE sz v none (some h) st) rfl (λ_=>rfl) K
theorem jiT (sz:Nat)(x lo hi:A):wK P base (.i (.slS sz x (some lo) (some hi))) e st K=on1 e x λv=>on1 e lo λl=>on1 e hi λh=>jh (vE sz v (some l) (some h) st) K:=k_3 (V:=λv l h st=>vE sz v (some l) (some h) st) rfl (λ_=>rfl) K
end
def ifW (p:Prop)(a b:Prop):Res (a,b):=(p->a)/\(¬ p->b)
theorem jb {p a b:Prop}(h1:p->a)(h2:¬ p->b):ifW p a b:=⟨h1,h2⟩
theorem gT {p a b:Prop}(h:p):ifW p a b=a:=propext ⟨λk=>k.1 h,λk=>⟨λ_=>k,λn=>absurd h n⟩⟩
theorem gU {p a b:Prop}(h:¬ p):ifW p a b=b:=propext ⟨λk=>k.2 h,λk=>⟨λn=>absurd n h,λ_=>k⟩⟩
section
variable {P:Program} {base:Bs} {st:St} {K Kp:AV->St->Prop} {e:En}
theorem jfk (q:Bool)(a b:Prop):uF (.bool q) a b=ifW (q=true) a b:=by cases q<;>simp[uF,ifW]
theorem jsw (q:Bool)(a b:Prop):onG (.bool q) true a b=ifW (q=true) a b:=by cases q<;>simp[onG,ifW]
theorem jsx (q:Bool)(a b:Prop):onG (.bool q) false a b=ifW (q=true) b a:=by cases q<;>simp[onG,ifW]
theorem jjG (q:Bool)(a b:AV):jh (jf8 (.bool q) a b st) K=ifW (q=true) (K a st) (K b st):=by cases q<;>simp[jf8,Z4,jh,ifW]
theorem jb4 (a b:List Nat):jh (k9 .neq (.str a) (.str b) st) K=K (.bool (decide (a≠b))) st:=by
 simp only[k9,uc,jS,jh,Qb];by_cases h:a=b
 ·simp[h]
 ·simp[h]
theorem jb5 {a b:List Nat}(h:a.length+b.length<=9223372036854775807):jh (k9 .add (.str a) (.str b) st) K=K (.str (a ++ b)) st:=by
 have e1:Qcy (Qcz (jO a) (jO b)) 9223372036854775807=true:=by rw[qt,jL,jL];exact h
 simp only[k9,uc,jS,jh,e1,cond_true,yw]
theorem Xt {x:Int}(h1 : -9223372036854775808<=x)(h2:x<=9223372036854775807):qN .i64 x=x:=by
 rw[JK];exact IntWalk.i64_in x ⟨h1,om⟩
theorem jhH {a b:Int}(h1 : -9223372036854775808<=a+b)(h2:a+b<=9223372036854775807):jh (Jm .add (.int .i64 a) (.int .i64 b) st) K=K (.int .i64 (a+b)) st:=by
 have:(Yi .add).run .i64 a b=some (.int .i64 (a+b)):=by show some (AV.int .i64 (qN .i64 (a+b)))=_;rw[Xt h1 h2]
 simp only[Jm,Xv,cond_true,this,jS,jh]
theorem jhl {a b:Int}(h1 : -9223372036854775808<=a - b)(h2:a - b<=9223372036854775807):jh (Jm .sub (.int .i64 a) (.int .i64 b) st) K=K (.int .i64 (a - b)) st:=by
 have:(Yi .sub).run .i64 a b=some (.int .i64 (a - b)):=by show some (AV.int .i64 (qN .i64 (a - b)))=_;rw[Xt h1 h2]
 simp only[Jm,Xv,cond_true,this,jS,jh]
theorem jhu {a b:Int}(h1 : -9223372036854775808<=a * b)(h2:a * b<=9223372036854775807):jh (Jm .mul (.int .i64 a) (.int .i64 b) st) K=K (.int .i64 (a * b)) st:=by
 have:(Yi .mul).run .i64 a b=some (.int .i64 (a * b)):=by show some (AV.int .i64 (qN .i64 (a * b)))=_;rw[Xt h1 h2]
 simp only[Jm,Xv,cond_true,this,jS,jh]
theorem jht {a:Int}(h1 : -9223372036854775808<=-a)(h2 : -a<=9223372036854775807):jh (unV .neg (.int .i64 a) st) K=K (.int .i64 (-a)) st:=by
 have e:IntKind.i64.wrap (0 - a)=-a:=by rw[<-JK,Xt om om];omega
 simp only[unV,Yl,O,e,jh]
def biV (P:Program)(b:Builtin)(ts:Array TypeId)(l:List AV)(st:St):ER:=(qH P b ts (l.map λv=>O v)).run E0 st
theorem jnE (b:Builtin)(ts:Array TypeId)(l:List A):wK P base (.i (.bi b ts l)) e st K=vH e l λvs=>jh (biV P b ts vs st) K:=by
 rw[Wk];simp only[wK,wI,wh,jU,biV,Qbi];rfl
theorem jhx (ts:Array TypeId)(k:IntKind)(a b:Int):jh (biV P .max ts [.int k a,.int k b] st) K=K (.int k (max a b)) st:=by
 have:(qH P .max ts [O (.int k a),O (.int k b)]).run E0 st=jS (max2 (.int k a) (.int k b)) λv=>.ok v st:=by
  show jS (Xc max2 (.int k a) [.int k b]) _=_;unfold Xc;cases max2 (.int k a) (.int k b)<;>rfl
 show jh ((qH P .max ts [O (.int k a),O (.int k b)]).run E0 st) K=_;rw[this];simp only[max2,Xv,cond_true,jS,jh]
 congr 2
 rw[Yf];by_cases h:a<b
 ·rw[decide_eq_true h,Int.max_eq_right om];rfl
 ·rw[decide_eq_false h,Int.max_eq_left om];rfl
theorem jhw (ts:Array TypeId)(k:IntKind)(a b:Int):jh (biV P .min ts [.int k a,.int k b] st) K=K (.int k (min a b)) st:=by
 have:(qH P .min ts [O (.int k a),O (.int k b)]).run E0 st=jS (min2 (.int k a) (.int k b)) λv=>.ok v st:=by
  show jS (Xc min2 (.int k a) [.int k b]) _=_;unfold Xc;cases min2 (.int k a) (.int k b)<;>rfl
 show jh ((qH P .min ts [O (.int k a),O (.int k b)]).run E0 st) K=_;rw[this];simp only[min2,Xv,cond_true,jS,jh]
 congr 2
 rw[Yf];by_cases h:b<a
 ·rw[decide_eq_true h,Int.min_eq_right om];rfl
 ·rw[decide_eq_false h,Int.min_eq_left om];rfl
theorem jhz (n:Nat)(cs:List AV):jh (lenV (.lst n cs) st) K=K (.int .i64 (n:Int)) st:=nr rfl
theorem jeH {k:IntKind}{i:Int}(h:0<=i)(F:Nat->ER):qC (.int k i) F=F i.toNat:=by
 obtain⟨n,rfl⟩:=QbA h;exact GT
theorem jhB {n:Nat}{cs:List AV}{i:Int}(h0:0<=i)(h:i<n)(s:Nat)(k:IntKind):jh (kr s (.lst n cs) (.int k i) st) K=K (.lptr cs (i.toNat * s)) st:=by
 simp only[kr,jeH h0];have:Qcy (Qcx i.toNat) n=true:=by rw[qt];omega
 rw[this];rfl
theorem jhA {b o n c z:Nat}{x:Bool}{i:Int}(h0:0<=i)(h:i<n)(s:Nat)(k:IntKind):jh (kr s (.slice b o n c z x) (.int k i) st) K=K (.ptr b (o+i.toNat * s)) st:=by
 obtain⟨m,rfl⟩:=QbA h0;exact jqN om s k
theorem jmP {s:List Nat}{i:Int}(h0:0<=i)(h:i<s.length)(k:IntKind):jh (gR (.str s) (.int k i) st) K=K (.int .u8 ((s.getD i.toNat 0:Nat):Int)) st:=by
 obtain⟨m,rfl⟩:=QbA h0;exact joe om k
theorem jqM {k o:Nat}{cs:List AV}(h:o+k<=cs.length):jh (zI k (.lptr cs o) st) K=K (.agg ((cs.drop o).take k)) st:=by
 have:Qcy (Qcz o k) (jO cs)=true:=by rw[qt,jL];exact h
 simp only[zI,this,cond_true,jh,qK,yP]
theorem Jh {o:Nat}{cs:List AV}(h:o<cs.length):jh (yb (.lptr cs o) st) K=K (cs.getD o .bad) st:=by
 have:Qcy (Qcx o) (jO cs)=true:=by rw[qt,jL];exact h
 simp only[yb,this,cond_true,jh,zT]
theorem jhD (off o:Nat)(cs:List AV):jh (jgx off (.lptr cs o) st) K=K (.lptr cs (o+off)) st:=nr rfl
theorem jei (o:Nat)(cs:List AV):jh (jgd (.lptr cs o) st) K=K (.lptr cs o) st:=nr rfl
def fl {α:Type}(enc:α->List AV)(xs:List α):List AV:=xs.flatMap enc
theorem XY {α:Type}(enc:α->List AV)(x:α)(xs:List α):fl enc (x :: xs)=enc x ++ fl enc xs:=rfl
theorem Q1 {α:Type}(enc:α->List AV)(xs ys:List α):fl enc (xs ++ ys)=fl enc xs ++ fl enc ys:=by simp[fl]
theorem J5 {α:Type}(enc:α->List AV)(x:α):fl enc [x]=enc x:=by simp[fl]
theorem Jk {α:Type}{enc:α->List AV}{z:Nat}(hz:∀ x,(enc x).length=z):∀ xs:List α,(fl enc xs).length=xs.length * z
 |[]=>by simp[fl]
 |x :: xs=>by rw[XY,υ,hz,Jk hz xs,φ,QaQ,Qby]
theorem y7 {α:Type}{enc:α->List AV}(hp:∀ x,(enc x).all pc=true):∀ xs:List α,(fl enc xs).all pc=true
 |[]=>rfl
 |x :: xs=>by rw[XY,QaZ,hp,y7 hp xs];rfl
theorem G9 {α:Type}{enc:α->List AV}{z:Nat}(hz:∀ x,(enc x).length=z):∀ (xs:List α) (i:Nat),(fl enc xs).drop (i * z)=fl enc (xs.drop i)
 |xs,0=>by simp
 |[],i+1=>by simp[fl]
 |x :: xs,i+1=>by
  rw[XY,QaQ,Qby,List.drop_append,List.drop_eq_nil_of_le (by rw[hz];omega),hz,Nat.add_sub_cancel_left,G9 hz xs i];rfl
theorem je3 {α:Type}{enc:α->List AV}{z:Nat}(hz:∀ x,(enc x).length=z):∀ (xs:List α) (i:Nat),(fl enc xs).take (i * z)=fl enc (xs.take i)
 |xs,0=>by simp[fl]
 |[],i+1=>by simp[fl]
 |x :: xs,i+1=>by
  rw[XY,QaQ,Qby,List.take_append,Qcg (by rw[hz];omega),hz,Nat.add_sub_cancel_left,je3 hz xs i];rfl
theorem jgt {α:Type}{enc:α->List AV}{z:Nat}(hz:∀ x,(enc x).length=z){xs:List α}{i:Nat}(h:i<xs.length):((fl enc xs).drop (i * z)).take z=enc xs[i]:=by
 rw[G9 hz,Qcf h,XY,List.take_append,Qcg (by rw[hz];omega),hz,Nat.sub_self,QaJ,QaT]
theorem vQ {α:Type}{enc:α->List AV}{z:Nat}(hz:∀ x,(enc x).length=z){xs:List α}{i:Nat}(h:i<xs.length){k:Nat}(hk:k<z):(fl enc xs).getD (i * z+k) .bad=(enc xs[i]).getD k .bad:=by
 rw[<-jgt hz h];simp only[Qad,QbI,hk,if_true,QbJ]
theorem Q9 {α:Type}{enc:α->List AV}{z:Nat}(hz:∀ x,(enc x).length=z){xs:List α}{i:Nat}(h:i<xs.length):jh (zI z (.lptr (fl enc xs) (i * z)) st) K=K (.agg (enc xs[i])) st:=by
 have:(i+1) * z<=xs.length * z:=Qax z h;rw[QaQ] at this;rw[jqM (by rw[Jk hz];omega),jgt hz h]
theorem ye {α:Type}{enc:α->List AV}{z:Nat}(hz:∀ x,(enc x).length=z){xs:List α}{i:Nat}(h:i<xs.length){k:Nat}(hk:k<z):jh (yb (.lptr (fl enc xs) (i * z+k)) st) K=K ((enc xs[i]).getD k .bad) st:=by
 have:(i+1) * z<=xs.length * z:=Qax z h;rw[QaQ] at this;rw[Jh (by rw[Jk hz];omega),vQ hz h hk]
theorem jhC {k:Nat}{cs:List AV}(h:k<cs.length):jh (jgs k (.agg cs) st) K=K (cs.getD k .bad) st:=by
 have:Qcy (Qcx k) (jO cs)=true:=by rw[qt,jL];exact h
 simp only[jgs,QL,this,cond_true,jh,zT]
theorem jel (k n:Nat)(cs:List AV):jh (jgr k n (.agg cs) st) K=K (.agg ((cs.drop k).take n)) st:=by
 simp only[jgr,QL,jh,qK,yP]
theorem GH (l:List AV):l.take 0=[]:=rfl
theorem GG (a:AV)(l:List AV)(n:Nat):(a :: l).take (n+1)=a :: l.take n:=rfl
theorem Hl (l:List AV):l.drop 0=l:=rfl
theorem jsb (a:AV)(l:List AV)(n:Nat):(a :: l).drop (n+1)=l.drop n:=rfl
theorem Cl.rw_ {b:Nat}{cs:List AV}(C:Cl st b cs):Rw st.h b cs:=by
 obtain⟨n,zl,z,c,hg⟩:=C.row;have hl:=C.len;rw[yG hg] at hl;refine⟨n,zl,z,c,hg,?_⟩;rw[qi];apply Qbq
 ·simp[hl]
 ·intro i h1 h2;have:=C.cell i h2;rw[JG hg] at this;simp only[QbP,List.getElem_range,Qam,this];simp[Qad,Qag h2]
end
section
variable {P:Program} {base:Bs}
theorem GV (cs:List AV):ZD cs=nw st0 cs:=by unfold ZD nw;rw[jL];rfl
def G0 (u v:AV)(s:St):Prop:=FzD 0 9 s v u
def G1 (n:Nat)(c':List AV)(u v:AV)(s:St):Prop:=FzD 1 9 s v u/\∃ c2,Rw s.h 0 c2/\c2.length=n/\FzsD 1 9 s c2 c'
theorem jG {f:FuncId}{F:XF}(hl:jy P f=some F)(hnd:F.body.nd=true)(hm:base.pur f=1){aZ:List AV}{o:Oc}
  (h:xC P base F.body (jr F.ps aZ) st0 (Xw P F.res (X4 G0 o)) λv _ s=>XN G0 o v s.bare):PX P base f aZ o:=
 PX.of hm (YJ hl hnd h)
theorem qd {f:FuncId}{F:XF}(hl:jy P f=some F)(hnd:F.body.nd=true)(hm:base.pur f=3){c aZ:List AV}(hc:c.all pc=true){o:Oc}{c':List AV}
  (h:xC P base F.body (jr F.ps (.ptr 0 0 :: aZ)) (nw st0 c) (Xw P F.res (X4 (G1 c.length c') o)) λv _ s=>XN (G1 c.length c') o v s.bare):PM P base f c aZ o c':=by
 rw[<-GV] at h;exact PM.of hm hc (YJ hl hnd h)
theorem PM.xbk {f:FuncId}{c aZ aZ':List AV}{ks:List Nat}{o:Oc}{c':List AV}(h:PM P base f c aZ o c'){st:St}{p:Nat}(C:Cl (kills ks st) p c)(hf:fzs (fz 9 st.h) aZ'=some (aZ,ks))(hp:aZ.all pa=true)(hb:∀ st,base.run f (.ptr p 0 :: aZ') st=.no)(K Kp:AV->St->Prop) :
  XB P base f (.ptr p 0 :: aZ') st K Kp=YG o K Kp (wr (kills ks st) p 0 c'):=by
 obtain⟨N,D,h⟩:=h;have e0:∀ n,N<=n->∀ d,D<=d->evC P base n d f (.ptr p 0 :: aZ') st=o.er (wr (kills ks st) p 0 c'):=λn hn d hd=>by
  rw[h n hn d hd st p aZ' ks C.rw_ hf hp hb]
  congr 1
 refine propext ⟨λ⟨r,⟨N2,D2,h2⟩,h3⟩=>?_,λh3=>⟨_,⟨N,D,e0⟩,?_⟩⟩
 ·have e1:=e0 (max N N2) (Qas ..) (max D D2) (Qas ..);have e2:=h2 (max N N2) (Qat ..) (max D D2) (Qat ..);rw[e1] at e2;rw[<-e2] at h3;cases o<;>exact h3
 ·cases o<;>exact h3
theorem PM.xb {f:FuncId}{c aZ:List AV}{o:Oc}{c':List AV}(h:PM P base f c aZ o c'){st:St}{p:Nat}(C:Cl st p c)(hp:aZ.all pa=true)(hb:∀ st,base.run f (.ptr p 0 :: aZ) st=.no)(K Kp:AV->St->Prop) :
 XB P base f (.ptr p 0 :: aZ) st K Kp=YG o K Kp (wr st p 0 c'):=h.xbk (ks:=[]) C (gZ (d:=7) hp) hp hb K Kp
theorem XP (v:AV)(K Kp:AV->St->Prop)(st:St):YG (.ok v) K Kp st=K v st:=nr rfl
theorem jgb (v:AV)(K Kp:AV->St->Prop)(st:St):YG (.pn v) K Kp st=Kp v st:=nr rfl
theorem jjt (G:AV->AV->St->Prop)(u v:AV)(s:St):X4 G (.ok u) v s=G u v s:=nr rfl
theorem jit (G:AV->AV->St->Prop)(u v:AV)(s:St):XN G (.pn u) v s=G u v s:=nr rfl
def jf0 (b b2:Nat)(J:Sl->St->Prop)(Q:Out->Prop):Out->Res (J,Q)
 |.go L s=>J L s
 |.ex i L s=>cond (Qcw i b2) (J L s) (cond (Qcw i b) (Q (.go L s)) (Q (.ex i L s)))
 |.rt L s=>Q (.rt L s)
theorem jrm (b b2:Nat)(J:Sl->St->Prop)(Q:Out->Prop)(L:Sl)(s:St):jf0 b b2 J Q (.go L s)=J L s:=nr rfl
theorem jrl (b b2:Nat)(J:Sl->St->Prop)(Q:Out->Prop)(L:Sl)(s:St):jf0 b b2 J Q (.rt L s)=Q (.rt L s):=nr rfl
theorem jlw (b b2:Nat)(J:Sl->St->Prop)(Q:Out->Prop)(i:Nat)(L:Sl)(s:St):jf0 b b2 J Q (.ex i L s)=cond (Qcw i b2) (J L s) (cond (Qcw i b) (Q (.go L s)) (Q (.ex i L s))):=nr rfl
theorem hsX {p:Prop}(h:p:=by first|assumption|(simp(disch:=decide) only[ji,ju];done)|(simp(disch:=decide) only[ji];assumption)):p:=h
theorem jX {b b2 i n c d:Nat}{body:XC}{L:Sl}{st:St}{Q:Out->Prop}{Kp:AV->Sl->St->Prop}(N:Nat)(I:Nat->Sl->St->Prop)(h0:I 0 L st)
  (step:∀ k L s,k<N->I k L s->Has L i (.int .i64 (k:Int))->Has L n (.int .i64 (N:Int))->KB (xC P base body L s (jf0 b b2 (λL' s'=>I (k+1) L' s'/\Has L' i (.int .i64 (k:Int))/\Has L' n (.int .i64 (N:Int))) Q) Kp))
  (fin:∀ L s,I N L s->KB (Q (.go L s))) (hN:N<=4611686018427387904:=by first|assumption|omega) (hne:c≠i/\c≠n/\i≠n/\d≠i/\b≠b2:=by decide)
  (hi:Has L i (.int .i64 0):=by exact hsX) (hn:Has L n (.int .i64 (N:Int)):=by exact hsX) (hc:∀ k L s v,I k L s->I k ((c,v) :: L) s:=by intro k L s v h;simp(disch:=decide) only[ji];exact h) (hI:∀ k L s v,I k L s->I k ((i,v) :: L) s:=by intro k L s v h;simp(disch:=decide) only[ji];exact h) :
  xC P base (.loop (.seq (.ops [⟨some c,true,none,.i (.bin .lss (.t i) (.t n))⟩]) (.seq (.cond (.t c) .skip (.exit b)) (.seq (.block b2 body) (.ops [⟨some d,false,none,.i (.bin .add (.t i) (.c (.int .i64 1)))⟩,⟨some i,true,none,.i (.mv (.t d))⟩]))))) L st (yK b Q) Kp:=by
 obtain⟨n1,n2,n3,n4,n5⟩:=hne;refine zb (λm L s=>∃ k,k<=N/\m=N - k/\I k L s/\Has L i (.int .i64 (k:Int))/\Has L n (.int .i64 (N:Int))) ?_ N ⟨0,Qae _,rfl,h0,hi,hn⟩;rintro m L s ⟨k,hk,rfl,hk',h1,h2⟩;unfold KB;simp only[jaI,jaJ,UH,x_i,jbn,ja h1,ja h2,KO,jaK,UZ,vg,jbX,jf4];by_cases hlt:k<N
 ·rw[decide_eq_true om,joA,jbS,vg,jaI,UI];refine jef _ _ _ _ _ (step k ((c,.bool true) :: L) s hlt (hc k L s _ hk') (by rw[ji n1];exact h1) (by rw[ji n2];exact h2)) λo ho=>?_;have go:∀ L' s',(I (k+1) L' s'/\Has L' i (.int .i64 (k:Int))/\Has L' n (.int .i64 (N:Int)))->xO P base [⟨some d,false,none,.i (.bin .add (.t i) (.c (.int .i64 1)))⟩,⟨some i,true,none,.i (.mv (.t d))⟩] ⟨[],L'⟩ s' (λe st'=>X7 (λL' st'=>∃ k',k'<N - k/\∃ k,k<=N/\k'=N - k/\I k L' st'/\Has L' i (.int .i64 (k:Int))/\Has L' n (.int .i64 (N:Int))) (yK b Q) (.go e.g st')) Kp:=by
   intro L' s' ⟨h3,h4,h5⟩;simp only[UH,x_i,jbn,ja h4,jf5,jqO (show k+1<=9223372036854775807 by omega),GP,jlY,jf3,jaK,UZ,vg];refine⟨N - (k+1),om,k+1,om,rfl,hI _ _ _ _ h3,Has.here _ _ _,by rw[ji n3];exact h5⟩
  cases o with
  |go L' s'=>exact go L' s' ho
  |rt L' s'=>exact ho
  |ex q L' s'=>
   rw[jlw] at ho;cases hq:Qcw q b2
   ·rw[hq] at ho;have e1:yK b2 (X7 (λL' st'=>xC P base (.ops [⟨some d,false,none,.i (.bin .add (.t i) (.c (.int .i64 1)))⟩,⟨some i,true,none,.i (.mv (.t d))⟩]) L' st' (X7 (λL' st'=>∃ k',k'<N - k/\∃ k,k<=N/\k'=N - k/\I k L' st'/\Has L' i (.int .i64 (k:Int))/\Has L' n (.int .i64 (N:Int))) (yK b Q)) Kp) (X7 (λL' st'=>∃ k',k'<N - k/\∃ k,k<=N/\k'=N - k/\I k L' st'/\Has L' i (.int .i64 (k:Int))/\Has L' n (.int .i64 (N:Int))) (yK b Q))) (.ex q L' s')=yK b Q (.ex q L' s'):=by
     simp only[yK,hq,cond_false,X7]
    show yK b2 _ _;rw[e1];exact ho
   ·rw[hq] at ho;have:=go L' s' ho;show yK b2 _ _;simp only[yK,hq,cond_true,vg,jaJ];exact this
 ·have hkN:k=N:=om
  rw[decide_eq_false om,joB,jbU,UY,UY];subst hkN;show yK b Q (.ex b _ s);rw[VY];exact fin _ _ (hc _ _ _ _ hk')
theorem uJ (n:Nat)(cs:List AV):(AV.lst n cs).cells=[.lst n cs]:=nr rfl
theorem jcT (n:Nat)(cs l:List AV):lall AV.cell (.lst n cs :: l)=lall AV.cell l:=nr rfl
theorem HJ (n:Nat)(cs:List AV):(AV.lst n cs).plain=true:=nr rfl
theorem yq:st0.nx=0:=nr rfl
theorem jh5 (P:Program)(t:TypeId)(cs:List AV)(o:Nat)(v:AV)(h:T AO):(jY P t (.lptr cs o) v h=true)=True:=by simp[jY]
theorem G0.v {u v:AV}{s:St}(h:v=u)(hp:pa v=true):G0 u v s:=by subst h;exact FzD.pa hp
theorem jeX (p:Prop):KB p=p:=nr rfl
theorem jin:zM []=.tup []:=nr rfl
theorem GD:∀ {c c':List AV},c'.length=c.length->upd c 0 c'=c'
 |[],[],_=>rfl
 |[],_ :: _,h=>by simp at h
 |_ :: _,[],h=>by simp at h
 |_ :: c,v :: c',h=>by rw[YZ,GD (by simpa using h)]
theorem Zs {c c':List AV}(h:c'.length=c.length):upd c 0 c'=c':=GD h
theorem Cl.wr0 {s:St}{b:Nat}{c c':List AV}(C:Cl s b c)(h:c'.length=c.length):Cl (Go.Sy.wr s b 0 c') b c':=by
 have:=C.wr 0 c';rwa [GD h] at this
theorem G1.done {s:St}{n:Nat}{c':List AV}{u v:AV}(C:Cl s 0 c')(hl:c'.length=n)(hp:c'.all pc=true)(hv:FzD 1 9 s v u):G1 n c' u v s:=
 ⟨hv,c',C.rw_,hl,FzsD.pc hp⟩
theorem FzD.u {m d:Nat}{s:St}:FzD m (d+1) s (.tup []) (.tup []):=FzD.tup FzsD.nil
abbrev Met (P:Program)(base:Bs)(f:FuncId)(c xs:List AV)(o:Oc)(c':List AV):Prop:=∀ {st:St} {p:Nat},Cl st p c->∀ K Kp,XB P base f (.ptr p 0 :: xs) st K Kp=YG o K Kp (wr st p 0 c')
theorem PM.met {f:FuncId}{c xs:List AV}{o:Oc}{c':List AV}(h:PM P base f c xs o c')(hp:xs.all pa=true)(hb:∀ p st,base.run f (.ptr p 0 :: xs) st=.no):Met P base f c xs o c':=λC K Kp=>h.xb C hp (hb _) K Kp
theorem Wa {f:FuncId}{xs:List AV}{st:St}{v:AV}{st':St}(h:base.run f xs st=.ok v st')(K Kp:AV->St->Prop):XB P base f xs st K Kp=K v (back st st'):=by
 have e0:∀ n,0<=n->∀ d,1<=d->evC P base n d f xs st=.ok v st':=λn _ d hd=>by
  obtain⟨d',rfl⟩:∃ d',d=d'+1:=⟨d - 1,om⟩;simp only[evC,h]
 refine propext ⟨λ⟨r,⟨N2,D2,h2⟩,h3⟩=>?_,λh3=>⟨_,⟨0,1,e0⟩,h3⟩⟩;have e1:=e0 N2 (Qae _) (max 1 D2) (Qas ..);have e2:=h2 N2 (τ _) (max 1 D2) (Qat ..);rw[e1] at e2;rw[<-e2] at h3;exact h3
def cvV (P:Program)(s d:TypeId)(v:AV)(st:St):ER:=(Qe P s d (O v)).run E0 st
theorem ji5 {e:En}{st:St}{K:AV->St->Prop}(s d:TypeId)(x:A):wK P base (.i (.conv s d x)) e st K=on1 e x λv=>jh (cvV P s d v st) K:=k_1 rfl (λ_=>rfl) K
theorem jpf {st:St}{K:AV->St->Prop}{s d e:TypeId}(h1:P.underlying s=some .string)(h2:P.underlying d=some (.slice e))(h3:P.underlying e=some (.int .u8))(l:List Nat) :
  jh (cvV P s d (.str l) st) K=K (.slice st.nx 0 l.length l.length 1 false) (nw st (l.map λ(c:Nat)=>.int .u8 (c:Int))):=by
 simp only[cvV,Qe,h1,h2,h3,O,Jf,jL,jF,St.alloc_eq,jh];unfold nw;rw[Qah,yT];rfl
theorem jif {st:St}(x k:Nat)(l:List RV)(L:Sl)(F:List AV->Prop):yF P (.cA x k :: l) L st F=on1 ⟨[],L⟩ (.t x) λv=>jh (zI k v st) λu _=>yF P l L st λvs=>F (u :: vs):=by
 simp only[yF,jcm,on1,okA,vl,En.has,En.look,has,cond_false];rfl
theorem jeA {st:St}(x:Nat)(l:List RV)(L:Sl)(F:List AV->Prop):yF P (.c1 x :: l) L st F=on1 ⟨[],L⟩ (.t x) λv=>jh (yb v st) λu _=>yF P l L st λvs=>F (u :: vs):=by
 simp only[yF,jcm,on1,okA,vl,En.has,En.look,has,cond_false];rfl
def jaV (n sz:Nat)(v:AV)(st:St):ER:=yf v λb o=>optA none 0 λl=>optA none n λh=>
 cond (Qcy l h) (cond (Qcy h n)
  (force (QcB h l) λk=>force (Qcz o (QcA l sz)) λo=>force (QcB n l) λc=>.ok (.slice b o k c sz true) st) .no) .no
theorem jiW {e:En}{st:St}{K:AV->St->Prop}(n sz:Nat)(x:A):wK P base (.i (.slA n sz x none none)) e st K=on1 e x λv=>jh (jaV n sz v st) K:=k_1 (V:=λv st=>jaV n sz v st) rfl (λ_=>rfl) K
theorem jhr {st:St}{K:AV->St->Prop}(b n sz:Nat):jh (jaV n sz (.ptr b 0) st) K=K (.slice b 0 n n sz true) st:=by
 have e1:Qcy 0 n=true:=qu (Qae _);have e2:Qcy n n=true:=qu (τ _);have e3:Qcz 0 (QcA 0 sz)=0:=by show 0+0 * sz=0;omega
 have e4:QcB n 0=n:=rfl;simp only[jaV,yf,optA,e1,e2,e3,e4,cond_true,jF,jh]
theorem jek {st:St}{K:AV->St->Prop}{b n s:Nat}{i:Int}(h0:0<=i)(h:i<n)(k:IntKind):jh (jgm n s (.ptr b 0) (.int k i) st) K=K (.ptr b (i.toNat * s)) st:=by
 have e1:Qcy (Qcx i.toNat) n=true:=qu om;have e2:Qcz 0 (QcA i.toNat s)=i.toNat * s:=Qam _;simp only[jgm,yf,jeH h0,e1,e2,cond_true,jF,jh]
theorem jhq {st:St}{K:AV->St->Prop}{l:List Nat}{i:Int}(h0:0<=i)(h:i<=l.length)(k:IntKind):jh (JL (.str l) (some (.int k i)) none st) K=K (.str (l.drop i.toNat)) st:=by
 obtain⟨m,rfl⟩:=QbA h0;exact js1 om k
theorem jhp {st:St}{K:AV->St->Prop}{l:List Nat}{i:Int}(h0:0<=i)(h:i<=l.length)(k:IntKind):jh (JL (.str l) none (some (.int k i)) st) K=K (.str (l.take i.toNat)) st:=by
 obtain⟨m,rfl⟩:=QbA h0;exact js0 om k
theorem jho {st:St}{K:AV->St->Prop}{l:List Nat}{i j:Int}(h0:0<=i)(h1:i<=j)(h:j<=l.length)(k k':IntKind):jh (JL (.str l) (some (.int k i)) (some (.int k' j)) st) K=K (.str ((l.drop i.toNat).take (j - i).toNat)) st:=by
 obtain⟨m,rfl⟩:=QbA h0;obtain⟨n,rfl⟩:=QbA (show 0<=j by omega);rw[jsZ om om]
 congr 3
 omega
theorem jfL {f:FuncId}{xs:List AV}{st s:St}{v:AV}(h:∀ K Kp,K v s->XB P base f xs st K Kp)(K Kp:AV->St->Prop):XB P base f xs st K Kp=K v s:=by
 refine propext ⟨λ⟨r2,⟨N2,D2,h2⟩,h3⟩=>?_,h K Kp⟩;obtain⟨r,⟨N,D,h1⟩,h4⟩:=h (λv' s'=>v'=v/\s'=s) (λ_ _=>False) ⟨rfl,rfl⟩;have e1:=h1 (max N N2) (Qas ..) (max D D2) (Qas ..);have e2:=h2 (max N N2) (Qat ..) (max D D2) (Qat ..);rw[e1] at e2;subst e2;cases r with
 |no=>exact h4.elim
 |pn v s=>exact h4.elim
 |ok v' s'=>
  obtain⟨rfl,rfl⟩:=h4;exact h3
theorem jfl (st:St):bk st st.bare=st:=nr rfl
theorem jdG (st:St):back st st.bare=st:=nr rfl
def fi {α:Type}(q:α->Bool):List α->Int
 |[]=>-1
 |x :: xs=>if q x=true then 0 else if fi q xs<0 then -1 else fi q xs+1
theorem uD {α:Type}{q:α->Bool}:∀ {xs:List α} {k:Nat} (h:k<xs.length),(∀ j (hj:j<k),q (xs[j]'(om))=false)->q xs[k]=true->fi q xs=k
 |x :: xs,0,h,h0,hk=>by simp only[QbB] at hk;simp[fi,hk]
 |x :: xs,k+1,h,h0,hk=>by
  have:=uD (xs:=xs) (k:=k) (by simpa using h) (λj hj=>by have:=h0 (j+1) om;simpa only[QbT] using this) (by simpa only[QbT] using hk);have h1:=h0 0 om;simp only[QbB] at h1;simp only[fi,h1,this];simp;omega
theorem uC {α:Type}{q:α->Bool}:∀ {xs:List α},(∀ j (hj:j<xs.length),q xs[j]=false)->fi q xs=-1
 |[],_=>rfl
 |x :: xs,h=>by
  have h1:=h 0 (by simp);simp only[QbB] at h1;have:=uC (xs:=xs) λj hj=>by have:=h (j+1) (by simpa using hj);simpa only[QbT] using this
  simp[fi,h1,this]
theorem Cl.cv {s:St}{b:Nat}{c c':List AV}(h:Cl s b c)(e:c=c'):Cl s b c':=e▸h
theorem jB {s:St}{b c o:Nat}{vs cs:List AV}(h:c≠b):Cl (wr s b o vs) c cs=Cl s c cs:=
 propext ⟨λC=>⟨C.lt,Jy (zG h).symm C.row,(yS (zG h).symm).trans C.len,λi hi=>(yH (zG h).symm i).trans (C.cell i hi)⟩,λC=>C.wrO h o vs⟩
theorem jD {s:St}{c:Nat}{ds cs:List AV}(h:c<s.nx):Cl (nw s ds) c cs=Cl s c cs:=
 propext ⟨λC=>⟨h,Jy (q6 (Qbh h)).symm C.row,(yS (q6 (Qbh h)).symm).trans C.len,λi hi=>(yH (q6 (Qbh h)).symm i).trans (C.cell i hi)⟩,λC=>C.nw ds⟩
theorem jz {s:St}{c:Nat}{cs:List AV}:Cl s.bare c cs=Cl s c cs:=propext ⟨λh=>⟨h.lt,h.row,h.len,h.cell⟩,λh=>⟨h.lt,h.row,h.len,h.cell⟩⟩
end
def Lv (lo hi:Nat)(s:St)(v:AV)(n:Nat)(cs:List AV)(z:Nat):Prop:=(v=.nils/\n=0/\cs=[])\/∃ b,v=.slice b 0 n n z false/\0<n/\cs.length=n * z/\Cl s b cs/\lo<=b/\b<hi
def aps (v:AV)(s:St)(news:List AV):St:=match v with | .slice b _ _ _ _ _=>ap s b news|_=>nw s news
def apv (z:Nat)(v:AV)(s:St):AV:=match v with | .slice _ _ n _ _ _=>.slice s.nx 0 (n+1) (n+1) z false|_=>.slice s.nx 0 1 1 z false
section
variable {lo hi n z:Nat} {s:St} {v:AV} {cs:List AV}
theorem Lv.nil:Lv lo hi s .nils 0 [] z:=.inl ⟨rfl,rfl,rfl⟩
theorem jA {b o:Nat}{vs:List AV}(h:b<lo\/hi<=b):Lv lo hi (wr s b o vs) v n cs z=Lv lo hi s v n cs z:=by
 unfold Lv;refine propext ⟨λk=>k.imp id λ⟨c,h1,h2,h3,h4,h5,h6⟩=>⟨c,h1,h2,h3,?_,h5,h6⟩,λk=>k.imp id λ⟨c,h1,h2,h3,h4,h5,h6⟩=>⟨c,h1,h2,h3,?_,h5,h6⟩⟩
 ·rwa [jB om] at h4
 ·rwa [jB om]
theorem jE {ds:List AV}(h:hi<=s.nx):Lv lo hi (nw s ds) v n cs z=Lv lo hi s v n cs z:=by
 unfold Lv;refine propext ⟨λk=>k.imp id λ⟨c,h1,h2,h3,h4,h5,h6⟩=>⟨c,h1,h2,h3,?_,h5,h6⟩,λk=>k.imp id λ⟨c,h1,h2,h3,h4,h5,h6⟩=>⟨c,h1,h2,h3,?_,h5,h6⟩⟩
 ·rwa [jD om] at h4
 ·rwa [jD om]
theorem jH:Lv lo hi s.bare v n cs z=Lv lo hi s v n cs z:=by unfold Lv;simp only[jz]
theorem Lv.up {hi':Nat}(h:Lv lo hi s v n cs z)(h2:hi<=hi'):Lv lo hi' s v n cs z:=h.imp id λ⟨c,h1,h2,h3,h4,h5,h6⟩=>⟨c,h1,h2,h3,h4,h5,om⟩
theorem jq (v:AV)(s:St)(news:List AV):(aps v s news).nx=s.nx+1:=by unfold aps;split<;>rfl
theorem Ze (v:AV)(s:St)(news:List AV):(aps v s news).fr=s.fr:=by unfold aps;split<;>rfl
theorem Lv.app {news:List AV}(h:Lv lo hi s v n cs z)(hl:news.length=z)(h1:lo<=s.nx):Lv lo (s.nx+1) (aps v s news) (apv z v s) (n+1) (cs ++ news) z:=by
 rcases h with ⟨rfl,rfl,rfl⟩|⟨b,rfl,h2,h3,h4,h5,h6⟩
 ·exact .inr ⟨s.nx,rfl,om,by simp[hl],Cl.new s news,h1,om⟩
 ·exact .inr ⟨s.nx,rfl,om,by rw[υ,h3,hl,QaQ],h4.ap news,h1,om⟩
theorem Cl.apO {s:St}{b c:Nat}{cs vs:List AV}(h:Cl s c cs)(hb:c≠b):Cl (Go.Sy.ap s b vs) c cs:=
 have e:jv (Go.Sy.ap s b vs).h c=jv s.h c:=kw (Qbh h.lt) hb
 ⟨Nat.lt_succ_of_lt h.lt,Jy e h.row,(yS e).trans h.len,λi hi=>(yH e i).trans (h.cell i hi)⟩
theorem Cl.aps {c:Nat}{ds news:List AV}(C:Cl s c ds)(h:Lv lo hi s v n cs z)(hc:c<lo\/hi<=c):Cl (Go.Sy.aps v s news) c ds:=by
 rcases h with ⟨rfl,rfl,rfl⟩|⟨b,rfl,h2,h3,h4,h5,h6⟩
 ·exact C.nw news
 ·exact C.apO (b:=b) om
theorem Lv.aps {lo' hi' n' z':Nat}{v':AV}{cs' news:List AV}(V:Lv lo' hi' s v' n' cs' z')(h:Lv lo hi s v n cs z)(hc:hi'<=lo\/hi<=lo'):Lv lo' hi' (Go.Sy.aps v s news) v' n' cs' z':=
 V.imp id λ⟨c,h1,h2,h3,h4,h5,h6⟩=>⟨c,h1,h2,h3,h4.aps h om,h5,h6⟩
theorem Lv.fz {m d:Nat}(h:Lv lo hi s v n cs z)(hm:m<=lo)(hp:cs.all pc=true):FzD m (d+2) s v (.lst n cs):=by
 rcases h with ⟨rfl,rfl,rfl⟩|⟨b,rfl,h2,h3,h4,h5,h6⟩
 ·exact FzD.nils
 ·refine FzD.slice h4.rw_ (QaO h3.symm) om ?_;rw[<-h3,Qaf];exact FzsD.pc hp
variable {K:AV->St->Prop}
theorem JT {bytes bv xc:Nat}{xx:Bool}(h:Lv lo hi s v n cs z)(hz:0<z)(hby:(n+1) * bytes<=140737488355328)(h63:n+1<=9223372036854775807)(hv:z<=qv s.h bv) :
  jh (Jc z bytes v (.slice bv 0 1 xc z xx) s) K=K (apv z v s) (aps v s (rats s.h bv 0 z)):=by
 obtain⟨m,zl,zz,ks,hg⟩:=QD (h:=s.h) (b:=bv) om;rw[yG hg] at hv;have e0:QcA 1 z=z:=Qbx z;have e1:Qcy (Qcz 0 z) m=true:=qu (by show 0+z<=m;omega);have er:jP zl zz ks z 0=rats s.h bv 0 z:=by
  rw[JW,qi];exact QaW λi _=>by rw[JG hg]
 have el:(rats s.h bv 0 z).length=z:=Qd _ _ _ _;have e3:Qcw (jO (rats s.h bv 0 z)) z=true:=YB (by rw[jL,el]);rcases h with ⟨rfl,rfl,rfl⟩|⟨b,rfl,h2,h3,h4,h5,h6⟩
 ·have e4:Qcw 1 0=false:=rfl;have e5:Qcy (QcA 1 bytes) 140737488355328=true:=qu (by show 1 * bytes<=_;omega);have e6:Qcy 1 9223372036854775807=true:=qu dc;simp only[Jc,zA,firstCells,hg,yl,jF,e0,e1,cond_true,er,qY,e3,e4,cond_false,e5,e6,St.alloc_eq,jh];unfold apv Go.Sy.aps nw;rw[el]
 ·obtain⟨m',zl',zz',ks',hg'⟩:=h4.row;have h4l:=h4.len;rw[yG hg'] at h4l;have e4:Qcy (Qcz n 1) n=false:=jbA (Qbz _);have e5:Qcy (QcA (Qcz n 1) bytes) 140737488355328=true:=qu hby;have e6:Qcy (Qcz n 1) 9223372036854775807=true:=qu h63;have e7:Qcw z z=true:=YB rfl;have e8:Qcw 0 0=true:=rfl;have e9:Qcw (QcA n z) m'=true:=YB (by rw[h4l,h3];rfl);simp only[Jc,zA,firstCells,hg,yl,jF,e0,e1,cond_true,er,qY,e3,hg',e4,cond_false,e5,e6,e7,e8,e9,St.put_eq,St.alloc_eq,jh];have e10:QcA (Qcz n 1) z=m'+(rats s.h bv 0 z).length:=by rw[el,h4l,h3];exact QaQ n z
  rw[e10];have ea:ap s b (rats s.h bv 0 z)=⟨s.nx+1,(qf (jN s.nx)).run (.row (m'+(rats s.h bv 0 z).length) zl' zz' (qx (rats s.h bv 0 z) ks' m')) ((qf (jN b)).run .dead s.h),min s.dirty b,s.fr⟩:=by
   unfold ap apO;rw[hg']
  show _=K (.slice s.nx 0 (n+1) (n+1) z false) (ap s b (rats s.h bv 0 z));rw[ea]
theorem Lv.get (h:Lv lo hi s v n cs z)(st:St)(news:List AV)(c:Nat)(hc:c<lo\/hi<=c)(hn:c<st.nx):jv (Go.Sy.aps v st news).h c=jv st.h c:=by
 rcases h with ⟨rfl,rfl,rfl⟩|⟨b,rfl,h2,h3,h4,h5,h6⟩
 ·exact q6 (Qbh hn)
 ·exact kw (Qbh hn) om
theorem Lv.at (h:Lv lo hi s v n cs z)(st:St)(news:List AV)(c i:Nat)(hc:c<lo\/hi<=c)(hn:c<st.nx):rat (Go.Sy.aps v st news).h c i=rat st.h c i:=yH (h.get st news c hc hn) i
theorem Lv.ln (h:Lv lo hi s v n cs z)(st:St)(news:List AV)(c:Nat)(hc:c<lo\/hi<=c)(hn:c<st.nx):qv (Go.Sy.aps v st news).h c=qv st.h c:=yS (h.get st news c hc hn)
theorem Lv.rts (h:Lv lo hi s v n cs z)(st:St)(news:List AV)(c o k:Nat)(hc:c<lo\/hi<=c)(hn:c<st.nx):rats (Go.Sy.aps v st news).h c o k=rats st.h c o k:=Z3 (h.get st news c hc hn) k o
theorem Lv.cl (h:Lv lo hi s v n cs z)(st:St)(news ds:List AV)(c:Nat)(hc:c<lo\/hi<=c)(hn:c<st.nx):Cl (Go.Sy.aps v st news) c ds=Cl st c ds:=
 propext ⟨λC=>have e:=h.get st news c hc hn;⟨hn,Jy e.symm C.row,(yS e.symm).trans C.len,λi hi=>(yH e.symm i).trans (C.cell i hi)⟩,λC=>have e:=h.get st news c hc hn;⟨by rw[jq];exact Nat.lt_succ_of_lt hn,Jy e C.row,(yS e).trans C.len,λi hi=>(yH e i).trans (C.cell i hi)⟩⟩
theorem Lv.put {news:List AV}(h:Lv lo hi s v n cs z)(hl:news.length=z)(h1:lo<=s.nx){m:Nat}(hm:m=s.nx+1):Lv lo m (Go.Sy.aps v s news) (apv z v s) (n+1) (cs ++ news) z:=by rw[hm];exact h.app hl h1
end
def kl (b:Nat)(s:St):St:=kills [b] s
section
variable {lo hi n z b c:Nat} {s:St} {v:AV} {cs:List AV}
theorem jt (b:Nat)(s:St):(kl b s).nx=s.nx:=nr rfl
theorem jbs (b:Nat)(s:St):(kl b s).fr=s.fr:=nr rfl
theorem vO (h:c≠b):jv (kl b s).h c=jv s.h c:=by
 show jv ((qf (jN b)).run .dead s.h) c=_;rw[qa,if_neg h]
theorem jbB {i:Nat}(h:c≠b):rat (kl b s).h c i=rat s.h c i:=yH (vO h) i
theorem Wn (h:c≠b):qv (kl b s).h c=qv s.h c:=yS (vO h)
theorem vf {o k:Nat}(h:c≠b):rats (kl b s).h c o k=rats s.h c o k:=Z3 (vO h) _ _
theorem jT (h:c≠b):Cl (kl b s) c cs=Cl s c cs:=
 propext ⟨λC=>have e:=vO (s:=s) h;⟨C.lt,Jy e.symm C.row,(yS e.symm).trans C.len,λi hi=>(yH e.symm i).trans (C.cell i hi)⟩,λC=>have e:=vO (s:=s) h;⟨C.lt,Jy e C.row,(yS e).trans C.len,λi hi=>(yH e i).trans (C.cell i hi)⟩⟩
theorem jJ (h:b<lo\/hi<=b):Lv lo hi (kl b s) v n cs z=Lv lo hi s v n cs z:=by
 unfold Lv;refine propext ⟨λk=>k.imp id λ⟨c,h1,h2,h3,h4,h5,h6⟩=>⟨c,h1,h2,h3,?_,h5,h6⟩,λk=>k.imp id λ⟨c,h1,h2,h3,h4,h5,h6⟩=>⟨c,h1,h2,h3,?_,h5,h6⟩⟩
 ·rwa [jT om] at h4
 ·rwa [jT om]
theorem Ql (h0:0<cs.length)(h1:b<s.nx)(h2:qv s.h b=cs.length)(h3:rats s.h b 0 cs.length=cs):Cl s b cs:=Cl.of_rats h1 h2 rfl h0 h3
def df (x:FuncId×List AV)(s:St):St:=⟨s.nx,s.h,s.dirty,x :: s.fr⟩
theorem uj (x:FuncId×List AV)(s:St):(df x s).nx=s.nx:=nr rfl
theorem G5 (x:FuncId×List AV)(s:St):(df x s).h=s.h:=nr rfl
theorem jbt (x:FuncId×List AV)(s:St):(df x s).fr=x :: s.fr:=nr rfl
theorem ww (f:FuncId)(caps vs:List AV){K:AV->St->Prop}:Ut (.fn f caps) vs s K=K qj (df (f,vs ++ caps) s):=nr rfl
theorem jjb:st0.fr=[]:=nr rfl
theorem jc5 {m k:Nat}{x:Bool}{d:Nat}(C:Cl s b cs)(hl:n * z=cs.length)(hp:cs.all pc=true):fz (d+2) s.h (.slice b 0 n m z x)=some (.lst n cs,[b]):=by
 obtain⟨q,zl,zz,ct,h1,h2,h3⟩:=C.rw_.len;show(match jv s.h b with
  |some (.row n' zl z' cs)=>cond (Qcy (Qcz 0 (QcA n z)) n') ((fzs (fz (d+1) s.h) (jP zl z' cs (QcA n z) 0)).map λ(p:List AV×List Nat)=>(AV.lst n p.1,b :: p.2)) none
  |_=>none)=_
 rw[h1];dsimp only;have e1:Qcy (Qcz 0 (QcA n z)) q=true:=by rw[qt];show 0+n * z<=q;omega
 have e2:jP zl zz ct (QcA n z) 0=cs:=by
  rw[show QcA n z=q by show n * z=q;omega];exact h2
 rw[e1,e2,Ue hp];rfl
def Fza (s:St)(aZ' aZ:List AV)(ks:List Nat):Prop:=fzs (fz 9 s.h) aZ'=some (aZ,ks)
theorem Fza.nil:Fza s [] [] []:=rfl
theorem Fza.pa {aZ' aZ:List AV}{ks:List Nat}(hv:pa v=true)(h:Fza s aZ' aZ ks):Fza s (v :: aZ') (v :: aZ) ks:=by
 unfold Fza at *;simp only[fzs];rw[jbq (d:=7) hv,h];rfl
theorem Fza.sl {aZ' aZ:List AV}{ks:List Nat}{m:Nat}{x:Bool}(C:Cl s b cs)(hl:n * z=cs.length)(hp:cs.all pc=true)(h:Fza s aZ' aZ ks):Fza s (.slice b 0 n m z x :: aZ') (.lst n cs :: aZ) (b :: ks):=by
 unfold Fza at *;simp only[fzs];rw[jc5 (d:=7) (k:=0) C hl hp,h];rfl
variable {P:Program} {base:Bs}
theorem WU {f:FuncId}{F:XF}(hl:jy P f=some F)(hm:base.pur f=1){aZ:List AV}{o:Oc}
 (h:xC P base F.body (jr F.ps aZ) st0 (Hj P base F.res (X4 G0 o) (XN G0 o)) (V5 P base F.res (X4 G0 o) (XN G0 o))):PX P base f aZ o:=PX.of hm (jmh hl h)
theorem PX.xf {f:FuncId}{aZ aZ':List AV}{ks:List Nat}{o:Oc}(h:PX P base f aZ o){st:St}(hf:Fza st aZ' aZ ks)(hb:∀ st,base.run f aZ' st=.no)(K Kp:AV->St->Prop):XB P base f aZ' st K Kp=YG o K Kp (kills ks st):=h.cxk hf hb K Kp
end
end Go.Sy
end
noncomputable section
namespace Go.Sy
open Go.Ev
theorem Cl.q {s:St}{b:Nat}{cs:List AV}(h:Cl s b cs):type_of% (aI h.len (aI h.cell h.ratsP)):=aI h.len (aI h.cell h.ratsP)
theorem Cl.r {s:St}{b:Nat}{cs:List AV}(h:Cl s b cs):type_of% (aI h.len h.ratsP):=aI h.len h.ratsP
theorem rzA:type_of% (a8 (@jeX) (@jbS) (@jaJ) (@jhd) (@jhb) (@jaI) (@UI) (a8 (@jbU) (@jmz) (@jbX) (@jaK) (@UH) (@jee) (@jhe) (a8 (@jbZ) (@jbY) (@jhc) (@jbW) (@jbV) (@jec) (@x_i) (a8 (@jhf) (@jmA) (@jed) (@jbR) (@jbQ) (@jha) (@vg) (a8 (@UY) (@jez) (@HE) (@HC) (@VY) (@HD) (@jrk) (a8 (@jf5) (@jf3) (@jii) (@jf4) (@jij) (@jeB) (@GP) (a8 (@UZ) (@jnf) (@jne) (@jeC) (@jeD) (@jih) (@jig) (a8 (@jin) (@jim) (@jil) (@jik) (@jaA) (@uO) (@jaB) (aI (@jfn) (@jfm)))))))))):=a8 (@jeX) (@jbS) (@jaJ) (@jhd) (@jhb) (@jaI) (@UI) (a8 (@jbU) (@jmz) (@jbX) (@jaK) (@UH) (@jee) (@jhe) (a8 (@jbZ) (@jbY) (@jhc) (@jbW) (@jbV) (@jec) (@x_i) (a8 (@jhf) (@jmA) (@jed) (@jbR) (@jbQ) (@jha) (@vg) (a8 (@UY) (@jez) (@HE) (@HC) (@VY) (@HD) (@jrk) (a8 (@jf5) (@jf3) (@jii) (@jf4) (@jij) (@jeB) (@GP) (a8 (@UZ) (@jnf) (@jne) (@jeC) (@jeD) (@jih) (@jig) (a8 (@jin) (@jim) (@jil) (@jik) (@jaA) (@uO) (@jaB) (aI (@jfn) (@jfm)))))))))
theorem rzB:type_of% (a8 (@jfl) (@jdG) (@jrm) (@jrl) (@jlw) (@jlY) (@jiX) (a8 (@jnD) (@jny) (@jnx) (@jrL) (@jiY) (@jbn) (@jnu) (a8 (@jiS) (@jrK) (@jnC) (@jnA) (@ji4) (@ji3) (@ji2) (a8 (@ji1) (@ji0) (@jeV) (@jnB) (@jnw) (@jiZ) (@jc3) (a8 (@jc2) (@jc1) (@jiV) (@jiU) (@jiT) (@jc4) (@jaj) (a8 (@jnz) (@jeW) (@jnE) (@jej) (@ji5) (@jiW) (@jbm) (a8 (@jnF) (@jqI) (@jmK) (@KO) (@jmQ) (@jmN) (@jmR) (a8 (@jmT) (@jmL) (@jeh) (@jb4) (@jb5) (@jhH) (@jhl) (aI (@jhu) (@jht)))))))))):=a8 (@jfl) (@jdG) (@jrm) (@jrl) (@jlw) (@jlY) (@jiX) (a8 (@jnD) (@jny) (@jnx) (@jrL) (@jiY) (@jbn) (@jnu) (a8 (@jiS) (@jrK) (@jnC) (@jnA) (@ji4) (@ji3) (@ji2) (a8 (@ji1) (@ji0) (@jeV) (@jnB) (@jnw) (@jiZ) (@jc3) (a8 (@jc2) (@jc1) (@jiV) (@jiU) (@jiT) (@jc4) (@jaj) (a8 (@jnz) (@jeW) (@jnE) (@jej) (@ji5) (@jiW) (@jbm) (a8 (@jnF) (@jqI) (@jmK) (@KO) (@jmQ) (@jmN) (@jmR) (a8 (@jmT) (@jmL) (@jeh) (@jb4) (@jb5) (@jhH) (@jhl) (aI (@jhu) (@jht)))))))))
theorem rzC:type_of% (a8 (@jhx) (@jhw) (@jhy) (@jfR) (@jb6) (@jhz) (@jhB) (a8 (@jhA) (@jmP) (@jhD) (@jei) (@jhs) (@jmS) (@jhC) (a8 (@jel) (@jhF) (@jhE) (@jmO) (@jhr) (@jek) (@jhq) (a8 (@jhp) (@jho) (@jfk) (@jsw) (@jsx) (@jjG) (@gT) (a8 (@gU) (@XP) (@jgb) (@jjt) (@jit) (@jg4) (@jnW) (a8 (@jsG) (@jg5) (@ZA) (@Zz) (@w9) (@Zy) (@Zs) (a8 (@Zx) (@jbB) (@Wn) (@vf) (@uj) (@G5) (@jbt) (a8 (@jbs) (@Ze) (@jq) (@jt) (@Zr) (@YY) (@YZ) (aI (@ZK) (@ZJ)))))))))):=a8 (@jhx) (@jhw) (@jhy) (@jfR) (@jb6) (@jhz) (@jhB) (a8 (@jhA) (@jmP) (@jhD) (@jei) (@jhs) (@jmS) (@jhC) (a8 (@jel) (@jhF) (@jhE) (@jmO) (@jhr) (@jek) (@jhq) (a8 (@jhp) (@jho) (@jfk) (@jsw) (@jsx) (@jjG) (@gT) (a8 (@gU) (@XP) (@jgb) (@jjt) (@jit) (@jg4) (@jnW) (a8 (@jsG) (@jg5) (@ZA) (@Zz) (@w9) (@Zy) (@Zs) (a8 (@Zx) (@jbB) (@Wn) (@vf) (@uj) (@G5) (@jbt) (a8 (@jbs) (@Ze) (@jq) (@jt) (@Zr) (@YY) (@YZ) (aI (@ZK) (@ZJ)))))))))
theorem rzD:type_of% (a8 (@jg) (@jj) (@jq) (@jp) (@Wp) (@vh) (@XQ) (a8 (@Xo) (@Gq) (@v7) (@kI) (@Gn) (@Gp) (@Z9) (a8 (@YU) (@uK) (@uG) (@wX) (@ZX) (@wW) (@uI) (a8 (@uJ) (@jdO) (@jdN) (@jmp) (@jg6) (@jbD) (@gb) (a8 (@UX) (@jnd) (@jnc) (@Vf) (@jbr) (@je2) (@yq) (a8 (@jif) (@jeA) (@h_0) (@h_1) (@jrP) (@jrO) (@jrR) (a8 (@jrQ) (@jrB) (@jrA) (@jqY) (@jqX) (@jqW) (@jqH) (a8 (@jqF) (@jmE) (@jqG) (@jmF) (@jh5) (@GH) (@GG) (aI (@Hl) (@jsb)))))))))):=a8 (@jg) (@jj) (@jq) (@jp) (@Wp) (@vh) (@XQ) (a8 (@Xo) (@Gq) (@v7) (@kI) (@Gn) (@Gp) (@Z9) (a8 (@YU) (@uK) (@uG) (@wX) (@ZX) (@wW) (@uI) (a8 (@uJ) (@jdO) (@jdN) (@jmp) (@jg6) (@jbD) (@gb) (a8 (@UX) (@jnd) (@jnc) (@Vf) (@jbr) (@je2) (@yq) (a8 (@jif) (@jeA) (@h_0) (@h_1) (@jrP) (@jrO) (@jrR) (a8 (@jrQ) (@jrB) (@jrA) (@jqY) (@jqX) (@jqW) (@jqH) (a8 (@jqF) (@jmE) (@jqG) (@jmF) (@jh5) (@GH) (@GG) (aI (@Hl) (@jsb)))))))))
theorem rzL:type_of% (a8 (@uj) (@G5) (@jg) (@jj) (@jq) (@jt) (@jp) (a8 (@Wp) (@yq) (@Wn) (@vh) (@XQ) (@Xo) (@ZA) (a8 (@Zz) (@w9) (@Zy) (@Zs) (@Zx) (@vf) (@Zr) (a4 (@YY) (@YZ) (@ZK) (a4 (@ZJ) (@Hl) (@GG) (@GH)))))):=a8 (@uj) (@G5) (@jg) (@jj) (@jq) (@jt) (@jp) (a8 (@Wp) (@yq) (@Wn) (@vh) (@XQ) (@Xo) (@ZA) (a8 (@Zz) (@w9) (@Zy) (@Zs) (@Zx) (@vf) (@Zr) (a4 (@YY) (@YZ) (@ZK) (a4 (@ZJ) (@Hl) (@GG) (@GH)))))
theorem rzN:type_of% (a8 (@jg) (@jj) (@jq) (@jt) (@jp) (@yq) (@uj) (a4 (@Vf) (@jbr) (@jbt) (aI (@jbs) (aI (@Ze) (@jjb))))):=a8 (@jg) (@jj) (@jq) (@jt) (@jp) (@yq) (@uj) (a4 (@Vf) (@jbr) (@jbt) (aI (@jbs) (aI (@Ze) (@jjb))))
theorem rzG:type_of% (a8 (@uj) (@G5) (@ZA) (@Zz) (@w9) (@Zy) (@Zs) (a8 (@Zx) (@vf) (@Hl) (@GG) (@GH) (@Gq) (@v7) (a8 (@kI) (@Gn) (@Gp) (@Z9) (@jbB) (@jg) (@jj) (a8 (@jq) (@jt) (@Wn) (@jp) (@Wp) (@yq) (@vh) (a8 (@XQ) (@Xo) (@YU) (@uK) (@uG) (@wX) (@ZX) (a8 (@wW) (@uI) (@uJ) (@jcU) (@jcQ) (@jac) (@gK) (a8 (@jab) (@jcR) (@jcT) (@jcS) (@HK) (@HH) (@gi) (a8 (@kQ) (@gh) (@HI) (@HJ) (@HM) (@gb) (@UX) (a4 (@YZ) (@ZK) (@YY) (@ZJ)))))))))):=a8 (@uj) (@G5) (@ZA) (@Zz) (@w9) (@Zy) (@Zs) (a8 (@Zx) (@vf) (@Hl) (@GG) (@GH) (@Gq) (@v7) (a8 (@kI) (@Gn) (@Gp) (@Z9) (@jbB) (@jg) (@jj) (a8 (@jq) (@jt) (@Wn) (@jp) (@Wp) (@yq) (@vh) (a8 (@XQ) (@Xo) (@YU) (@uK) (@uG) (@wX) (@ZX) (a8 (@wW) (@uI) (@uJ) (@jcU) (@jcQ) (@jac) (@gK) (a8 (@jab) (@jcR) (@jcT) (@jcS) (@HK) (@HH) (@gi) (a8 (@kQ) (@gh) (@HI) (@HJ) (@HM) (@gb) (@UX) (a4 (@YZ) (@ZK) (@YY) (@ZJ)))))))))
theorem rzP:type_of% (a8 (@Qam) (@Qbt) (@QaI) (@QaU) (@Qbx) (@Qcj) (@Int.toNat_zero) (a8 (@Int.toNat_one) (@true_and) (@and_true) (@and_self) (@Bool.not_true) (@Bool.not_false) (@QaV) (a4 (@QaR) (@decide_eq_true_eq) (@decide_eq_false_iff_not) (aI (@Nat.beq_eq) (@not_false_eq_true))))):=a8 (@Qam) (@Qbt) (@QaI) (@QaU) (@Qbx) (@Qcj) (@Int.toNat_zero) (a8 (@Int.toNat_one) (@true_and) (@and_true) (@and_self) (@Bool.not_true) (@Bool.not_false) (@QaV) (a4 (@QaR) (@decide_eq_true_eq) (@decide_eq_false_iff_not) (aI (@Nat.beq_eq) (@not_false_eq_true))))
theorem rzQ:type_of% (a8 (@eq_self.{1}) (@ν.{0}) (@ξ.{0}) (@φ.{0}) (@ω.{0}) (@Qaj.{0}) (@Qan.{0}) (a4 (@QaT.{0}) (@cond_true.{1}) (@cond_false.{1}) (@ne_eq.{1}))):=a8 (@eq_self.{1}) (@ν.{0}) (@ξ.{0}) (@φ.{0}) (@ω.{0}) (@Qaj.{0}) (@Qan.{0}) (a4 (@QaT.{0}) (@cond_true.{1}) (@cond_false.{1}) (@ne_eq.{1}))
theorem rzZ:type_of% (a4 (@rzA) (@rzB) (@rzC) (aI (@rzD) (aI (@rzP) (@rzQ)))):=a4 (@rzA) (@rzB) (@rzC) (aI (@rzD) (aI (@rzP) (@rzQ)))
instance iA (n:Nat):OfNat A n:=⟨.t n⟩
theorem nA (n:Nat):(@OfNat.ofNat A n (iA n))=A.t (@OfNat.ofNat Nat n _):=rfl
def oe(a:Nat)(b:Bool)(c:Option (Nat×Bool))(d:XK):XS:=⟨some a,b,c,d⟩
def oi(a:Nat)(b:Bool)(c:Option (Nat×Bool))(d:Ins):XS:=oe a b c (.i d)
def oj(a:Nat)(b:Bool)(c:Ins):XS:=oi a b none c
def ol(a:Nat)(b:Ins):XS:=oj a false b
def ou(a:Int):AV:=.int .i64 a
def ov(a:List XS)(b:XC):XC:=.seq (.ops a) b
def ow(a:Nat)(b:Ins):XS:=oj a true b
def oy(a:Nat)(b:A):XS:=ow a (.mv b)
def oz(a:Nat)(b:A):XS:=ol a (.mv b)
def oB:AV:=ou 0
def oD(a:Nat)(b:Bool)(c:Nat×Bool)(d:Ins):XS:=oi a b (some c) d
def oE(a:Nat)(b:Nat×Bool)(c:Ins):XS:=oD a false b c
def oF(a:Nat)(b:Nat)(c:A):XS:=ol a (.fad b c)
def oG(a:Bool):A:=.c (.bool a)
def oH(a:Nat)(b:Bool)(c:Option (Nat×Bool))(d:A)(e:List A):XS:=oe a b c (.call d e)
def oI(a:Nat)(b:A):XS:=ol a (.ld1 b)
def oJ(a:BinOp)(b:A)(c:AV):Ins:=.bin a b (.c c)
def oK:AV:=.str []
def oL(a:List XS)(b:A)(c:XC)(d:XC):XC:=ov a (.cond b c d)
def oM(a:XS)(b:Nat)(c:List (Nat×Nat)):XD:=⟨a,none,b,c⟩
def oQ(a:Option Nat)(b:Option (Nat×Bool))(c:XK):XS:=⟨a,false,b,c⟩
def oR(a:Nat)(b:List AV):A:=.c (.fn a b)
def oS(a:XS)(b:Option A)(c:Nat)(d:List (Nat×Nat)):XD:=⟨a,some b,c,d⟩
def oU(a:Nat)(b:Option (Nat×Bool))(c:A)(d:List A):XS:=oH a false b c d
def oV(a:Nat)(b:Nat)(c:A):XS:=ol a (.ldA b c)
def oW(a:Nat)(b:A)(c:A):XK:=.i (.st a b c)
def oX:A:=oG false
def oY(a:List XS)(b:XC)(c:XC):XC:=ov a (.seq b c)
def oZ(a:Nat)(b:Option (Nat×Bool))(c:Nat)(d:List AV)(e:List A):XS:=oU a b (oR c d) e
def o0(a:BinOp)(b:A)(c:Int):Ins:=oJ a b (ou c)
def o3(a:Option (Nat×Bool))(b:XK):XS:=oQ none a b
def o4(a:XK):XS:=o3 none a
def o5(a:List XS):XC:=ov a .ret
def o6(a:Nat)(b:A)(c:A):XS:=o4 (oW a b c)
def o7(a:Nat)(b:Nat)(c:List AV)(d:List A):XS:=oZ a none b c d
def o8(a:List Nat):A:=.c (.str a)
def o9(a:Nat)(b:List AV):XS:=ow a (.alloc b)
def Ia(a:XS)(b:Nat):XD:=oM a b []
def Ib(a:Nat)(b:AV):XS:=oy a (.c b)
def Ic(a:Nat)(b:BinOp)(c:A)(d:Int):XS:=ol a (o0 b c d)
def Id(a:List XS)(b:A)(c:XC):XC:=oL a b c .skip
def Ie(a:Nat)(b:XC):XC:=.block a (.loop b)
def If(a:Nat)(b:Nat)(c:Bool)(d:Ins):XS:=oE a (b,c) d
def Ig(a:Nat)(b:Nat)(c:Ins):XS:=If a b false c
def Ih(a:Nat)(b:Nat)(c:Ins):XS:=If a b true c
def Ii:A:=oG true
def Ij(a:Nat)(b:A)(c:Nat):XS:=ol a (.ext b c)
def Ik(a:XS)(b:A)(c:Nat)(d:List (Nat×Nat)):XD:=oS a (some b) c d
def Il(a:Nat)(b:Nat)(c:A)(d:A):XS:=ol a (.idxS b c d)
def Im(a:Nat)(b:XC)(c:XC):XC:=.seq (.block a b) c
def Io(a:XD):XD×(Option (List XD)):=(a,none)
def Ip(a:XS)(b:Nat):XD×(Option (List XD)):=Io (Ia a b)
def Iq(a:Nat)(b:Nat)(c:List A):XS:=o7 a b [] c
def Ir:AV:=.tup []
def Is(a:Nat)(b:A)(c:A)(d:A):XS:=ol a (.pick b c d)
def Iu(a:Nat)(b:Nat)(c:Nat)(d:List AV)(e:List ((Nat×Nat)×A)):XS:=ol a (.buildS b c d e)
def Iv(a:A)(b:XC)(c:Nat):XC:=.cond a b (.exit c)
def Iw(a:Nat)(b:List AV)(c:List ((Nat×Nat)×A)):XS:=ol a (.build b c)
def Ix(a:Nat)(b:BinOp)(c:A)(d:A):XS:=ow a (.bin b c d)
def Iy(a:XS)(b:Nat)(c:List (Nat×Nat)):XD:=oS a none b c
def Iz(a:List XS)(b:A)(c:List XS):XC:=Id a b (o5 c)
def IA(a:Nat)(b:XC)(c:List XS):XC:=Im a b (.ops c)
def IB(a:A):Ins:=.un .not a
def ID(a:XS)(b:A)(c:Nat)(d:List (Nat×Nat)):XD×(Option (List XD)):=Io (Ik a b c d)
def IE(a:Nat)(b:A):XS:=ow a (.box b)
def IG(a:XS):XS×(Option (List XD)):=(a,none)
def IH(a:Nat)(b:BinOp)(c:A)(d:A):XS:=ol a (.strb b c d)
def II(a:Nat)(b:Nat)(c:A):XS:=Ig a b (.mv c)
def IJ:A:=.c Ir
def IK(a:Nat)(b:A)(c:Nat):XD:=Ia (oz a b) c
def IM(a:XS)(b:Nat)(c:A):List XS:=[a,oy b c]
def IO(a:Nat)(b:BinOp)(c:A)(d:Int)(e:Nat)(f:A):List XS:=IM (Ic a b c d) e f
def IP(a:XS):XD×(Option (List XD)):=Ip a 0
def IQ(a:Nat)(b:A):XS:=ow a (.len b)
def IR(a:Nat)(b:A):XS:=ol a (.nilc b)
def IT(a:Int):A:=.c (ou a)
def IU(a:A)(b:Nat):XC:=Iv a .skip b
def IV(a:List XS)(b:Nat)(c:XC):XC:=ov a (Ie b c)
def IW(a:Nat)(b:A)(c:Int)(d:Nat)(e:A):List XS:=IO a .eql b c d e
def IX(a:Nat)(b:BinOp)(c:A)(d:A):XS:=ol a (.bin b c d)
def IY(a:Nat)(b:Nat)(c:A):XD×(Option (List XD)):=IP (oF a b c)
def IZ(a:Nat):XS:=oz a 0
def I0(a:Nat)(b:Nat)(c:A):XS:=Ih a b (.mv c)
def I3(a:Nat):XS:=Ib a oB
def I4(a:XS)(b:Nat)(c:List (Nat×Nat)):XD×(Option (List XD)):=Io (Iy a b c)
def I5(a:Nat)(b:A):XS:=ol a (.len b)
def I6(a:Nat)(b:A)(c:A):XS:=Ix a .lss b c
def I7(a:Nat)(b:A)(c:A)(d:A):XS:=ow a (.pick b c d)
def I8(a:Nat)(b:A)(c:Int)(d:Nat)(e:A):List XS:=IO a .add b c d e
def I9(a:Nat)(b:XC)(c:Nat)(d:A)(e:Int)(f:Nat)(g:A):XC:=IA a b (I8 c d e f g)
def Oa(a:List XS)(b:A)(c:Nat)(d:XC):XC:=oY a (IU b c) d
def Ob(a:List XS)(b:A)(c:Nat)(d:Nat)(e:XC)(f:Nat)(g:A)(h:Int)(i:Nat)(j:A):XC:=Oa a b c (I9 d e f g h i j)
def Oe(a:List XS)(b:Nat)(c:List XS)(d:A)(e:Nat)(f:Nat)(g:XC)(h:Nat)(i:A)(j:Int)(k:Nat)(l:A):XC:=IV a b (Ob c d e f g h i j k l)
def Og(a:List XS)(b:List XS)(c:A)(d:List XS)(e:XC):XC:=oY a (Iz b c d) e
def Oh(a:Nat)(b:A)(c:A)(d:Nat)(e:List (Nat×Nat)):XD×(Option (List XD)):=I4 (o6 a b c) d e
def Oi(a:Nat)(b:A):XS:=ow a (.ld1 b)
def Oj(a:Nat)(b:A)(c:Int)(d:Nat)(e:A)(f:A)(g:XC)(h:XC):XC:=oL (IW a b c d e) f g h
def Ok(a:Nat)(b:Nat×Bool)(c:Nat)(d:List AV)(e:List A):XS:=oZ a (some b) c d e
def Ol(a:Nat)(b:Nat):XD:=IK a IJ b
def Om(a:Nat):XS:=oy a oX
def On(a:Nat)(b:A)(c:A)(d:Nat)(e:List (Nat×Nat)):XD×(Option (List XD)):=ID (oI a b) c d e
def Oo(a:List XS)(b:Nat)(c:List XS)(d:A)(e:Nat)(f:Nat)(g:List XS)(h:XC)(i:Nat)(j:A)(k:Int)(l:Nat)(m:A):XC:=Oe a b c d e f (ov g h) i j k l m
def Oq(a:Nat)(b:Nat)(c:Nat)(d:A):XS:=Ig a b (.fad c d)
def Or(a:Nat)(b:Nat)(c:Nat)(d:A)(e:A):XS:=ol a (.app b c d e)
def Os(a:List (XD×(Option (List XD))))(b:XC):XC:=.seq (.dops a) b
def Ot(a:Nat×Nat)(b:List Nat):(Nat×Nat)×A:=(a,o8 b)
def Ou(a:Nat)(b:Nat)(c:List Nat):(Nat×Nat)×A:=Ot (a,b) c
def Ov(a:Nat)(b:List Nat):(Nat×Nat)×A:=Ou a 1 b
def Ow(a:Nat)(b:Nat)(c:A):XS:=Ig a b (.ld1 c)
def Ox(a:Nat)(b:Nat)(c:A):XS:=Ih a b (.ld1 c)
def Oy(a:Nat)(b:Nat)(c:A):XS:=Iq a b [c]
def Oz(a:Nat)(b:Nat)(c:Nat)(d:A):XS:=Ih a b (.fad c d)
def OA(a:List XS)(b:A)(c:List XS):XC:=Id a b (.ops c)
def OB(a:Nat)(b:Nat)(c:A)(d:A):XS:=Iq a b [c,d]
def OC(a:AV)(b:AV)(c:AV)(d:AV)(e:AV):List AV:=[a,b,c,.nils,d,e]
def OE(a:AV)(b:AV)(c:AV)(d:AV):List AV:=OC oB a b c d
def OG(a:AV)(b:AV)(c:AV):List AV:=OE oB a b c
def OH(a:AV)(b:AV):List AV:=OG oK a b
def OI(a:AV):List AV:=OH oB a
def OJ:List AV:=OI oB
def OK:Option (List XD):=some []
def OL(a:List XS)(b:List XS):XC:=ov a (o5 b)
def OM(a:Nat)(b:Nat)(c:Nat)(d:A)(e:A):XS:=ol a (.idxA b c d e)
def ON:A:=.c oB
def OO(a:Nat)(b:Nat)(c:A)(d:A)(e:Nat)(f:List (Nat×Nat)):XD×(Option (List XD)):=ID (oV a b c) d e f
def OP(a:Nat)(b:A):XS:=oF a 0 b
def OQ(a:Nat):XD:=Ol a 0
def OS(a:Nat)(b:A):XS×(Option (List XD)):=IG (oI a b)
def OT(a:Nat)(b:A)(c:A):XS:=IH a .add b c
def OU(a:Nat)(b:Nat):(Nat×Nat)×A:=Ov a [b]
def OV(a:List XS)(b:XC)(c:List XS):XC:=oY a b (o5 c)
def OW(a:Nat)(b:A):XS:=ow a (IB b)
def OY(a:XC)(b:List XS):XC:=.seq a (o5 b)
def OZ(a:Nat):XS:=oz a 1
def O0(a:Nat)(b:Int):XS:=Ib a (ou b)
def O1(a:Nat)(b:Nat)(c:Nat)(d:A):XS:=Ig a b (.ldA c d)
def O4(a:Nat)(b:BinOp)(c:A)(d:Int):XS:=ow a (o0 b c d)
def O5(a:List XS)(b:A)(c:XC):XC:=oL a b .skip c
def O6(a:Nat):XS:=Ib a .nils
def O7(a:Nat)(b:Nat)(c:BinOp)(d:A)(e:Int):XS:=Ig a b (o0 c d e)
def O8(a:BinOp)(b:A):Ins:=oJ a b oB
def O9(a:List XS)(b:List XS)(c:XC):XC:=ov a (ov b c)
def Ta(a:Nat)(b:A):XS:=oV a 6 b
def Tb(a:Nat):XS:=oy a Ii
def Tc(a:Nat)(b:A)(c:A):XS:=Is a b c oX
def Td(a:Nat)(b:A)(c:A):XS:=Is a b Ii c
def Te(a:Nat)(b:Nat)(c:BinOp)(d:A)(e:Int):XS:=Ih a b (o0 c d e)
def Tf(a:Nat)(b:A)(c:Int)(d:Nat)(e:A)(f:A)(g:List XS)(h:XC):XC:=Oj a b c d e f (o5 g) h
def Tg(a:Nat)(b:A)(c:Nat)(d:A):List XS:=IM (oz a b) c d
def Th:A:=IT 1
def Ti(a:Nat):List XS:=[Om a]
def Tj(a:A)(b:List XS)(c:XC):XC:=.cond a (o5 b) c
def Tl:AV:=.bool false
def Tm(a:Nat)(b:A):XS:=oF a 3 b
def Tn(a:Nat)(b:Nat×Bool)(c:Nat)(d:List A):XS:=Ok a b c [] d
def To(a:Nat)(b:A)(c:A):List XS:=[I6 a b c]
def Tp(a:List XS)(b:Nat)(c:Nat)(d:A)(e:A)(f:A)(g:Nat)(h:Nat)(i:List XS)(j:XC)(k:Nat)(l:A)(m:Int)(n:Nat)(p:A):XC:=Oo a b (To c d e) f g h i j k l m n p
def Tq(a:A):XS:=oy 2 a
def Tr(a:Nat)(b:A):XD×(Option (List XD)):=IP (oz a b)
def Ts(a:Nat)(b:A)(c:A):XS:=IH a .eql b c
def Tt(a:Nat)(b:A)(c:A)(d:Nat):XD×(Option (List XD)):=On a b c d []
def Tu(a:Nat)(b:A)(c:Int)(d:Nat)(e:A)(f:A)(g:XC):XC:=Oj a b c d e f .skip g
def Tv:List XS:=Ti 4
def Tw(a:Nat)(b:A):XS:=oF a 1 b
def Tx(a:Nat)(b:A):XS:=Ij a b 0
def Ty(a:Nat)(b:A):XS:=Ij a b 1
def Tz(a:Nat)(b:A)(c:A)(d:List (Nat×Nat)):XD×(Option (List XD)):=Oh a b c 0 d
def TA(a:Nat):XS:=o9 a OJ
def TB(a:Nat)(b:A)(c:Int):XS:=Ic a .add b c
def TC(a:Nat)(b:A):XS×(Option (List XD)):=IG (oz a b)
def TF(a:Int):AV:=.int .u8 a
def TG(a:Nat)(b:List AV)(c:List ((Nat×Nat)×A)):XD×(Option (List XD)):=IP (Iw a b c)
def TH(a:XS)(b:Nat):List XS:=IM a b oX
def TI(a:Nat)(b:Nat)(c:List AV)(d:List ((Nat×Nat)×A)):XS:=Iu a b 1 c d
def TJ(a:Nat)(b:Nat)(c:AV)(d:List ((Nat×Nat)×A)):XS:=TI a b [c] d
def TK(a:A):Ins:=O8 .eql a
def TM(a:A):XS:=oy 4 a
def TN(a:Nat)(b:A):XS:=ol a (IB b)
def TO(a:List (XS×(Option (List XD))))(b:XC):XC:=.seq (.cops a) b
def TQ(a:BinOp)(b:Nat)(c:A)(d:A):Ins:=.gen a b false c d
def TR(a:Nat)(b:Nat)(c:A):XS:=Ig a b (.len c)
def TS(a:Nat)(b:Nat)(c:A)(d:Nat)(e:List (Nat×Nat)):XD:=Iy (Oy a b c) d e
def TT(a:Nat)(b:Nat)(c:A):XS:=Ig a b (IB c)
def TU(a:Nat):XS:=IE a 0
def TV(a:Nat)(b:A)(c:A):XD×(Option (List XD)):=Tz a b c []
def TW(a:A)(b:A):XS:=o6 6 a b
def TZ(a:Nat):XS:=oz a 4
def T0(a:Nat):XS:=oz a 6
def T1(a:Nat)(b:A):XS:=oV a 3 b
def T4(a:Nat)(b:Nat):List XS:=TH (TU a) b
def T5(a:Nat)(b:Option (Nat×Bool))(c:A)(d:List A):XS:=oH a true b c d
def T6(a:Nat)(b:A)(c:List A):XS:=T5 a none b c
def T7(a:Nat)(b:A)(c:List Nat):XS:=Ts a b (o8 c)
def T8(a:List XS)(b:Nat)(c:Nat)(d:A)(e:A)(f:A)(g:Nat)(h:Nat)(i:List XS)(j:XC)(k:Nat)(l:A)(m:Nat)(n:A):XC:=Tp a b c d e f g h i j k l 1 m n
def T9(a:List XS)(b:Nat)(c:XC):XC:=ov a (.block b c)
def La(a:Nat)(b:Nat)(c:A)(d:A)(e:Nat):XD×(Option (List XD)):=OO a b c d e []
def Lb(a:List XS)(b:A)(c:List XS)(d:XC):XC:=.seq (Iz a b c) d
def Lc(a:Nat):XS×(Option (List XD)):=IG (IZ a)
def Ld(a:Nat):XS:=oz a 5
def Lf(a:Nat)(b:A)(c:A):XS:=I7 a b Ii c
def Lg(a:Nat)(b:A):XS:=oF a 2 b
def Lh(a:Nat):Nat×Bool:=(a,false)
def Li(a:Nat)(b:Nat)(c:Nat)(d:List A):XS:=Tn a (Lh b) c d
def Lj(a:List (XD×(Option (List XD)))):XC:=Os a .ret
def Lk(a:Nat)(b:A)(c:A):XS:=Il a 1 b c
def Ll:List XS:=Ti 2
def Lm(a:Nat)(b:Nat)(c:A)(d:A)(e:A):XS:=Ig a b (.pick c d e)
def Ln(a:Nat)(b:Nat)(c:List ((Nat×Nat)×A)):XS:=TJ a b .nils c
def Lp(a:Nat)(b:A)(c:List Nat)(d:Nat)(e:A):List XS:=IM (T7 a b c) d e
theorem qq:type_of% (a8 @nA @oe.eq_1 @oi.eq_1 @oj.eq_1 @ol.eq_1 @ou.eq_1 @ov.eq_1 (a8 @ow.eq_1 @oy.eq_1 @oz.eq_1 @oB.eq_1 @oD.eq_1 @oE.eq_1 @oF.eq_1 (a8 @oG.eq_1 @oH.eq_1 @oI.eq_1 @oJ.eq_1 @oK.eq_1 @oL.eq_1 @oM.eq_1 (a8 @oQ.eq_1 @oR.eq_1 @oS.eq_1 @oU.eq_1 @oV.eq_1 @oW.eq_1 @oX.eq_1 (a8 @oY.eq_1 @oZ.eq_1 @o0.eq_1 @o3.eq_1 @o4.eq_1 @o5.eq_1 @o6.eq_1 (a8 @o7.eq_1 @o8.eq_1 @o9.eq_1 @Ia.eq_1 @Ib.eq_1 @Ic.eq_1 @Id.eq_1 (a8 @Ie.eq_1 @If.eq_1 @Ig.eq_1 @Ih.eq_1 @Ii.eq_1 @Ij.eq_1 @Ik.eq_1 (a8 @Il.eq_1 @Im.eq_1 @Io.eq_1 @Ip.eq_1 @Iq.eq_1 @Ir.eq_1 @Is.eq_1 (a8 @Iu.eq_1 @Iv.eq_1 @Iw.eq_1 @Ix.eq_1 @Iy.eq_1 @Iz.eq_1 @IA.eq_1 (a8 @IB.eq_1 @ID.eq_1 @IE.eq_1 @IG.eq_1 @IH.eq_1 @II.eq_1 @IJ.eq_1 (a8 @IK.eq_1 @IM.eq_1 @IO.eq_1 @IP.eq_1 @IQ.eq_1 @IR.eq_1 @IT.eq_1 (a8 @IU.eq_1 @IV.eq_1 @IW.eq_1 @IX.eq_1 @IY.eq_1 @IZ.eq_1 @I0.eq_1 (a8 @I3.eq_1 @I4.eq_1 @I5.eq_1 @I6.eq_1 @I7.eq_1 @I8.eq_1 @I9.eq_1 (a8 @Oa.eq_1 @Ob.eq_1 @Oe.eq_1 @Og.eq_1 @Oh.eq_1 @Oi.eq_1 @Oj.eq_1 (a8 @Ok.eq_1 @Ol.eq_1 @Om.eq_1 @On.eq_1 @Oo.eq_1 @Oq.eq_1 @Or.eq_1 (a8 @Os.eq_1 @Ot.eq_1 @Ou.eq_1 @Ov.eq_1 @Ow.eq_1 @Ox.eq_1 @Oy.eq_1 (a8 @Oz.eq_1 @OA.eq_1 @OB.eq_1 @OC.eq_1 @OE.eq_1 @OG.eq_1 @OH.eq_1 (a8 @OI.eq_1 @OJ.eq_1 @OK.eq_1 @OL.eq_1 @OM.eq_1 @ON.eq_1 @OO.eq_1 (a8 @OP.eq_1 @OQ.eq_1 @OS.eq_1 @OT.eq_1 @OU.eq_1 @OV.eq_1 @OW.eq_1 (a8 @OY.eq_1 @OZ.eq_1 @O0.eq_1 @O1.eq_1 @O4.eq_1 @O5.eq_1 @O6.eq_1 (a8 @O7.eq_1 @O8.eq_1 @O9.eq_1 @Ta.eq_1 @Tb.eq_1 @Tc.eq_1 @Td.eq_1 (a8 @Te.eq_1 @Tf.eq_1 @Tg.eq_1 @Th.eq_1 @Ti.eq_1 @Tj.eq_1 @Tl.eq_1 (a8 @Tm.eq_1 @Tn.eq_1 @To.eq_1 @Tp.eq_1 @Tq.eq_1 @Tr.eq_1 @Ts.eq_1 (a8 @Tt.eq_1 @Tu.eq_1 @Tv.eq_1 @Tw.eq_1 @Tx.eq_1 @Ty.eq_1 @Tz.eq_1 (a8 @TA.eq_1 @TB.eq_1 @TC.eq_1 @TF.eq_1 @TG.eq_1 @TH.eq_1 @TI.eq_1 (a8 @TJ.eq_1 @TK.eq_1 @TM.eq_1 @TN.eq_1 @TO.eq_1 @TQ.eq_1 @TR.eq_1 (a8 @TS.eq_1 @TT.eq_1 @TU.eq_1 @TV.eq_1 @TW.eq_1 @TZ.eq_1 @T0.eq_1 (a8 @T1.eq_1 @T4.eq_1 @T5.eq_1 @T6.eq_1 @T7.eq_1 @T8.eq_1 @T9.eq_1 (a8 @La.eq_1 @Lb.eq_1 @Lc.eq_1 @Ld.eq_1 @Lf.eq_1 @Lg.eq_1 @Lh.eq_1 (a4 @Li.eq_1 @Lj.eq_1 @Lk.eq_1 (a4 @Ll.eq_1 @Lm.eq_1 @Ln.eq_1 @Lp.eq_1))))))))))))))))))))))))))))))):=a8 @nA @oe.eq_1 @oi.eq_1 @oj.eq_1 @ol.eq_1 @ou.eq_1 @ov.eq_1 (a8 @ow.eq_1 @oy.eq_1 @oz.eq_1 @oB.eq_1 @oD.eq_1 @oE.eq_1 @oF.eq_1 (a8 @oG.eq_1 @oH.eq_1 @oI.eq_1 @oJ.eq_1 @oK.eq_1 @oL.eq_1 @oM.eq_1 (a8 @oQ.eq_1 @oR.eq_1 @oS.eq_1 @oU.eq_1 @oV.eq_1 @oW.eq_1 @oX.eq_1 (a8 @oY.eq_1 @oZ.eq_1 @o0.eq_1 @o3.eq_1 @o4.eq_1 @o5.eq_1 @o6.eq_1 (a8 @o7.eq_1 @o8.eq_1 @o9.eq_1 @Ia.eq_1 @Ib.eq_1 @Ic.eq_1 @Id.eq_1 (a8 @Ie.eq_1 @If.eq_1 @Ig.eq_1 @Ih.eq_1 @Ii.eq_1 @Ij.eq_1 @Ik.eq_1 (a8 @Il.eq_1 @Im.eq_1 @Io.eq_1 @Ip.eq_1 @Iq.eq_1 @Ir.eq_1 @Is.eq_1 (a8 @Iu.eq_1 @Iv.eq_1 @Iw.eq_1 @Ix.eq_1 @Iy.eq_1 @Iz.eq_1 @IA.eq_1 (a8 @IB.eq_1 @ID.eq_1 @IE.eq_1 @IG.eq_1 @IH.eq_1 @II.eq_1 @IJ.eq_1 (a8 @IK.eq_1 @IM.eq_1 @IO.eq_1 @IP.eq_1 @IQ.eq_1 @IR.eq_1 @IT.eq_1 (a8 @IU.eq_1 @IV.eq_1 @IW.eq_1 @IX.eq_1 @IY.eq_1 @IZ.eq_1 @I0.eq_1 (a8 @I3.eq_1 @I4.eq_1 @I5.eq_1 @I6.eq_1 @I7.eq_1 @I8.eq_1 @I9.eq_1 (a8 @Oa.eq_1 @Ob.eq_1 @Oe.eq_1 @Og.eq_1 @Oh.eq_1 @Oi.eq_1 @Oj.eq_1 (a8 @Ok.eq_1 @Ol.eq_1 @Om.eq_1 @On.eq_1 @Oo.eq_1 @Oq.eq_1 @Or.eq_1 (a8 @Os.eq_1 @Ot.eq_1 @Ou.eq_1 @Ov.eq_1 @Ow.eq_1 @Ox.eq_1 @Oy.eq_1 (a8 @Oz.eq_1 @OA.eq_1 @OB.eq_1 @OC.eq_1 @OE.eq_1 @OG.eq_1 @OH.eq_1 (a8 @OI.eq_1 @OJ.eq_1 @OK.eq_1 @OL.eq_1 @OM.eq_1 @ON.eq_1 @OO.eq_1 (a8 @OP.eq_1 @OQ.eq_1 @OS.eq_1 @OT.eq_1 @OU.eq_1 @OV.eq_1 @OW.eq_1 (a8 @OY.eq_1 @OZ.eq_1 @O0.eq_1 @O1.eq_1 @O4.eq_1 @O5.eq_1 @O6.eq_1 (a8 @O7.eq_1 @O8.eq_1 @O9.eq_1 @Ta.eq_1 @Tb.eq_1 @Tc.eq_1 @Td.eq_1 (a8 @Te.eq_1 @Tf.eq_1 @Tg.eq_1 @Th.eq_1 @Ti.eq_1 @Tj.eq_1 @Tl.eq_1 (a8 @Tm.eq_1 @Tn.eq_1 @To.eq_1 @Tp.eq_1 @Tq.eq_1 @Tr.eq_1 @Ts.eq_1 (a8 @Tt.eq_1 @Tu.eq_1 @Tv.eq_1 @Tw.eq_1 @Tx.eq_1 @Ty.eq_1 @Tz.eq_1 (a8 @TA.eq_1 @TB.eq_1 @TC.eq_1 @TF.eq_1 @TG.eq_1 @TH.eq_1 @TI.eq_1 (a8 @TJ.eq_1 @TK.eq_1 @TM.eq_1 @TN.eq_1 @TO.eq_1 @TQ.eq_1 @TR.eq_1 (a8 @TS.eq_1 @TT.eq_1 @TU.eq_1 @TV.eq_1 @TW.eq_1 @TZ.eq_1 @T0.eq_1 (a8 @T1.eq_1 @T4.eq_1 @T5.eq_1 @T6.eq_1 @T7.eq_1 @T8.eq_1 @T9.eq_1 (a8 @La.eq_1 @Lb.eq_1 @Lc.eq_1 @Ld.eq_1 @Lf.eq_1 @Lg.eq_1 @Lh.eq_1 (a4 @Li.eq_1 @Lj.eq_1 @Lk.eq_1 (a4 @Ll.eq_1 @Lm.eq_1 @Ln.eq_1 @Lp.eq_1))))))))))))))))))))))))))))))
theorem dzA {p:Prop}(h:p:=by first|assumption|decide|omega|(simp only[rzN,φ,ω];first|done|omega)|(apply Ql<;>first|omega|((simp(disch:=first|assumption|omega|(simp only[rzN,φ,ω];first|done|omega)) only[rzL,φ,ω,Qam,δ ])<;>first|done|omega))|(simp(disch:=first|assumption|omega|(simp only[rzN,φ,ω];first|done|omega)) only[rzG,ν,ξ,ε,QaN,φ,ω,Qaj,Qan];first|done|omega|decide)):p:=h
theorem vT {p:Prop}(h:p:=by first|assumption|decide|omega|(simp only[zz,rzN,φ,ω];first|done|omega)|(apply Ql<;>first|omega|((simp(disch:=first|assumption|omega|(simp only[zz,rzN,φ,ω];first|done|omega)) only[rzL,φ,ω,Qam,δ,zz ])<;>first|done|omega))|(simp(disch:=first|assumption|omega|(simp only[zz,rzN,φ,ω];first|done|omega)) only[zz,rzG,ν,ξ,ε,QaN,φ,ω,Qaj,Qan];first|done|omega|decide)):p:=h
end Go.Sy
end
noncomputable section
namespace Go.Sy
open Go.Ev Go.Proofs
def jf7 (f:FuncId):Nat:=if f∈[52,11,12,54,78,35,34,55,53,64,37,15,74,104,105,77,56,57,58,59,39,40,87,79,81,80,60,101,102,76,94,91,95,96,18,38,14,108,109,110,111,124,113,114,115,116,118,119,106,82,129,130,132,133,134,41,139,144,147,148,149,153,164,165,167,168,93,99,126,10,13,19,20,22,23,24,28,29,30,31,33,42,43,44,48,50,61,47,51] then 1
 else if f∈[66,72,73,86,88,89,90,100,120,121,122,123,128,145,146,84,85,112] then 3 else if f∈[36,97,131,125,92,127,98,152,46,63,25,32,16,17,26] then 5 else if f∈[103,75,45,27] then 2 else 0
def W3 (f:FuncId):Bool:=!(Qcw f 9) && !(Qcw f 117) && !(Qcw f 49) && !(Qcw f 44)
structure NB (base:Bs):Prop where
 nob:∀ f,W3 f=true->∀ args st,base.run f args st=.no
 purE:base.pur=jf7
theorem NB.pur {base:Bs}(h:NB base)(f m:Nat)(e:jf7 f=m):base.pur f=m:=by rw[h.purE];exact e
theorem NB.no {base:Bs}(h:NB base)(f:FuncId)(e:W3 f=true)(args:List AV)(st:St):base.run f args st=.no:=h.nob f e args st
theorem NB.at0 {base:Bs}(h:NB base)(f:FuncId)(e:W3 f=true)(e2:jf7 f=0)(args:List AV)(st:St):base.at0 f args st:=⟨h.nob f e args st,h.pur f 0 e2⟩
abbrev Ret (base:Bs)(f:FuncId)(xs:List AV)(o:Oc):Prop:=∀ st K Kp,XB γ base f xs st K Kp=YG o K Kp st
abbrev Tot (base:Bs)(f:FuncId)(xs:List AV)(v:AV):Prop:=∀ st K Kp,XB γ base f xs st K Kp=K v st
theorem NB.tot {base:Bs}(hb:NB base){f:FuncId}{xs:List AV}{v:AV}(h:PX γ base f xs (.ok v))(hp:xs.all pa=true)(e:W3 f=true):Tot base f xs v:=λst K Kp=>h.xb hp (hb.no f e _) st K Kp
theorem NB.ret {base:Bs}(hb:NB base){f:FuncId}{xs:List AV}{o:Oc}(h:PX γ base f xs o)(hp:xs.all pa=true)(e:W3 f=true):Ret base f xs o:=λst K Kp=>h.xb hp (hb.no f e _) st K Kp
inductive Ex where
 |mk (op num:Int) (name:List Nat) (kids:List Ex) (line col:Int)
def Ex.op:Ex->Int | .mk o _ _ _ _ _=>o
def Ex.num:Ex->Int | .mk _ n _ _ _ _=>n
def Ex.name:Ex->List Nat | .mk _ _ n _ _ _=>n
def Ex.kids:Ex->List Ex | .mk _ _ _ k _ _=>k
def Ex.line:Ex->Int | .mk _ _ _ _ l _=>l
def Ex.col:Ex->Int | .mk _ _ _ _ _ c=>c
theorem Ex.ind {p:Ex->Prop}(h:∀ op num name kids l c,(∀ k∈kids,p k)->p (.mk op num name kids l c)):∀ x,p x
 |.mk op num name kids l c=>h op num name kids l c (inds h kids)
where inds {p:Ex->Prop} (h:∀ op num name kids l c,(∀ k∈kids,p k)->p (.mk op num name kids l c)):∀ (xs:List Ex),∀ k∈xs,p k
 |[],k,hk=>by cases hk
 |x :: xs,k,hk=>by
  rcases QaS.1 hk with e|e
  ·exact e▸Ex.ind h x
  ·exact inds h xs k e
theorem Ex.indk {p:Ex->Prop}(h:∀ x:Ex,(∀ k∈x.kids,p k)->p x):∀ x,p x:=Ex.ind λop num name ks l c ih=>h (.mk op num name ks l c) ih
mutual
def eE:Ex->List AV
 |.mk op num name kids l c=>[.int .i64 op,.int .i64 num,.str name,.lst kids.length (eEs kids),.int .i64 l,.int .i64 c]
def eEs:List Ex->List AV
 |[]=>[]
 |x :: xs=>eE x ++ eEs xs
end
theorem jjw:∀ xs,eEs xs=fl eE xs
 |[]=>rfl
 |x :: xs=>by rw[XY,<-jjw xs];rfl
theorem qJ (x:Ex):eE x=[.int .i64 x.op,.int .i64 x.num,.str x.name,.lst x.kids.length (fl eE x.kids),.int .i64 x.line,.int .i64 x.col]:=by
 cases x;simp only[eE,jjw];rfl
theorem Jl (x:Ex):(eE x).length=6:=by rw[qJ];rfl
theorem Hk (x:Ex)(k:Nat):(eE x).getD k .bad=([.int .i64 x.op,.int .i64 x.num,.str x.name,.lst x.kids.length (fl eE x.kids),.int .i64 x.line,.int .i64 x.col]:List AV).getD k .bad:=by rw[qJ]
theorem jsa (x:Ex)(k:Nat):(eE x).drop k=([.int .i64 x.op,.int .i64 x.num,.str x.name,.lst x.kids.length (fl eE x.kids),.int .i64 x.line,.int .i64 x.col]:List AV).drop k:=by rw[qJ]
theorem q9 (x:Ex):(eE x).all pc=true:=by rw[qJ];rfl
theorem jgM (x:Ex):lall AV.cell (eE x)=true:=by rw[qJ];rfl
theorem jdg {st:St}{K:AV->St->Prop}{xs:List Ex}{i:Nat}(h:i<xs.length):jh (zI 6 (.lptr (fl eE xs) (i * 6)) st) K=K (.agg (eE xs[i])) st:=Q9 Jl h
theorem jnM {st:St}{K:AV->St->Prop}{xs:List Ex}{i:Nat}(h:i<xs.length){k:Nat}(hk:k<6):jh (yb (.lptr (fl eE xs) (i * 6+k)) st) K=K ((eE xs[i]).getD k .bad) st:=ye Jl h hk
theorem jnN {st:St}{K:AV->St->Prop}{xs:List Ex}{i:Nat}(h:i<xs.length):jh (yb (.lptr (fl eE xs) (i * 6)) st) K=K ((eE xs[i]).getD 0 .bad) st:=ye (k:=0) Jl h dc
theorem jd:type_of% (a4 @Jl @Hk @jsa (a4 @jgM @jdg @jnN @jnM)):=a4 @Jl @Hk @jsa (a4 @jgM @jdg @jnN @jnM)
theorem qT:type_of% (aI @Jl (aI @jgM @Hk)):=aI @Jl (aI @jgM @Hk)
theorem dzB {p:Prop}(h:p:=by first|assumption|decide|omega|(simp only[qT,rzN,φ,ω];first|done|omega)|(apply Ql<;>first|omega|((simp(disch:=first|assumption|omega|(simp only[qT,rzN,φ,ω];first|done|omega)) only[rzL,φ,ω,Qam,δ,qT ])<;>first|done|omega))|(simp(disch:=first|assumption|omega|(simp only[qT,rzN,φ,ω];first|done|omega)) only[qT,rzG,ν,ξ,ε,QaN,φ,ω,Qaj,Qan];first|done|omega|decide)):p:=h
theorem jdh {p:Prop}(h:p:=by first|assumption|decide|omega|(simp only[qT,zz,rzN,φ,ω];first|done|omega)|(apply Ql<;>first|omega|((simp(disch:=first|assumption|omega|(simp only[qT,zz,rzN,φ,ω];first|done|omega)) only[rzL,φ,ω,Qam,δ,qT,zz ])<;>first|done|omega))|(simp(disch:=first|assumption|omega|(simp only[qT,zz,rzN,φ,ω];first|done|omega)) only[qT,zz,rzG,ν,ξ,ε,QaN,φ,ω,Qaj,Qan];first|done|omega|decide)):p:=h
set_option maxRecDepth 100000
def z14:XC:=(ov [TU 1,I3 2] (OV [I3 3] (T8 [Tm 6 1,Oi 7 6,IQ 8 7,I3 9] 0 10 9 8 10 0 1 [Il 11 6 7 9,Ta 12 11,TA 5,TW 5 12] (.ops [oz 13 3,Ta 14 5,Oy 15 12 14,ol 16 (.bi .max #[3,3] [13,15]),oy 3 16]) 17 9 9 17) [oz 18 3,TB 19 18 1,Tq 19]))
def y14:XF:=⟨[0],z14,[(.t 2)]⟩
theorem x14:jy γ 12=some y14:=by kernel_rfl
def z47:XC:=(Og (T4 2 4) [OP 7 2,oI 8 7,OZ 9,Ix 10 .eql 8 9] 10 [Tb 4] (OY (T8 [Tm 11 2,Oi 12 11,IQ 13 12,I3 14] 0 15 14 13 15 0 1 [Il 16 6 12 14,Ta 17 16,TA 6,TW 6 17] (Iz [Ta 18 6,OZ 19,T6 20 (oR 15 []) [18,19]] 20 [Tb 4]) 21 14 14 21) Tv))
def y47:XF:=⟨[0,1],z47,[(.t 4)]⟩
theorem x47:jy γ 15=some y47:=by kernel_rfl
def jkI:XC:=(Og [I3 2] [IZ 3,Ic 4 .geq 3 1,TZ 5,I0 6 5 0,Te 7 5 .leq 6 4,I7 8 5 7 oX] 8 [I3 2] (Lb [IZ 9,Ic 10 .geq 9 5,oz 11 10,I0 12 11 0,Te 13 11 .leq 12 13,I7 14 11 13 oX] 14 [O0 2 1] (OY (Iz [IZ 15,Ic 16 .geq 15 14,oz 17 16,I0 18 17 0,Te 19 17 .leq 18 30,I7 20 17 19 oX] 20 [O0 2 2]) [O0 2 (-(0+1))])))
def jqc:XF:=⟨[0],jkI,[(.t 2)]⟩
theorem juA:jy γ 82=some jqc:=by kernel_rfl
def z52:XC:=(Og [Ib 2 oK] [IZ 3,Ic 4 .lss 3 5,TZ 5,II 6 5 0,O7 7 5 .gtr 6 30,Lf 8 5 7] 8 [Ib 2 oK] (o5 [TJ 9 26 oK [OU 0 45,OU 1 33,OU 2 88,OU 3 70,OU 4 71,OU 5 89,OU 6 90,OU 7 79,OU 8 72,OU 9 42,OU 10 43,OU 11 45,OU 12 61,Ov 13 [33,61],OU 14 60,Ov 15 [60,61],OU 16 62,Ov 17 [62,61],OU 18 85,OU 19 82,OU 20 83,OU 21 84,OU 22 38,OU 23 124,Ov 24 [45,62],Ov 25 [60,45,62]],IZ 10,Ic 11 .sub 10 5,Lk 12 9 11,oI 13 12,Tq 13]))
def y52:XF:=⟨[0],z52,[(.t 2)]⟩
theorem x52:jy γ 105=some y52:=by kernel_rfl
def z92:XC:=(oY (T4 1 2) (Os [IY 5 0 1,Tt 6 5 5 3,(TS 7 82 6 0 [],some [OQ 7,Ia (Tm 8 1) 0,Ik (oI 9 8) 8 27 [(1,0)],Ia (I5 10 9) 0,Ia (Ib 11 Ir) 0]),IY 8 3 1,On 9 8 8 27 [(1,0)],IP (I5 10 9),IP (Ix 11 .neq 7 10)] (Tj 11 Ll .skip)) (.seq (T8 [Tm 12 1,Oi 13 12,IQ 14 13,I3 15] 0 16 15 14 16 0 1 [Il 17 6 13 15,Ta 18 17,TA 4,TW 4 18] (Iz [Ta 19 4,Oy 20 60 19,OW 21 20] 21 Ll) 22 15 15 22) (Lb [OP 23 1,oI 24 23,Ic 25 .neq 24 3,oz 26 25,Oz 27 26 2 1,Ox 28 26 27,Ih 29 26 (.strb .neq 28 (.c oK)),I7 30 26 29 oX] 30 Ll (OY (T9 [OP 31 1,Oi 32 31] 2 (Tf 34 32 1 33 34 33 [Tw 35 1,oI 36 35,ol 37 (O8 .geq 36),oz 38 37,Oz 39 38 1 1,Ox 40 38 39,Te 41 38 .leq 40 1000000,Tc 42 38 41,Tq 42] (Tf 44 32 2 43 44 43 [Tw 45 1,oI 46 45,ol 47 (TK 46),oz 48 47,Oq 49 48 1 1,Ow 50 48 49,O7 51 48 .eql 50 1,Td 52 48 51,Tq 52] (Tf 54 32 3 53 54 53 [Tw 55 1,oI 56 55,ol 57 (TK 56),oz 58 57,Oz 59 58 2 1,Ox 60 58 59,Tn 61 (58,true) 58 [60],Tc 62 58 61,Tq 62] (Iz (IW 64 32 4 63 64) 63 [Tb 2]))))) [Tw 65 1,oI 66 65,ol 67 (TK 66),Tq 67]))))
def y92:XF:=⟨[0],z92,[(.t 2)]⟩
theorem x92:jy γ 60=some y92:=by kernel_rfl
def z46:XC:=(OL (T4 1 2) [Ta 3 1,Oy 4 12 3,Ic 5 .leq 4 60,Ld 6,Ih 7 6 (.ldA 6 1),Tn 8 (6,true) 60 [7],Tc 9 6 8,Tq 9])
def y46:XF:=⟨[0],z46,[(.t 2)]⟩
theorem x46:jy γ 37=some y46:=by kernel_rfl
def z12:XC:=(OL (T4 1 2) [Ta 3 1,Oy 4 37 3,TZ 5,Ih 6 5 (.ldA 6 1),Tn 7 (5,true) 15 [6,IT 4],Ih 8 5 (IB 7),Tc 9 5 8,Tq 9])
def y12:XF:=⟨[0],z12,[(.t 2)]⟩
theorem x12:jy γ 11=some y12:=by kernel_rfl
def z96:XC:=(OL Ll [IZ 3,Ic 4 .geq 3 (-(999999+1)),TZ 5,I0 6 5 0,Te 7 5 .leq 6 1000000,Tc 8 5 7,Tq 8])
def y96:XF:=⟨[0],z96,[(.t 2)]⟩
theorem x96:jy γ 76=some y96:=by kernel_rfl
variable {base:Bs}
def XT (op:Int):Int:=if 1<=op/\op<=4 then 0 else if 5<=op/\op<=13 then 1 else if 14<=op/\op<=30 then 2 else -1
theorem r7:type_of%(aI @jd @rzZ):=aI @jd @rzZ
theorem jsN (hb:NB base)(op:Int):Tot base 82 [.int .i64 op] (.int .i64 (XT op)):=by
 refine hb.tot ?_ rfl rfl;refine jG juA (by rfl) (hb.pur 82 1 dc) ?_;simp only[jqc,jr,κ,μ,ν,ξ];rw[(by unfold jkI;simp only[qq];rfl:jkI=_)];repeat'(first|apply jb<;>intro _|simp(disch:=first|exact dzB|fail) only[r7,δ,ε,ζ,η,θ])
 all_goals(refine G0.v ?_ rfl;unfold XT;repeat' split)<;>first|rfl|(exfalso;omega)|(simp_all;done)|(simp;omega)|(simp_all;omega)
theorem jeu (hb:NB base)(n:Int):Tot base 76 [.int .i64 n] (.bool (decide (-1000000<=n) && decide (n<=1000000))):=by
 refine hb.tot ?_ rfl rfl;refine jG x96 (by rfl) (hb.pur 76 1 dc) ?_;simp only[y96,jr,κ,μ,ν,ξ];rw[(by unfold z96;simp only[qq];rfl:z96=_)];repeat'(first|apply jb<;>intro _|simp(disch:=first|exact dzB|fail) only[r7,δ,ε,ζ,η,θ])
 all_goals(refine G0.v ?_ rfl;repeat' split)<;>first|rfl|(exfalso;omega)|(simp_all;done)|(simp;omega)|(simp_all;omega)
mutual
def szE:Ex->Nat
 |.mk _ _ nm ks _ _=>yN ks+nm.length+1
def yN:List Ex->Nat
 |[]=>0
 |x :: xs=>szE x+yN xs
end
mutual
def wV:Ex->Nat
 |.mk _ _ _ ks _ _=>yA ks+1
def yA:List Ex->Nat
 |[]=>0
 |x :: xs=>max (wV x) (yA xs)
end
mutual
def K2:Ex->Nat
 |.mk _ _ _ ks _ _=>Wg ks+1
def Wg:List Ex->Nat
 |[]=>0
 |x :: xs=>K2 x+Wg xs
end
mutual
def jgo (op:Int):Ex->Bool
 |.mk o _ _ ks _ _=>decide (o=op) ||XW op ks
def XW (op:Int):List Ex->Bool
 |[]=>false
 |x :: xs=>jgo op x ||XW op xs
end
theorem Y1 (x:Ex):szE x=yN x.kids+x.name.length+1:=by cases x;rfl
theorem Ks (x:Ex):wV x=yA x.kids+1:=by cases x;rfl
theorem joU (op:Int)(x:Ex):jgo op x=(decide (x.op=op) ||XW op x.kids):=by cases x;rfl
theorem Zv:∀ {xs:List Ex} {k:Nat} (h:k<xs.length),szE xs[k]<=yN xs
 |x :: xs,0,h=>by simp[yN]
 |x :: xs,k+1,h=>by
  have:=Zv (xs:=xs) (k:=k) (by simpa using h);simp[yN];omega
theorem Zu:∀ xs:List Ex,xs.length<=yN xs
 |[]=>by simp
 |x :: xs=>by
  have:=Zu xs;have:=Y1 x;simp[yN];omega
theorem Gh:∀ xs ys,yA (xs ++ ys)=max (yA xs) (yA ys)
 |[],ys=>by simp[yA]
 |x :: xs,ys=>by rw[Qaj,yA,yA,Gh,Nat.max_assoc]
theorem uz (op:Int):∀ xs ys,XW op (xs ++ ys)=(XW op xs ||XW op ys)
 |[],ys=>by simp[XW]
 |x :: xs,ys=>by rw[Qaj,XW,XW,uz,Bool.or_assoc]
theorem yz {α:Type}{xs:List α}{k:Nat}(h:k<xs.length):xs.take (k+1)=xs.take k ++ [xs[k]]:=by rw[QbO,Qag h];rfl
mutual
theorem jma:∀ x,wV x<=K2 x
 |.mk _ _ _ ks _ _=>by have:=Uu ks;simp only[wV,K2];omega
theorem Uu:∀ xs,yA xs<=Wg xs
 |[]=>τ _
 |x :: xs=>by have:=jma x;have:=Uu xs;simp only[yA,Wg];omega
end
mutual
theorem jlp:∀ x,K2 x<=szE x
 |.mk _ _ _ ks _ _=>by have:=VI ks;simp only[szE,K2];omega
theorem VI:∀ xs,Wg xs<=yN xs
 |[]=>τ _
 |x :: xs=>by have:=jlp x;have:=VI xs;simp only[yN,Wg];omega
end
def BIG:Nat:=1099511627776
theorem h12:type_of%(a8 @χ @ψ @z0 @z1 @ju @ji @and_true @true_and):=a8 @χ @ψ @z0 @z1 @ju @ji @and_true @true_and
theorem jsT (hb:NB base):∀ x:Ex,szE x<=BIG->Tot base 12 [.agg (eE x)] (.int .i64 (wV x)):=by
 refine Ex.indk λx ih hx=>?_;refine hb.tot ?_ (by first|rfl|simp[pa,pc,q9]) rfl;have hd:=Ks x;have hz:=Y1 x;generalize hks:x.kids=ks at *;have hlen:=Zu ks;unfold BIG at *;have hle:=Uu ks;have hle2:=VI ks;refine jG x14 (by rfl) (hb.pur 12 1 dc) ?_;simp only[y14,jr,κ,μ,ν,ξ];rw[(by unfold z14;simp only[qq];rfl:z14=_)];repeat'(first|apply jb<;>intro _|simp(disch:=first|exact dzB|fail) only[hks,r7,δ,ε,ζ,η,θ])
 refine jX ks.length (λk L s=>Has L 3 (.int .i64 (yA (ks.take k):Nat))/\Has L 7 (.lst ks.length (fl eE ks))) ?_ (λk L s hk hI hi hn=>?_) (λL s hI=>?_)
 ·simp(disch:=decide) only[h12,QaJ,yA]
 ·obtain⟨i3,i7⟩:=hI;have hk2:=Zv hk;have e:=ih ks[k] (Qac hk) om;repeat'(first|apply jb<;>intro _|simp(disch:=first|exact dzB|fail) only[ja i3,ja i7,ja hi,ja hn,e,r7,δ,ε,ζ,η,θ])
  have e2:((yA (ks.take (k+1)):Nat):Int)=max (yA (ks.take k):Int) (wV ks[k]):=by rw[yz hk,Gh];simp only[yA];omega
  simp(disch:=decide) only[h12,e2,i7,hi,hn]
 ·rw[Qaf] at hI;repeat'(first|apply jb<;>intro _|simp(disch:=first|exact dzB|fail) only[ja hI.1,ja hI.2,r7,δ,ε,ζ,η,θ])
  (refine G0.v ?_ rfl;repeat' split)<;>first|rfl|(exfalso;omega)|(simp_all;done)|(simp;omega)|(simp_all;omega)
theorem jtS (hb:NB base)(op:Int):∀ x:Ex,szE x<=BIG->Tot base 15 [.agg (eE x),.int .i64 op] (.bool (jgo op x)):=by
 refine Ex.indk λx ih hx=>?_;refine hb.tot ?_ (by first|rfl|simp[pa,pc,q9]) rfl;have hd:=joU op x;have hz:=Y1 x;generalize hks:x.kids=ks at *;have hlen:=Zu ks;unfold BIG at *;refine jG x47 (by rfl) (hb.pur 15 1 dc) ?_;simp only[y47,jr,κ,μ,ν,ξ];rw[(by unfold z47;simp only[qq];rfl:z47=_)];repeat'(first|apply jb<;>intro _|simp(disch:=first|exact dzB|fail) only[hks,r7,δ,ε,ζ,η,θ])
 ·(refine G0.v ?_ rfl;repeat' split)<;>first|rfl|(exfalso;omega)|(simp_all;done)|(simp;omega)|(simp_all;omega)
 refine jX ks.length (λk L s=>XW op (ks.take k)=false/\Has L 1 (.int .i64 op)/\Has L 12 (.lst ks.length (fl eE ks))) ?_ (λk L s hk hI hi hn=>?_) (λL s hI=>?_)
 ·simp(disch:=decide) only[h12,QaJ,XW]
 ·obtain⟨h0,i1,i12⟩:=hI;have hk2:=Zv hk;have e:=ih ks[k] (Qac hk) om;repeat'(first|apply jb<;>intro _|simp(disch:=first|exact dzB|fail) only[ja i1,ja i12,ja hi,ja hn,e,r7,δ,ε,ζ,η,θ])
  ·have e3:=uz op (ks.take (k+1)) (ks.drop (k+1));rw[Qbp,yz hk,uz] at e3;simp only[XW] at e3
   (refine G0.v ?_ rfl;repeat' split)<;>first|rfl|(exfalso;omega)|(simp_all;done)|(simp;omega)|(simp_all;omega)
  ·simp(disch:=decide) only[h12,i1,i12,hi,hn];rw[yz hk,uz,h0];simp_all [XW]
 ·rw[Qaf] at hI;repeat'(first|apply jb<;>intro _|simp(disch:=first|exact dzB|fail) only[ja hI.2.1,r7,δ,ε,ζ,η,θ])
  (refine G0.v ?_ rfl;repeat' split)<;>first|rfl|(exfalso;omega)|(simp_all;done)|(simp;omega)|(simp_all;omega)
def zV (c:Nat):Bool:=(decide (97<=c) && decide (c<=122)) ||(decide (65<=c) && decide (c<=90))
def qk (c:Nat):Bool:=decide (48<=c) && decide (c<=57)
def Jq (c:Nat):Bool:=zV c ||qk c ||decide (c=95)
def ya (p:Nat->Bool):List Nat->Nat
 |[]=>0
 |c :: l=>if p c then ya p l+1 else 0
theorem ZE (p:Nat->Bool):∀ l,ya p l<=l.length
 |[]=>τ _
 |c :: l=>by simp only[ya,φ];have:=ZE p l;split<;>omega
theorem ke {p:Nat->Bool}:∀ {l:List Nat} {k:Nat},k<=l.length->(∀ j,j<k->p (l.getD j 0)=true)->(k=l.length\/p (l.getD k 0)=false)->ya p l=k
 |[],k,h,_,_=>by simp at h;simp[ya,h]
 |c :: l,0,h,h1,h2=>by
  simp only[ya];rcases h2 with h2|h2
  ·simp at h2
  ·simp at h2;simp[h2]
 |c :: l,k+1,h,h1,h2=>by
  have h0:=h1 0 om;simp at h0;simp only[ya,h0,if_true];have:=ke (l:=l) (k:=k) (by simpa using h) (λj hj=>by simpa using h1 (j+1) om) (by simpa using h2);omega
def kg:List (List Nat):=[[101,110,117,109],[118,97,114],[98,111,111,108],[112,114,111,99,101,115,115],[119,104,101,110],[100,111],[116,114,117,101],[102,97,108,115,101],[88],[70],[71],[85],[82],[89],[90],[79],[72],[83],[84]]
def G3 (l:List Nat):Bool:=decide (l∈kg)
def begins (p l:List Nat):Bool:=decide (l.take p.length=p)
theorem Gm {p l:List Nat}(h:l.length<p.length):begins p l=false:=by
 unfold begins;refine decide_eq_false λe=>?_;have:=congrArg List.length e;rw[Qap] at this;omega
def YR (c:Nat):Bool:=decide (c=32) ||decide (c=9) ||decide (c=10)
def gt (c:Nat):Bool:=decide (c≠10)
def Y2 (p:Nat×Nat)(x:Nat):Nat×Nat:=if x=10 then(p.1+1,1) else(p.1,p.2+1)
def qg (p:Nat×Nat)(l:List Nat):Nat×Nat:=l.foldl Y2 p
theorem WE (l:List Nat):∀ p:Nat×Nat,1<=p.2->(qg p l).1<=p.1+l.length/\(qg p l).2<=p.2+l.length/\1<=(qg p l).2:=by
 induction l with
 |nil=>exact λp h=>⟨τ _,τ _,h⟩
 |cons x l ih=>
  intro p h;have hs:(Y2 p x).1<=p.1+1/\(Y2 p x).2<=p.2+1/\1<=(Y2 p x).2:=by
   unfold Y2;split<;>simp<;>omega
  have:=ih (Y2 p x) hs.2.2;show(qg (Y2 p x) l).1<=p.1+(l.length+1)/\(qg (Y2 p x) l).2<=p.2+(l.length+1)/\_;exact⟨om,om,this.2.2⟩
theorem Ht (p:Nat×Nat)(l k:List Nat):qg p (l ++ k)=qg (qg p l) k:=Qbb ..
def gap (r:List Nat):Nat:=if ya YR r=0/\begins [47,47] r=true then ya gt r else ya YR r
theorem gY (r:List Nat):gap r<=r.length:=by
 unfold gap;split
 ·exact ZE _ _
 ·exact ZE _ _
def qe (r:List Nat):Nat:=if h:gap r=0 then 0 else gap r+qe (r.drop (gap r))
termination_by r.length
decreasing_by
 rw[QaD];have:=gY r;omega
theorem ji9 {r:List Nat}(h:gap r=0):qe r=0:=by rw[qe,dif_pos h]
theorem ji8 {r:List Nat}(h:gap r≠0):qe r=gap r+qe (r.drop (gap r)):=by rw[qe,dif_neg h]
theorem kB (r:List Nat):qe r<=r.length:=by
 by_cases h:gap r=0
 ·rw[ji9 h];exact Qae _
 ·have e:=gY r;have ih:=kB (r.drop (gap r));rw[QaD] at ih;rw[ji8 h];omega
termination_by r.length
decreasing_by
 rw[QaD];have:=gY r;omega
def Y4:List (List Nat):=[[60,45,62],[46,46],[58,61],[33,61],[60,61],[62,61],[45,62],[123],[125],[40],[41],[58],[44],[59],[61],[60],[62],[43],[45],[42],[33],[38],[124]]
def Zf (r:List Nat):List (List Nat)->Nat
 |[]=>0
 |x :: xs=>if begins x r=true then x.length else Zf r xs
def UT (r:List Nat):Nat:=Zf r Y4
structure Tk where
 kind:Nat
 text:List Nat
 num:Nat
 line:Nat
 col:Nat
def Tk.cells (t:Tk):List AV:=[.int .i64 (t.kind:Int),.str t.text,.int .i64 (t.num:Int),.int .i64 (t.line:Int),.int .i64 (t.col:Int)]
def vw (s:List Nat):Nat:=s.foldl (λv c=>10 * v+(c - 48)) 0
def yZ (r:List Nat)(p:Nat×Nat):Nat×Tk×Nat:=
 match r with
 |[]=>(0,⟨5,[],0,p.1,p.2⟩,0)
 |x :: r'=>
  if zV x=true then
   let n:=ya Jq (x :: r')
   if 32<n then(132,⟨1,[],0,p.1,p.2⟩,0) else(0,⟨if G3 ((x :: r').take n)=true then 4 else 1,(x :: r').take n,0,p.1,p.2⟩,n)
  else if qk x=true then
   let n:=ya qk (x :: r')
   if 7<n\/1000000<vw ((x :: r').take n) then(132,⟨2,[],0,p.1,p.2⟩,0) else(0,⟨2,(x :: r').take n,vw ((x :: r').take n),p.1,p.2⟩,n)
  else
   let n:=UT (x :: r')
   if n=0 then(131,⟨3,[],0,p.1,p.2⟩,0) else(0,⟨3,(x :: r').take n,0,p.1,p.2⟩,n)
def Wu (s:List Nat):Prop:=s≠[]/\∀ c∈s,qk c=true
theorem jcM (p:Nat->Bool):∀ l:List Nat,∀ c∈l.take (ya p l),p c=true
 |[],c,h=>by simp at h
 |y :: l,c,h=>by
  simp only[ya] at h;by_cases hy:p y=true
  ·rw[if_pos hy,Qcp] at h;rcases QaS.1 h with h|h
   ·rw[h];exact hy
   ·exact jcM p l c h
  ·rw[if_neg hy] at h;simp at h
theorem jd0 {x:Nat}{r:List Nat}(h:qk x=true):Wu ((x :: r).take (ya qk (x :: r))):=by
 refine⟨?_,jcM qk _⟩;have:ya qk (x :: r)=ya qk r+1:=by simp only[ya,if_pos h]
 rw[this,Qcp];simp
theorem jlc (s:List Nat):∀ v,(∀ c∈s,qk c=true)->s.foldl (λv c=>10 * v+(c - 48)) v+1<=(v+1) * 10 ^ s.length:=by
 induction s with
 |nil=>exact λv _=>by simp
 |cons c s ih=>
  intro v h;have hc:=h c (by simp);have hc9:c - 48<=9:=by
   unfold qk at hc;simp at hc;omega
  have:=ih (10 * v+(c - 48)) λd hd=>h d (by simp[hd]);refine Qab this ?_;rw[φ,Nat.pow_succ,<-Nat.mul_assoc,Nat.mul_right_comm];exact Qax _ om
theorem job {s:List Nat}{n:Nat}(hn:s.length=n)(h7:n<=7)(h:∀ c∈s,qk c=true):vw s<=99999999:=by
 have:=jlc s 0 h;have e:10 ^ s.length<=10 ^ 7:=Nat.pow_le_pow_right dc om;have e7:10 ^ 7=10000000:=dc
 unfold vw;omega
theorem jam (r:List Nat):∀ xs,Zf r xs<=r.length
 |[]=>Qae _
 |y :: xs=>by
  show(if begins y r=true then y.length else Zf r xs)<=r.length;by_cases h:begins y r=true
  ·rw[if_pos h];rcases Qav r.length y.length with h2|h2
   ·rw[Gm h2] at h;exact absurd h dc
   ·exact h2
  ·rw[if_neg h];exact jam r xs
theorem jcf (r:List Nat):UT r<=r.length:=jam r _
theorem Ki {r:List Nat}{p:Nat×Nat}{e n:Nat}{t:Tk}(h:yZ r p=(e,t,n)):n<=r.length:=by
 cases r with
 |nil=>simp[yZ] at h;omega
 |cons x r'=>
  unfold yZ at h;simp only at h;have h1:=ZE Jq (x :: r');have h2:=ZE qk (x :: r');have h3:=jcf (x :: r');split at h
  ·split at h<;>simp only[Prod.mk.injEq] at h<;>omega
  ·split at h
   ·split at h<;>simp only[Prod.mk.injEq] at h<;>omega
   ·split at h<;>simp only[Prod.mk.injEq] at h<;>omega
theorem jcN {p:Nat->Bool}{x:Nat}{r:List Nat}(h:p x=true):0<ya p (x :: r):=by
 simp only[ya,if_pos h];omega
theorem gw {r:List Nat}{p:Nat×Nat}{t:Tk}{n:Nat}(h:yZ r p=(0,t,n)):(t.kind=5↔n=0)/\(n=0↔r=[]):=by
 cases r with
 |nil=>simp[yZ] at h;obtain⟨h1,h2⟩:=h;subst h1 h2;simp
 |cons x r'=>
  unfold yZ at h;simp only at h;split at h
  ·rename_i hL;have hp:=jcN (p:=Jq) (r:=r') (show Jq x=true by unfold Jq;rw[hL];rfl);split at h
   ·simp at h
   ·simp only[Prod.mk.injEq] at h;obtain⟨_,h1,h2⟩:=h;subst h1 h2;refine⟨?_,?_⟩
    ·show((if _ then 4 else 1)=5↔_);split<;>constructor<;>intro h<;>omega
    ·constructor
     ·intro h;omega
     ·intro h;simp at h
  ·split at h
   ·rename_i hD;have hp:=jcN (p:=qk) (r:=r') hD;split at h
    ·simp at h
    ·simp only[Prod.mk.injEq] at h;obtain⟨_,h1,h2⟩:=h;subst h1 h2;refine⟨?_,?_⟩
     ·show(2=5↔_);constructor<;>intro h<;>omega
     ·constructor
      ·intro h;omega
      ·intro h;simp at h
   ·split at h
    ·simp at h
    ·rename_i hz;simp only[Prod.mk.injEq] at h;obtain⟨_,h1,h2⟩:=h;subst h1 h2;refine⟨?_,?_⟩
     ·show(3=5↔_);constructor<;>intro h<;>omega
     ·constructor
      ·intro h;exact absurd h hz
      ·intro h;simp at h
def JP (r:List Nat)(p:Nat×Nat):List Tk×(Nat×Nat×Nat):=
 match h:yZ (r.drop (qe r)) (qg p (r.take (qe r))) with
 |(e,t,n)=>
  if e≠0 then([],(e,t.line,t.col))
  else if hn:n=0 then([t],(0,0,0))
  else
   let q:=JP ((r.drop (qe r)).drop n) (qg (qg p (r.take (qe r))) ((r.drop (qe r)).take n))
   if q.2.1≠0 then([],q.2) else(t :: q.1,q.2)
termination_by r.length
decreasing_by
 have h1:=Ki h;have h2:=kB r;rw[QaD] at h1;rw[QaD,QaD];omega
theorem vq (r:List Nat)(p:Nat×Nat){e n:Nat}{t:Tk}(h:yZ (r.drop (qe r)) (qg p (r.take (qe r)))=(e,t,n)):JP r p=if e≠0 then([],(e,t.line,t.col)) else if n=0 then([t],(0,0,0)) else if(JP ((r.drop (qe r)).drop n) (qg (qg p (r.take (qe r))) ((r.drop (qe r)).take n))).2.1≠0 then([],(JP ((r.drop (qe r)).drop n) (qg (qg p (r.take (qe r))) ((r.drop (qe r)).take n))).2) else(t :: (JP ((r.drop (qe r)).drop n) (qg (qg p (r.take (qe r))) ((r.drop (qe r)).take n))).1,(JP ((r.drop (qe r)).drop n) (qg (qg p (r.take (qe r))) ((r.drop (qe r)).take n))).2):=by
 rw[JP];split
 rename_i e' t' n' h';rw[h] at h';simp only[Prod.mk.injEq] at h';obtain⟨rfl,rfl,rfl⟩:=h';split
 ·rfl
 ·split<;>rfl
def ahead (acc:List Tk)(q:List Tk×(Nat×Nat×Nat)):List Tk×(Nat×Nat×Nat):=if q.2.1≠0 then([],q.2) else(acc ++ q.1,q.2)
def qr (l:List Nat):List Tk×(Nat×Nat×Nat):=if 65536<l.length then([],(132,1,1)) else JP l (1,1)
theorem jjQ (r:List Nat)(p:Nat×Nat):ahead [] (JP r p)=JP r p:=by
 unfold ahead;generalize hx:yZ (r.drop (qe r)) (qg p (r.take (qe r)))=x;obtain⟨e,t,n⟩:=x;rw[vq r p hx];by_cases he:e≠0
 ·rw[if_pos he];simp[he]
 ·rw[if_neg he];by_cases hn:n=0
  ·rw[if_pos hn];simp
  ·rw[if_neg hn];generalize JP _ _=q;by_cases hq:q.2.1≠0
   ·rw[if_pos hq];simp[hq]
   ·rw[if_neg hq];show(if q.2.1≠0 then _ else _)=_;rw[if_neg hq];rfl
theorem jjR {acc:List Tk}{r:List Nat}{p:Nat×Nat}{e n:Nat}{t:Tk}(h:yZ (r.drop (qe r)) (qg p (r.take (qe r)))=(e,t,n))(he:e≠0):ahead acc (JP r p)=([],(e,t.line,t.col)):=by
 rw[vq r p h,if_pos he];unfold ahead;rw[if_pos he]
theorem jjS {acc:List Tk}{r:List Nat}{p:Nat×Nat}{t:Tk}(h:yZ (r.drop (qe r)) (qg p (r.take (qe r)))=(0,t,0)):ahead acc (JP r p)=(acc ++ [t],(0,0,0)):=by
 rw[vq r p h,if_neg dc,if_pos rfl];rfl
theorem jg3 {acc:List Tk}{r:List Nat}{p:Nat×Nat}{n:Nat}{t:Tk}(h:yZ (r.drop (qe r)) (qg p (r.take (qe r)))=(0,t,n))(hn:n≠0):ahead acc (JP r p)=ahead (acc ++ [t]) (JP ((r.drop (qe r)).drop n) (qg (qg p (r.take (qe r))) ((r.drop (qe r)).take n))):=by
 rw[vq r p h,if_neg dc,if_neg hn];generalize JP _ _=q;unfold ahead;by_cases hq:q.2.1≠0
 ·rw[if_pos hq,if_pos hq];simp[hq]
 ·rw[if_neg hq,if_neg hq];show _=(if q.2.1≠0 then _ else _);rw[if_neg hq];simp
def jkP:XC:=(OL Ll [IZ 3,IX 4 .leq (.c (TF 97)) 3,TZ 5,I0 6 5 0,Ih 7 5 (oJ .leq 6 (TF 122)),Tc 8 5 7,oz 9 8,II 10 9 0,Ig 11 9 (.bin .leq (.c (TF 65)) 10),II 12 9 11,I0 13 12 0,Ih 14 12 (oJ .leq 13 (TF 90)),Lm 15 9 12 14 oX,Td 16 9 15,Tq 16])
def jqj:XF:=⟨[0],jkP,[(.t 2)]⟩
theorem juH:jy γ 113=some jqj:=by kernel_rfl
def jkM:XC:=(OL Ll [IZ 3,IX 4 .leq (.c (TF 48)) 3,TZ 5,I0 6 5 0,Ih 7 5 (oJ .leq 6 (TF 57)),Tc 8 5 7,Tq 8])
def jqg:XF:=⟨[0],jkM,[(.t 2)]⟩
theorem juE:jy γ 116=some jqg:=by kernel_rfl
def jkO:XC:=(OL Ll [IZ 3,Oy 4 113 3,TZ 5,II 6 5 0,Li 7 5 116 [6],Td 8 5 7,oz 9 8,II 10 9 0,Ig 11 9 (oJ .eql 10 (TF 95)),Td 12 9 11,Tq 12])
def jqi:XF:=⟨[0],jkO,[(.t 2)]⟩
theorem juG:jy γ 114=some jqi:=by kernel_rfl
def jkN:XC:=(OV Ll (T9 [oy 3 0] 0 (.seq (O5 (Lp 5 3 [101,110,117,109] 4 5) 4 (O5 (Lp 6 3 [118,97,114] 4 6) 4 (O5 (Lp 7 3 [98,111,111,108] 4 7) 4 (O5 (Lp 8 3 [112,114,111,99,101,115,115] 4 8) 4 (O5 (Lp 9 3 [119,104,101,110] 4 9) 4 (O5 (Lp 10 3 [100,111] 4 10) 4 (O5 (Lp 11 3 [116,114,117,101] 4 11) 4 (O5 (Lp 12 3 [102,97,108,115,101] 4 12) 4 (O5 (Lp 13 3 [88] 4 13) 4 (O5 (Lp 14 3 [70] 4 14) 4 (O5 (Lp 15 3 [71] 4 15) 4 (O5 (Lp 16 3 [85] 4 16) 4 (O5 (Lp 17 3 [82] 4 17) 4 (O5 (Lp 18 3 [89] 4 18) 4 (O5 (Lp 19 3 [90] 4 19) 4 (O5 (Lp 20 3 [79] 4 20) 4 (O5 (Lp 21 3 [72] 4 21) 4 (O5 (Lp 22 3 [83] 4 22) 4 (.ops (Lp 23 3 [84] 4 23)))))))))))))))))))) (Tj 4 [Tb 2] .skip))) Ll)
def jqh:XF:=⟨[0],jkN,[(.t 2)]⟩
theorem juF:jy γ 115=some jqh:=by kernel_rfl
def jkT:XC:=(OL Ll [IZ 3,ol 4 (oJ .eql 3 (TF 32)),TZ 5,II 6 5 0,Ig 7 5 (oJ .eql 6 (TF 9)),Td 8 5 7,oz 9 8,II 10 9 0,Ig 11 9 (oJ .eql 10 (TF 10)),Td 12 9 11,Tq 12])
def jqn:XF:=⟨[0],jkT,[(.t 2)]⟩
theorem juL:jy γ 109=some jqn:=by kernel_rfl
def jkR:XC:=(OL Ll [IZ 3,ol 4 (oJ .neq 3 (TF 10)),Tq 4])
def jql:XF:=⟨[0],jkR,[(.t 2)]⟩
theorem juJ:jy γ 111=some jql:=by kernel_rfl
def jkU:XC:=(OV [I3 4] (T8 [IZ 6,ow 7 (.lenS 6),I3 8] 0 9 8 7 9 0 1 (Tg 10 8 5 10) (Iz [OZ 11,IZ 12,Ld 13,ol 14 (.ixStr 12 13),oU 15 none 11 [14],OW 16 15] 16 (Tg 17 5 4 17)) 18 8 8 18) [IZ 19,ol 20 (.lenS 19),TM 20])
def jqo:XF:=⟨[0,1],jkU,[(.t 4)]⟩
theorem juM:jy γ 108=some jqo:=by kernel_rfl
def jkA:XC:=(OL Tv [IZ 5,ol 6 (.lenS 5),OZ 7,ol 8 (.lenS 7),IX 9 .geq 6 8,oz 10 9,I0 11 10 0,I0 12 10 1,Ih 13 10 (.lenS 12),Ih 14 10 (.slStr 11 none (some 13)),I0 15 10 1,Ih 16 10 (.strb .eql 14 15),Tc 17 10 16,TM 17])
def jp3:XF:=⟨[0,1],jkA,[(.t 4)]⟩
theorem jur:jy γ 139=some jp3:=by kernel_rfl
def jkS:XC:=(OL Tv [IZ 5,OZ 6,OB 7 139 5 6,TM 7])
def jqm:XF:=⟨[0,1],jkS,[(.t 4)]⟩
theorem juK:jy γ 110=some jqm:=by kernel_rfl
def jky:XC:=(OL (Ti 3) [oI 4 1,IZ 5,OB 6 110 4 5,oy 3 6])
def jp1:XF:=⟨[0,1],jky,[(.t 3)]⟩
theorem jup:jy γ 143=some jp1:=by kernel_rfl
def jkz:XC:=(OV [I3 4] (T8 [IZ 6,IQ 7 6,I3 8] 0 9 8 7 9 0 1 (Tg 10 8 5 10) (Iz [OZ 11,IZ 12,Ld 13,Lk 14 12 13,oI 15 14,T6 16 11 [15]] 16 (Tg 17 5 4 17)) 18 8 8 18) [O0 4 (-(0+1))])
def jp2:XF:=⟨[0,1],jkz,[(.t 4)]⟩
theorem juq:jy γ 142=some jp2:=by kernel_rfl
def jkL:XC:=(O9 [TU 1,I3 2] [Iw 5 [oK,oK,oK,oK,oK,oK,oK,oK,oK,oK,oK,oK,oK,oK,oK,oK,oK,oK,oK,oK,oK,oK,oK] [Ov 0 [60,45,62],Ov 1 [46,46],Ov 2 [58,61],Ov 3 [33,61],Ov 4 [60,61],Ov 5 [62,61],Ov 6 [45,62],OU 7 123,OU 8 125,OU 9 40,OU 10 41,OU 11 58,OU 12 44,OU 13 59,OU 14 61,OU 15 60,OU 16 62,OU 17 43,OU 18 45,OU 19 42,OU 20 33,OU 21 38,OU 22 124],o9 3 [oK,oK,oK,oK,oK,oK,oK,oK,oK,oK,oK,oK,oK,oK,oK,oK,oK,oK,oK,oK,oK,oK,oK],o6 23 3 5] (Og [ol 6 (.slA 23 1 3 none none),ol 7 (.fn 143 [1]),OB 8 142 6 7,TM 8] [TZ 9,ow 10 (O8 .lss 9)] 10 [I3 2] (o5 [TZ 11,OM 12 23 1 3 11,oI 13 12,ol 14 (.lenS 13),Tq 14])))
def jqf:XF:=⟨[0],jkL,[(.t 2)]⟩
theorem juD:jy γ 118=some jqf:=by kernel_rfl
def jkQ:XC:=(.seq (TO [Lc 6,IG (IR 7 6),IG (OP 8 7),OS 9 8,Lc 10,IG (IR 11 10),IG (Tw 12 11),OS 13 12,Lc 14,IG (IR 15 14),IG (Tw 16 15),OS 17 16,IG (OZ 18),IG (IX 19 .add 17 18),IG (ol 20 (.slStr 9 (some 13) (some 19))),IG (ow 21 (.conv 9 125 20)),IG (IQ 22 21),IG (I3 23)] (Ie 0 (Ob (To 24 23 22) 24 0 1 (O9 [Lk 25 21 23,oI 26 25,oy 5 26] [IZ 27,IR 28 27,Tm 29 28,oI 30 29,TB 31 30 1,IR 32 27,Tm 33 32,o6 1 33 31] (OA [Ld 34,ow 35 (oJ .eql 34 (TF 10))] 35 [IZ 36,IZ 37,IZ 38,IR 39 38,Lg 40 39,oI 41 40,TB 42 41 1,IR 43 36,Lg 44 43,o6 1 44 42,IR 45 37,Tm 46 45,o6 1 46 Th])) 47 23 1 23 47))) (.ops [IZ 48,IR 49 48,Tw 50 49,oI 51 50,OZ 52,IX 53 .add 51 52,IR 54 48,Tw 55 54,o6 1 55 53]))
def jqk:XF:=⟨[0,1],jkQ,[]⟩
theorem juI:jy γ 112=some jqk:=by kernel_rfl
def z74:XC:=(Ie 0 (.block 1 (TO [Lc 4,IG (IR 5 4),IG (OP 6 5),OS 7 6,Lc 8,IG (IR 9 8),IG (Tw 10 9),OS 11 10,IG (ol 12 (.slStr 7 (some 11) none)),IG (Tq 12)] (oY [oz 13 2,OB 14 108 13 (oR 109 []),oy 3 14] (OA [oz 15 3,ol 16 (TK 15),oz 17 16,I0 18 17 2,Tn 19 (17,true) 110 [18,o8 [47,47]],I7 20 17 19 oX] 20 [oz 21 2,OB 22 108 21 (oR 111 []),oy 3 22]) (.seq (Id [oz 23 3,ow 24 (TK 23)] 24 .ret) (.ops [IZ 25,oz 26 3,OB 27 112 25 26]))))))
def y74:XF:=⟨[0],z74,[]⟩
theorem x74:jy γ 84=some y74:=by kernel_rfl
def z75:XC:=(oY [o9 2 [oB,oK,oB,oB,oB],I3 3] (.cops [Lc 9,IG (IR 10 9),IG (OP 11 10),OS 12 11,Lc 13,IG (IR 14 13),IG (Tw 15 14),OS 16 15,IG (ol 17 (.slStr 12 (some 16) none)),IG (TM 17)]) (TO [Lc 18,IG (IR 19 18),IG (Lg 20 19),OS 21 20,Lc 22,IG (IR 23 22),IG (Tm 24 23),OS 25 24,IG (Iw 26 [oB,oK,oB,oB,oB] [((0,1),IT 5),((3,1),21),((4,1),25)]),IG (o9 5 [oB,oK,oB,oB,oB]),IG (o6 5 5 26)] (oY [I3 6] (.block 0 (oL [TZ 34,Ts 35 34 (.c oK),oy 33 35] 33 (o5 [oV 36 5 5,o6 5 2 36,I3 3]) (oL [TZ 38,ol 39 (.ixStr 38 ON),Oy 40 113 39,oy 37 40] 37 (Og [TZ 41,OB 42 108 41 (oR 114 []),oy 6 42,OP 43 5,o6 1 43 Th] [T0 44,O4 45 .gtr 44 32] 45 [oV 46 5 5,o6 5 2 46,O0 3 132] (OA [TZ 47,T0 48,ol 49 (.slStr 47 none (some 48)),T6 50 (oR 115 []) [49]] 50 [OP 51 5,o6 1 51 (IT 4)])) (oL [TZ 53,ol 54 (.ixStr 53 ON),Oy 55 116 54,oy 52 55] 52 (ov [TZ 56,OB 57 108 56 (oR 116 []),oy 6 57,OP 58 5,o6 1 58 (IT 2)] (Og [TZ 60,T0 61,ol 62 (.slStr 60 none (some 61)),Iq 63 117 [62,IT 10,IT 64],oz 59 63,Tx 64 59,Ty 65 59,oy 7 64,oy 8 65] [T0 66,Ic 67 .gtr 66 7,oz 68 67,II 69 68 8,Ig 70 68 (.gen .neq 191 true 69 (.c .nilif)),Td 71 68 70,oz 72 71,II 73 72 7,O7 74 72 .gtr 73 1000000,Lf 75 72 74] 75 [oV 76 5 5,o6 5 2 76,O0 3 132] (.ops [oz 77 7,Lg 78 5,o6 1 78 77]))) (ov [TZ 27,Oy 28 118 27,oy 6 28,OP 29 5,o6 1 29 (IT 3)] (Iz [T0 30,ow 31 (TK 30)] 31 [oV 32 5 5,o6 5 2 32,O0 3 131])))))) (ov [TZ 79,T0 80,ol 81 (.slStr 79 none (some 80)),Tw 82 5,o6 1 82 81] (OL [IZ 83,T0 84,OB 85 112 83 84] [oV 86 5 5,o6 5 2 86,I3 3])))))
def y75:XF:=⟨[0],z75,[(.cA 2 5),(.t 3)]⟩
theorem x75:jy γ 85=some y75:=by kernel_rfl
def z35:XC:=(Og [O6 2,o9 3 [oB,oB,oB]] [IZ 8,ol 9 (.lenS 8),O4 10 .gtr 9 65536] 10 [Iw 11 [oB,oB,oB] [((0,1),IT 132),((1,1),Th),((2,1),Th)],O6 2,o6 3 3 11] (ov [IZ 12,Iw 13 [oK,oB,oB,oB] [((0,1),12),((2,1),Th),((3,1),Th)],ol 14 (.box 13),TM 14] (IV [O6 5] 0 (.block 1 (ov [TZ 15,Oy 16 84 15] (oY [TZ 18,Oy 19 85 18,oz 17 19,Tx 20 17,Ty 21 17,o9 6 [oB,oK,oB,oB,oB],o6 5 6 20,oy 7 21] (Id [oz 22 7,ow 23 (O8 .neq 22)] 23 (TO [TC 24 7,IG (Tm 25 6),OS 26 25,IG (oF 27 4 6),OS 28 27,IG (Iw 29 [oB,oB,oB] [((0,1),24),((1,1),26),((2,1),28)]),IG (O6 2),IG (o6 3 3 29)] .ret)) (ov [Ld 30,oV 31 5 6,Iu 32 1 5 [oB,oK,oB,oB,oB] [((0,5),31)],Or 33 5 48 30 32,oy 5 33] (Iz [OP 34 6,oI 35 34,O4 36 .eql 35 5] 36 [Ld 37,Iw 38 [oB,oB,oB] [],Tq 37,o6 3 3 38]))))))))
def y35:XF:=⟨[0],z35,[(.t 2),(.cA 3 3)]⟩
theorem x35:jy γ 64=some y35:=by kernel_rfl
theorem Kk (hb:NB base)(c:Nat):Tot base 113 [.int .u8 (c:Int)] (.bool (zV c)):=by
 refine hb.tot ?_ rfl rfl;refine jG juH (by rfl) (hb.pur 113 1 dc) ?_;simp only[jqj,jr,κ,μ,ν,ξ];rw[(by unfold jkP;simp only[qq];rfl:jkP=_)];repeat'(first|apply jb<;>intro _|simp(disch:=first|exact dzA|fail) only[rzZ,δ,ε,ζ,η,θ])
 all_goals(refine G0.v (congrArg AV.bool ?_) rfl;rw[QaE];simp only[zV,QaC,Qaa,decide_eq_true_eq,QaR,QbC,QaV,decide_eq_false_iff_not,true_iff,false_iff,iff_true,iff_false,not_true_eq_false,not_false_eq_true,ne_eq,eq_self]<;>omega)
theorem jfb (hb:NB base)(c:Nat):Tot base 116 [.int .u8 (c:Int)] (.bool (qk c)):=by
 refine hb.tot ?_ rfl rfl;refine jG juE (by rfl) (hb.pur 116 1 dc) ?_;simp only[jqg,jr,κ,μ,ν,ξ];rw[(by unfold jkM;simp only[qq];rfl:jkM=_)];repeat'(first|apply jb<;>intro _|simp(disch:=first|exact dzA|fail) only[rzZ,δ,ε,ζ,η,θ])
 all_goals(refine G0.v (congrArg AV.bool ?_) rfl;rw[QaE];simp only[qk,QaC,Qaa,decide_eq_true_eq,QaR,QbC,QaV,decide_eq_false_iff_not,true_iff,false_iff,iff_true,iff_false,not_true_eq_false,not_false_eq_true,ne_eq,eq_self]<;>omega)
theorem jeU (hb:NB base)(c:Nat):Tot base 114 [.int .u8 (c:Int)] (.bool (Jq c)):=by
 refine hb.tot ?_ rfl rfl;refine jG juG (by rfl) (hb.pur 114 1 dc) ?_;simp only[jqi,jr,κ,μ,ν,ξ];rw[(by unfold jkO;simp only[qq];rfl:jkO=_)];repeat'(first|apply jb<;>intro _|simp(disch:=first|exact dzA|fail) only[Kk hb,jfb hb,rzZ,δ,ε,ζ,η,θ])
 all_goals(refine G0.v (congrArg AV.bool ?_) rfl;unfold Jq;simp_all;try omega)
theorem jo8 (hb:NB base)(c:Nat):Tot base 109 [.int .u8 (c:Int)] (.bool (YR c)):=by
 refine hb.tot ?_ rfl rfl;refine jG juL (by rfl) (hb.pur 109 1 dc) ?_;simp only[jqn,jr,κ,μ,ν,ξ];rw[(by unfold jkT;simp only[qq];rfl:jkT=_)];repeat'(first|apply jb<;>intro _|simp(disch:=first|exact dzA|fail) only[rzZ,δ,ε,ζ,η,θ])
 all_goals(refine G0.v (congrArg AV.bool ?_) rfl;rw[QaE];simp only[YR,QaC,Qaa,decide_eq_true_eq,QaR,QbC,QaV,decide_eq_false_iff_not,true_iff,false_iff,iff_true,iff_false,not_true_eq_false,not_false_eq_true,ne_eq,eq_self]<;>omega)
theorem jlE (hb:NB base)(c:Nat):Tot base 111 [.int .u8 (c:Int)] (.bool (gt c)):=by
 refine hb.tot ?_ rfl rfl;refine jG juJ (by rfl) (hb.pur 111 1 dc) ?_;simp only[jql,jr,κ,μ,ν,ξ];rw[(by unfold jkR;simp only[qq];rfl:jkR=_)];repeat'(first|apply jb<;>intro _|simp(disch:=first|exact dzA|fail) only[rzZ,δ,ε,ζ,η,θ])
 all_goals(refine G0.v (congrArg AV.bool ?_) rfl;rw[QaE];simp only[gt,QaC,Qaa,decide_eq_true_eq,QaR,QbC,QaV,decide_eq_false_iff_not,true_iff,false_iff,iff_true,iff_false,not_true_eq_false,not_false_eq_true,ne_eq,eq_self]<;>omega)
theorem jjZ (hb:NB base)(l:List Nat):Tot base 115 [.str l] (.bool (G3 l)):=by
 refine hb.tot ?_ rfl rfl;refine jG juF (by rfl) (hb.pur 115 1 dc) ?_;simp only[jqh,jr,κ,μ,ν,ξ];rw[(by unfold jkN;simp only[qq];rfl:jkN=_)];repeat'(first|apply jb<;>intro _|simp(disch:=first|exact dzA|fail) only[rzZ,δ,ε,ζ,η,θ])
 all_goals(refine G0.v ?_ rfl;unfold G3 kg;simp[*])
def Pt (base:Bs)(f:FuncId)(p:Nat->Bool):Prop:=∀ c:Nat,Tot base f [.int .u8 (c:Int)] (.bool (p c))
theorem K7 (hb:NB base)(l:List Nat)(hl:l.length<=4611686018427387904){f:FuncId}{p:Nat->Bool}(hf:Pt base f p):Tot base 108 [.str l,.fn f []] (.int .i64 (ya p l)):=by
 refine hb.tot ?_ rfl rfl;refine jG juM (by rfl) (hb.pur 108 1 dc) ?_;simp only[jqo,jr,κ,μ,ν,ξ];rw[(by unfold jkU;simp only[qq];rfl:jkU=_)];repeat'(first|apply jb<;>intro _|simp(disch:=first|exact dzA|fail) only[rzZ,δ,ε,ζ,η,θ])
 refine jX l.length (λk L s=>(∀ j,j<k->p (l.getD j 0)=true)/\Has L 0 (.str l)/\Has L 1 (.fn f [])) ?_ (λk L s hk hI hi hn=>?_) (λL s hI=>?_)
 ·refine⟨λj hj=>absurd hj (Qay _),?_⟩;simp(disch:=decide) only[h12]
 ·obtain⟨h0,i0,i1⟩:=hI;repeat'(first|apply jb<;>intro _|simp(disch:=first|exact dzA|fail) only[ja i0,ja i1,ja hi,hf (l.getD k 0),rzZ,δ,ε,ζ,η,θ])
  ·exact G0.v (by rw[ke (QbS hk) h0 (.inr ‹_›)]) rfl
  ·refine⟨⟨λj hj=>?_,?_⟩,?_⟩
   ·rcases Qav j k with h|h
    ·exact h0 j h
    ·rw[show j=k by omega];simpa using ‹¬ p (l.getD k 0)=false›
   ·simp(disch:=decide) only[h12,i0,i1]
   ·simp(disch:=decide) only[h12,hi,hn]
 ·obtain⟨h0,i0,i1⟩:=hI;repeat'(first|apply jb<;>intro _|simp(disch:=first|exact dzA|fail) only[ja i0,rzZ,δ,ε,ζ,η,θ])
  exact G0.v (by rw[ke (τ _) h0 (.inl rfl)]) rfl
theorem jsR (hb:NB base)(l q:List Nat)(hl:l.length<=4611686018427387904):Tot base 139 [.str l,.str q] (.bool (begins q l)):=by
 refine hb.tot ?_ rfl rfl;refine jG jur (by rfl) (hb.pur 139 1 dc) ?_;simp only[jp3,jr,κ,μ,ν,ξ];rw[(by unfold jkA;simp only[qq];rfl:jkA=_)];repeat'(first|apply jb<;>intro _|simp(disch:=first|exact dzA|fail) only[rzZ,δ,ε,ζ,η,θ])
 ·exact G0.v rfl rfl
 ·exact G0.v (by rw[Gm om]) rfl
theorem kV (hb:NB base)(l q:List Nat)(hl:l.length<=4611686018427387904):Tot base 110 [.str l,.str q] (.bool (begins q l)):=by
 refine hb.tot ?_ rfl rfl;refine jG juK (by rfl) (hb.pur 110 1 dc) ?_;simp only[jqm,jr,κ,μ,ν,ξ];rw[(by unfold jkS;simp only[qq];rfl:jkS=_)];repeat'(first|apply jb<;>intro _|simp(disch:=first|exact dzA|fail) only[jsR hb l q hl,rzZ,δ,ε,ζ,η,θ])
 exact G0.v rfl rfl
theorem Cl.bar {s:St}{b:Nat}{cs:List AV}(h:Cl s b cs):Cl s.bare b cs:=⟨h.lt,h.row,h.len,h.cell⟩
theorem jh1 (hb:NB base)(r x:List Nat)(hr:r.length<=4611686018427387904){st:St}{b:Nat}(C:Cl st b [.str r])(K Kp:AV->St->Prop):XB γ base 143 [.str x,.ptr b 0] st K Kp=K (.bool (begins x r)) st:=by
 refine jfL (λK Kp hK=>?_) K Kp;refine zH jup (by rfl) (hb.at0 143 dc dc _ _) ?_;simp only[jp1,jr,κ,μ,ν,ξ];rw[(by unfold jky;simp only[qq];rfl:jky=_)];have C:=C.bar;have hbk:bk st st.bare=st:=rfl;have hbc:back st st.bare=st:=rfl;have hbb:st.bare.bare=st.bare:=rfl;generalize st.bare=s0 at *
 (have zz:=C.r;(repeat'(first|apply jb<;>intro _|simp(disch:=first|exact vT|fail) only[kV hb r x hr,hbk,hbc,hbb,C.q,C.r,rzZ,δ,ε,ζ,η,θ]));all_goals clear zz)
 exact hK
theorem jpo (hb:NB base){xs:List (List Nat)}(hn:xs.length<=1000000)(f:FuncId)(caps:List AV)(q:List Nat->Bool){st:St}{b c:Nat}{x:Bool}(C:Cl st b (xs.map .str))
  (hq:∀ y K Kp,XB γ base f (.str y :: caps) st.bare K Kp=K (.bool (q y)) st.bare) (K Kp:AV->St->Prop):XB γ base 142 [.slice b 0 xs.length c 1 x,.fn f caps] st K Kp=K (.int .i64 (fi q xs)) st:=by
 refine jfL (λK Kp hK=>?_) K Kp;refine zH juq (by rfl) (hb.at0 142 dc dc _ _) ?_;simp only[jp2,jr,κ,μ,ν,ξ];rw[(by unfold jkz;simp only[qq];rfl:jkz=_)];have C:=C.bar;have hbk:bk st st.bare=st:=rfl;have hbc:back st st.bare=st:=rfl;have hbb:st.bare.bare=st.bare:=rfl;generalize st.bare=s0 at *;have hl:(xs.map AV.str).length=xs.length:=Qah ..;repeat'(first|apply jb<;>intro _|simp(disch:=first|exact dzA|fail) only[rzZ,δ,ε,ζ,η,θ])
 refine jX xs.length (λk L s=>s=s0/\(∀ j (h1:j<xs.length),j<k->q xs[j]=false)/\Has L 0 (.slice b 0 xs.length c 1 x)/\Has L 1 (.fn f caps)) ?_ (λk L s hk hI hi hn=>?_) (λL s hI=>?_)
 ·refine⟨rfl,λj _ hj=>absurd hj (Qay _),?_⟩;simp(disch:=decide) only[h12]
 ·obtain⟨rfl,h0,i0,i1⟩:=hI;have e:(xs.map AV.str).getD k .bad=.str xs[k]:=by simp[Qad,hk]
  (have zz:=C.r;(repeat'(first|apply jb<;>intro _|simp(disch:=first|exact vT|fail) only[ja i0,ja i1,ja hi,hq,hl,e,hbk,hbc,hbb,C.q,C.r,rzZ,δ,ε,ζ,η,θ]));all_goals clear zz)
  ·rw[uD hk (λj hj=>h0 j om hj) ‹_›] at hK;exact hK
  ·refine⟨⟨λj h1 hj=>?_,?_⟩,?_⟩
   ·rcases Qav j k with h|h
    ·exact h0 j h1 h
    ·have:j=k:=om
     subst this;simpa using ‹¬ q xs[j]=true›
   ·simp(disch:=decide) only[h12,i0,i1]
   ·simp(disch:=decide) only[h12,hi,hn]
 ·obtain⟨rfl,h0,i0,i1⟩:=hI;repeat'(first|apply jb<;>intro _|simp(disch:=first|exact dzA|fail) only[hbk,hbc,hbb,rzZ,δ,ε,ζ,η,θ])
  rw[uC λj hj=>h0 j hj hj] at hK;exact hK
theorem jan (r:List Nat):∀ xs:List (List Nat),(fi (λx=>begins x r) xs<0/\Zf r xs=0)\/∃ k,∃ h:k<xs.length,fi (λx=>begins x r) xs=k/\Zf r xs=xs[k].length
 |[]=>.inl ⟨by show(-1:Int)<0;decide,rfl⟩
 |y :: xs=>by
  by_cases h:begins y r=true
  ·exact .inr ⟨0,by simp,by simp[fi,h],by simp[Zf,h]⟩
  ·rcases jan r xs with ⟨h1,h2⟩|⟨k,hk,h1,h2⟩
   ·exact .inl ⟨by simp[fi,h,h1],by simp[Zf,h,h2]⟩
   ·exact .inr ⟨k+1,by simpa using hk,by simp[fi,h,h1];omega,by simp[Zf,h,h2]⟩
theorem jlq {k:Nat}(h:k<Y4.length):(Y4.map AV.str).getD k .bad=.str Y4[k]:=by simp[Qad,h]
theorem jq9 (hb:NB base)(r:List Nat)(hr:r.length<=4611686018427387904):Tot base 118 [.str r] (.int .i64 (UT r)):=by
 refine hb.tot ?_ rfl rfl;refine jG juD (by rfl) (hb.pur 118 1 dc) ?_;simp only[jqf,jr,κ,μ,ν,ξ];rw[(by unfold jkL;simp only[qq];rfl:jkL=_)];repeat'(first|apply jb<;>intro _|simp(disch:=first|exact dzA|fail) only[rzZ,δ,ε,ζ,η,θ])
 refine XB.gen λu hu=>?_;have C0:Cl u 0 [.str r]:=by rw[hu];exact((Cl.new st0 [.str r]).nw _).wrO dc _ _
 have C1:Cl u 1 (Y4.map .str):=by rw[hu];exact(Cl.new (nw st0 _) _).wr0 rfl
 clear hu;rw[show(23:Nat)=Y4.length from rfl,jpo hb (xs:=Y4) dc 143 [.ptr 0 0] (λx=>begins x r) C1 λy K Kp=>jh1 hb r y hr C0.bar K Kp];unfold UT;rcases jan r Y4 with ⟨h1,h2⟩|⟨k,hk,h1,h2⟩
 ·repeat'(first|apply jb<;>intro _|simp(disch:=first|exact dzA|fail) only[rzZ,δ,ε,ζ,η,θ])
  exact G0.v (by rw[h2];rfl) rfl
 ·have hk':k<23:=hk;have e:=jlq hk;have e2:qv u.h 1=23:=C1.len;have e3:rat u.h 1 k=.str Y4[k]:=(C1.cell k (by rw[Qah];exact hk)).trans e;repeat'(first|apply jb<;>intro _|simp(disch:=first|exact dzA|fail) only[h1,e2,e3,rzZ,δ,ε,ζ,η,θ])
  refine G0.v ?_ rfl;rw[h2]<;>rfl
def cC (l:List Nat)(a:Nat)(p:Nat×Nat):List AV:=[.str l,.int .i64 (a:Int),.int .i64 (p.1:Int),.int .i64 (p.2:Int)]
theorem u9:Tryz.prog.underlying 9=some .string:=by kernel_rfl
theorem juV:Tryz.prog.underlying 125=some (.slice 5):=by kernel_rfl
theorem u5:Tryz.prog.underlying 5=some (.int .u8):=by kernel_rfl
theorem jh0 (hb:NB base){l:List Nat}{a n:Nat}{p:Nat×Nat}(hn:a+n<=l.length)(hl:l.length<=1073741824)(h1:p.1<=1073741824)(h2:p.2<=1073741824)(hc:1<=p.2) :
  Met γ base 112 (cC l a p) [.int .i64 (n:Int)] (.ok (.tup [])) (cC l (a+n) (qg p ((l.drop a).take n))):=by
 refine PM.met ?_ rfl λp st=>hb.no 112 dc _ _;refine qd juI (by rfl) (hb.pur 112 3 dc) rfl ?_;simp only[jqk,jr,κ,μ,ν,ξ];rw[(by unfold jkQ;simp only[qq];rfl:jkQ=_)];have hbs:((l.drop a).take n).length=n:=by rw[Qap,QaD];omega
 have e1:((a:Int)+(n:Int) - (a:Int)).toNat=n:=om
 unfold cC at *;repeat'(first|apply jb<;>intro _|simp(disch:=first|exact dzA|fail) only[jpf u9 juV u5,e1,hbs,rzZ,δ,ε,ζ,η,θ])
 generalize (l.drop a).take n=bs at *;refine jX n (λk L s=>Cl s 0 (cC l a (qg p (bs.take k)))/\Cl s 1 (bs.map λ(c:Nat)=>.int .u8 (c:Int))/\Has L 0 (.ptr 0 0)/\Has L 1 (.int .i64 (n:Int))/\Has L 21 (.slice 1 0 n n 1 false)) ?_ (λk L s hk hI hi hn=>?_) (λL s hI=>?_)
 ·refine⟨(Cl.new st0 (cC l a p)).nw _,Cl.new (nw st0 _) _,?_⟩;simp(disch:=decide) only[h12]
 ·obtain⟨C0,C1,i0,i1,i21⟩:=hI;have hk':k<bs.length:=om
  have e2:rat s.h 1 k=.int .u8 ((bs[k]:Nat):Int):=(C1.cell k (by rw[Qah];exact hk')).trans (by simp[Qad,hk']);have e3:qv s.h 1=n:=by rw[C1.len,Qah];exact hbs
  have hw:=WE (bs.take k) p hc;have e4:qg p (bs.take (k+1))=Y2 (qg p (bs.take k)) bs[k]:=by rw[yz hk',Ht];rfl
  rw[Qap] at hw;generalize qg p (bs.take k)=q at *;rw[e4];have L0:=C0.lt;have L1:=C1.lt;unfold cC at *
  (have zz:=C0.r;(repeat'(first|apply jb<;>intro _|simp(disch:=first|exact vT|fail) only[ja i0,ja i1,ja i21,ja hi,e2,e3,C0.q,C0.r,rzZ,δ,ε,ζ,η,θ]));all_goals clear zz)
  ·refine⟨⟨?_,?_,?_⟩,?_⟩
   ·have e5:bs[k]=10:=om
    rw[show Y2 q bs[k]=(q.1+1,1) from if_pos e5]
    (apply Cl.cv;(· (repeat'(first|exact C0|apply Cl.wr|apply Cl.nw)));(· (simp only[Zr,YY,YZ,ZK,ZJ,κ]<;>first|rfl|(simp;done)|(simp;omega))))
   ·simp(disch:=first|assumption|decide|omega|(simp only[jg,jj,jq,jt,jp,yq,φ,ω];first|done|omega)) only[jB,jD,jz];exact C1
   ·simp(disch:=decide) only[h12,i0,i1,i21]
   ·simp(disch:=decide) only[h12,hi,hn]
  ·refine⟨⟨?_,?_,?_⟩,?_⟩
   ·have e5:¬ bs[k]=10:=om
    rw[show Y2 q bs[k]=(q.1,q.2+1) from if_neg e5]
    (apply Cl.cv;(· (repeat'(first|exact C0|apply Cl.wr|apply Cl.nw)));(· (simp only[Zr,YY,YZ,ZK,ZJ,κ]<;>first|rfl|(simp;done)|(simp;omega))))
   ·simp(disch:=first|assumption|decide|omega|(simp only[jg,jj,jq,jt,jp,yq,φ,ω];first|done|omega)) only[jB,jD,jz];exact C1
   ·simp(disch:=decide) only[h12,i0,i1,i21]
   ·simp(disch:=decide) only[h12,hi,hn]
 ·obtain⟨C0,C1,i0,i1,i21⟩:=hI;rw[<-hbs,Qaf] at C0;have L0:=C0.lt;unfold cC at *
  (have zz:=C0.r;(repeat'(first|apply jb<;>intro _|simp(disch:=first|exact vT|fail) only[ja i0,ja i1,C0.q,C0.r,rzZ,δ,ε,ζ,η,θ]));all_goals clear zz)
  refine G1.done ?_ rfl rfl FzD.u;simp(disch:=first|assumption|decide|omega|(simp only[jg,jj,jq,jt,jp,yq,φ,ω];first|done|omega)) only[jB,jD,jz]
  (apply Cl.cv;(· (repeat'(first|exact C0|apply Cl.wr|apply Cl.nw)));(· (simp only[Zr,YY,YZ,ZK,ZJ,κ]<;>first|rfl|(simp;done)|(simp;omega))))
theorem jmf (hb:NB base){l:List Nat}{a:Nat}{p:Nat×Nat}(ha:a<=l.length)(hl:l.length<=1048576)(hp1:p.1+(l.length - a)<=1073741824)(hp2:1<=p.2)(hp3:p.2+(l.length - a)<=1073741824) :
  Met γ base 84 (cC l a p) [] (.ok (.tup [])) (cC l (a+qe (l.drop a)) (qg p ((l.drop a).take (qe (l.drop a))))):=by
 refine PM.met ?_ rfl λp st=>hb.no 84 dc _ _;refine qd x74 (by rfl) (hb.pur 84 3 dc) rfl ?_;simp only[y74,jr,κ,μ,ν,ξ];rw[(by unfold z74;simp only[qq];rfl:z74=_)];rw[UI];refine zb (λmm L s=>∃ d:Nat,a+d<=l.length/\mm=l.length - (a+d)/\Cl s 0 (cC l (a+d) (qg p ((l.drop a).take d)))/\qe (l.drop a)=d+qe (l.drop (a+d))/\Has L 0 (.ptr 0 0)) ?_ (l.length - a) ?_
 ·rintro mm L s ⟨d,hd,rfl,C,hg,i0⟩;have W:=WE ((l.drop a).take d) p hp2;have hlt:((l.drop a).take d).length=d:=by rw[Qap,QaD];omega
  rw[hlt] at W;have hrl:(l.drop (a+d)).length=l.length - (a+d):=QaD;have hgap:gap (l.drop (a+d))=if ya YR (l.drop (a+d))=0/\begins [47,47] (l.drop (a+d))=true then ya gt (l.drop (a+d)) else ya YR (l.drop (a+d)):=rfl
  have hgl:=gY (l.drop (a+d));have hwalk:qg (qg p ((l.drop a).take d)) ((l.drop (a+d)).take (gap (l.drop (a+d))))=qg p ((l.drop a).take (d+gap (l.drop (a+d)))):=by
   rw[<-Ht,List.take_add,Qbu]
  have hg1:=λ(h:gap (l.drop (a+d))≠0)=>ji8 h;have hg0:=λ(h:gap (l.drop (a+d))=0)=>ji9 h;have hdrop:(l.drop (a+d)).drop (gap (l.drop (a+d)))=l.drop (a+(d+gap (l.drop (a+d)))):=by rw[Qbu,Qbs]
  have S:=@jh0 base hb l (a+d) (gap (l.drop (a+d))) (qg p ((l.drop a).take d)) om om om om om;have S1:=λK Kp=>S C K Kp;have L0:=C.lt;rw[hwalk] at S1;have R1:=K7 hb (l.drop (a+d)) om (jo8 hb);have R2:=K7 hb (l.drop (a+d)) om (jlE hb);have R3:=kV hb (l.drop (a+d)) [47,47] om;have fin:gap (l.drop (a+d))=0->G1 4 (cC l (a+qe (l.drop a)) (qg p ((l.drop a).take (qe (l.drop a))))) (.tup []) (.tup []) s.bare:=λh=>by
   rw[hg,hg0 h,Qbt];exact G1.done (jz.symm▸C) rfl rfl FzD.u
  have go:gap (l.drop (a+d))≠0->∀ L,Has L 0 (.ptr 0 0)->∃ k',k'<l.length - (a+d)/\∃ d2:Nat,a+d2<=l.length/\k'=l.length - (a+d2)/\Cl (wr s 0 0 (cC l (a+d+gap (l.drop (a+d))) (qg p ((l.drop a).take (d+gap (l.drop (a+d))))))) 0 (cC l (a+d2) (qg p ((l.drop a).take d2)))/\qe (l.drop a)=d2+qe (l.drop (a+d2))/\Has L 0 (.ptr 0 0):=λh L i=>by
   refine⟨l.length - (a+(d+gap (l.drop (a+d)))),om,d+gap (l.drop (a+d)),om,rfl,?_,by rw[hg,hg1 h,hdrop,Qbs],i⟩;rw[Qbs];exact C.wr0 rfl
  generalize hJ:(λ(L:Sl) (st':St)=>∃ k',k'<l.length - (a+d)/\∃ d2:Nat,a+d2<=l.length/\k'=l.length - (a+d2)/\Cl st' 0 (cC l (a+d2) (qg p ((l.drop a).take d2)))/\qe (l.drop a)=d2+qe (l.drop (a+d2))/\Has L 0 (.ptr 0 0))=J at *;have go2:gap (l.drop (a+d))≠0->∀ L,Has L 0 (.ptr 0 0)->J L (wr s 0 0 (cC l (a+d+gap (l.drop (a+d))) (qg p ((l.drop a).take (d+gap (l.drop (a+d))))))):=λh L i=>by rw[<-hJ];exact go h L i
  clear go;unfold cC at *;by_cases h1:ya YR (l.drop (a+d))=0
  ·cases h2:begins [47,47] (l.drop (a+d)) with
   |true=>
    rw[if_pos ⟨h1,h2⟩] at hgap;rw[<-hgap] at R2;by_cases hz:gap (l.drop (a+d))=0
    ·(have zz:=C.r;(repeat'(first|apply jb<;>intro _|simp(disch:=first|exact vT|fail) only[ja i0,R1,R2,R3,h1,h2,hz,C.q,C.r,rzZ,δ,ε,ζ,η,θ]));all_goals clear zz)
     exact fin hz
    ·(have zz:=C.r;(repeat'(first|apply jb<;>intro _|simp(disch:=first|exact vT|fail) only[ja i0,R1,R2,R3,S1,h1,h2,hz,C.q,C.r,rzZ,δ,ε,ζ,η,θ]));all_goals clear zz)
     exact go2 hz _ (by simp(disch:=decide) only[h12,i0])
   |false=>
    have hz:gap (l.drop (a+d))=0:=by rw[hgap,if_neg (λh=>by rw[h2] at h;exact absurd h.2 dc)];exact h1
    (have zz:=C.r;(repeat'(first|apply jb<;>intro _|simp(disch:=first|exact vT|fail) only[ja i0,R1,R2,R3,h1,h2,C.q,C.r,rzZ,δ,ε,ζ,η,θ]));all_goals clear zz)
    exact fin hz
  ·have hz:gap (l.drop (a+d))=ya YR (l.drop (a+d)):=by rw[hgap,if_neg (λh=>h1 h.1)]
   rw[<-hz] at h1 R1
   (have zz:=C.r;(repeat'(first|apply jb<;>intro _|simp(disch:=first|exact vT|fail) only[ja i0,R1,R2,R3,S1,h1,C.q,C.r,rzZ,δ,ε,ζ,η,θ]));all_goals clear zz)
   exact go2 h1 _ (by simp(disch:=decide) only[h12,i0])
 ·refine⟨0,om,rfl,?_,by rw[Qam,Qbt],?_⟩
  ·exact Cl.new st0 (cC l a p)
  ·simp(disch:=decide) only[h12]
def PI (base:Bs):Prop:=∀ (s:List Nat) (st:St),Wu s->s.length<=281474976710656->(s.length<=7->base.run 117 [.str s,.int .i64 10,.int .i64 64] st=.ok (.tup [.int .i64 (vw s:Int),.nilif]) st)/\(7<s.length->base.run 117 [.str s,.int .i64 10,.int .i64 64] st=.ok (.tup [.bad,.bad]) st)
theorem jru (s:St)(K:AV->St->Prop):jh (Xu γ .neq 191 true .nilif .nilif s) K=K (.bool false) s:=by
 have:Xu γ .neq 191 true .nilif .nilif s=.ok (.bool false) s:=by kernel_rfl
 rw[this];rfl
theorem FzD.nx {s:St}{t:Tk}{e e':Int}{cs:List AV}(h1:cs=t.cells)(h2:e'=e):FzD 1 9 s (.tup [.agg cs,.int .i64 e']) (.tup [.agg t.cells,.int .i64 e]):=by
 subst h1 h2;exact FzD.tup (.cons (.agg (.pc rfl)) (.pc rfl))
theorem jrt (hb:NB base)(hP:PI base){l:List Nat}{a e n:Nat}{t:Tk}{p:Nat×Nat}(ha:a<=l.length)(hl:l.length<=1048576)(hp1:p.1<=1073741824)(hp2:p.2<=1073741824)(hp3:1<=p.2)(h:yZ (l.drop a) p=(e,t,n)) :
  Met γ base 85 (cC l a p) [] (.ok (.tup [.agg t.cells,.int .i64 (e:Int)])) (cC l (a+n) (qg p ((l.drop a).take n))):=by
 refine PM.met ?_ rfl λp st=>hb.no 85 dc _ _;refine qd x75 (by rfl) (hb.pur 85 3 dc) rfl ?_;simp only[y75,jr,κ,μ,ν,ξ];rw[(by unfold z75;simp only[qq];rfl:z75=_)];have hrl:(l.drop a).length=l.length - a:=QaD;have S:=λ(n:Nat) (h:a+n<=l.length)=>@jh0 base hb l a n p h om hp1 hp2 hp3;have C0:Cl (nw st0 (cC l a p)) 0 (cC l a p):=Cl.new st0 _;unfold cC at *;generalize hr:l.drop a=r at *;have hL:=Kk hb;have hD:=jfb hb;have hI:=jeU hb;have hR:=K7 hb r om hI;have hR2:=K7 hb r om hD;have hK:=jjZ hb;have hS:=jq9 hb r om;have l1:=ZE Jq r;have l2:=ZE qk r;have l3:=jcf r;have S1:=λst q=>@S (ya Jq r) om st q;have S2:=λst q=>@S (ya qk r) om st q;have S3:=λst q=>@S (UT r) om st q;clear S;rcases r with _|⟨x,r'⟩
 ·simp only[yZ,Prod.mk.injEq] at h;repeat'(first|apply jb<;>intro _|simp(disch:=first|exact dzA|fail) only[hr,rzZ,δ,ε,ζ,η,θ])
  obtain⟨rfl,rfl,rfl⟩:=h;refine G1.done (c':=[_,_,_,_]) ?_ rfl rfl (FzD.tup (.cons (.agg (.pc rfl)) (.pc rfl)));simp(disch:=first|assumption|decide|omega|(simp only[jg,jj,jq,jt,jp,yq,φ,ω];first|done|omega)) only[jB,jD,jz];exact C0
 ·have e0:x :: r'≠[]:=by simp
  have e1:(0:Int)<((x :: r').length:Int):=by simp
  have P0:qk x=true->Wu ((x :: r').take (ya qk (x :: r'))):=λh=>jd0 h;have P1:qk x=true->ya qk (x :: r')<=7->∀ st K Kp,XB γ base 117 [.str ((x :: r').take (ya qk (x :: r'))),.int .i64 10,.int .i64 64] st K Kp=K (.tup [.int .i64 (vw ((x :: r').take (ya qk (x :: r'))):Int),.nilif]) st:=λh h7 st K Kp=>by
   have e:((x :: r').take (ya qk (x :: r'))).length<=7:=by rw[Qap];omega
   exact Wa ((hP _ st (P0 h) om).1 e) K Kp
  have P2:qk x=true->7<ya qk (x :: r')->∀ st K Kp,XB γ base 117 [.str ((x :: r').take (ya qk (x :: r'))),.int .i64 10,.int .i64 64] st K Kp=K (.tup [.bad,.bad]) st:=λh h7 st K Kp=>by
   have e:((x :: r').take (ya qk (x :: r'))).length=ya qk (x :: r'):=by rw[Qap];omega
   exact Wa ((hP _ st (P0 h) om).2 om) K Kp
  unfold yZ at h;simp only at h;generalize ya Jq (x :: r')=n1 at *;generalize ya qk (x :: r')=n2 at *;generalize UT (x :: r')=n3 at *;by_cases c1:zV x=true
  ·rw[if_pos c1] at h
   (have zz:=aI @jB (aI @jD @C0);(repeat'(first|apply jb<;>intro _|simp(disch:=first|exact vT|fail) only[hr,e0,e1,hL,hR,hK,S1,jB,jD,c1,jB,jD,C0,rzZ,δ,ε,ζ,η,θ]));all_goals clear zz)
   all_goals((first|rw[if_pos om] at h|rw[if_neg om] at h);(first|rw[if_pos (by assumption)] at h|rw[if_neg (by assumption)] at h|skip);simp only[Prod.mk.injEq] at h;obtain⟨rfl,rfl,rfl⟩:=h;refine G1.done (c':=[_,_,_,_]) ?_ rfl rfl (FzD.nx rfl rfl);simp(disch:=first|assumption|decide|omega|(simp only[jg,jj,jq,jt,jp,yq,φ,ω];first|done|omega)) only[jB,jD,jz];first|exact C0|(refine Cl.wr0 (c:=[.str l,.int .i64 (a:Int),.int .i64 (p.1:Int),.int .i64 (p.2:Int)]) ?_ rfl;simp(disch:=first|assumption|decide|omega|(simp only[jg,jj,jq,jt,jp,yq,φ,ω];first|done|omega)) only[jB,jD,jz];exact C0))
  ·rw[if_neg c1] at h;by_cases c2:qk x=true
   ·rw[if_pos c2] at h;by_cases h7:7<n2
    ·repeat'(first|apply jb<;>intro _|simp(disch:=first|exact dzA|fail) only[hr,e0,e1,hL,hD,hR2,P2,c1,c2,rzZ,δ,ε,ζ,η,θ])
     all_goals((first|rw[if_pos om] at h|rw[if_neg om] at h);(first|rw[if_pos (by assumption)] at h|rw[if_neg (by assumption)] at h|skip);simp only[Prod.mk.injEq] at h;obtain⟨rfl,rfl,rfl⟩:=h;refine G1.done (c':=[_,_,_,_]) ?_ rfl rfl (FzD.nx rfl rfl);simp(disch:=first|assumption|decide|omega|(simp only[jg,jj,jq,jt,jp,yq,φ,ω];first|done|omega)) only[jB,jD,jz];first|exact C0|(refine Cl.wr0 (c:=[.str l,.int .i64 (a:Int),.int .i64 (p.1:Int),.int .i64 (p.2:Int)]) ?_ rfl;simp(disch:=first|assumption|decide|omega|(simp only[jg,jj,jq,jt,jp,yq,φ,ω];first|done|omega)) only[jB,jD,jz];exact C0))
    ·(have zz:=aI @jB (aI @jD @C0);(repeat'(first|apply jb<;>intro _|simp(disch:=first|exact vT|fail) only[hr,e0,e1,hL,hD,hR2,P1,S2,c1,c2,jru,jB,jD,C0,rzZ,δ,ε,ζ,η,θ]));all_goals clear zz)
     all_goals((first|rw[if_pos om] at h|rw[if_neg om] at h);(first|rw[if_pos (by assumption)] at h|rw[if_neg (by assumption)] at h|skip);simp only[Prod.mk.injEq] at h;obtain⟨rfl,rfl,rfl⟩:=h;refine G1.done (c':=[_,_,_,_]) ?_ rfl rfl (FzD.nx rfl rfl);simp(disch:=first|assumption|decide|omega|(simp only[jg,jj,jq,jt,jp,yq,φ,ω];first|done|omega)) only[jB,jD,jz];first|exact C0|(refine Cl.wr0 (c:=[.str l,.int .i64 (a:Int),.int .i64 (p.1:Int),.int .i64 (p.2:Int)]) ?_ rfl;simp(disch:=first|assumption|decide|omega|(simp only[jg,jj,jq,jt,jp,yq,φ,ω];first|done|omega)) only[jB,jD,jz];exact C0))
   ·rw[if_neg c2] at h
    (have zz:=aI @jB (aI @jD @C0);(repeat'(first|apply jb<;>intro _|simp(disch:=first|exact vT|fail) only[hr,e0,e1,hL,hD,hS,S3,c1,c2,jB,jD,C0,rzZ,δ,ε,ζ,η,θ]));all_goals clear zz)
    all_goals((first|rw[if_pos om] at h|rw[if_neg om] at h);(first|rw[if_pos (by assumption)] at h|rw[if_neg (by assumption)] at h|skip);simp only[Prod.mk.injEq] at h;obtain⟨rfl,rfl,rfl⟩:=h;refine G1.done (c':=[_,_,_,_]) ?_ rfl rfl (FzD.nx rfl rfl);simp(disch:=first|assumption|decide|omega|(simp only[jg,jj,jq,jt,jp,yq,φ,ω];first|done|omega)) only[jB,jD,jz];first|exact C0|(refine Cl.wr0 (c:=[.str l,.int .i64 (a:Int),.int .i64 (p.1:Int),.int .i64 (p.2:Int)]) ?_ rfl;simp(disch:=first|assumption|decide|omega|(simp only[jg,jj,jq,jt,jp,yq,φ,ω];first|done|omega)) only[jB,jD,jz];exact C0))
theorem Tk.cells_l (t:Tk):t.cells.length=5:=nr rfl
theorem Tk.cells_g (t:Tk)(k:Nat):t.cells.getD k .bad=([.int .i64 (t.kind:Int),.str t.text,.int .i64 (t.num:Int),.int .i64 (t.line:Int),.int .i64 (t.col:Int)]:List AV).getD k .bad:=nr rfl
theorem Tk.cells_d (t:Tk)(k:Nat):t.cells.drop k=([.int .i64 (t.kind:Int),.str t.text,.int .i64 (t.num:Int),.int .i64 (t.line:Int),.int .i64 (t.col:Int)]:List AV).drop k:=nr rfl
theorem Tk.cells_p (t:Tk):t.cells.all pc=true:=rfl
theorem Tk.cells_c (t:Tk):lall AV.cell t.cells=true:=nr rfl
theorem Tk.cells_f {st:St}{K:AV->St->Prop}{xs:List Tk}{i:Nat}(h:i<xs.length):jh (zI 5 (.lptr (fl Tk.cells xs) (i * 5)) st) K=K (.agg (Tk.cells xs[i])) st:=Q9 Tk.cells_l h
theorem Tk.cells_f1 {st:St}{K:AV->St->Prop}{xs:List Tk}{i:Nat}(h:i<xs.length){k:Nat}(hk:k<5):jh (yb (.lptr (fl Tk.cells xs) (i * 5+k)) st) K=K ((Tk.cells xs[i]).getD k .bad) st:=ye Tk.cells_l h hk
theorem Tk.cells_f0 {st:St}{K:AV->St->Prop}{xs:List Tk}{i:Nat}(h:i<xs.length):jh (yb (.lptr (fl Tk.cells xs) (i * 5)) st) K=K ((Tk.cells xs[i]).getD 0 .bad) st:=ye (k:=0) Tk.cells_l h dc
theorem Tk.cells_R:type_of% (a4 @Tk.cells_l @Tk.cells_g @Tk.cells_d (a4 @Tk.cells_c @Tk.cells_f @Tk.cells_f0 @Tk.cells_f1)):=a4 @Tk.cells_l @Tk.cells_g @Tk.cells_d (a4 @Tk.cells_c @Tk.cells_f @Tk.cells_f0 @Tk.cells_f1)
theorem Tk.cells_E:type_of% (aI @Tk.cells_l (aI @Tk.cells_c @Tk.cells_g)):=aI @Tk.cells_l (aI @Tk.cells_c @Tk.cells_g)
theorem dzC {p:Prop}(h:p:=by first|assumption|decide|omega|(simp only[Tk.cells_E,rzN,φ,ω];first|done|omega)|(apply Ql<;>first|omega|((simp(disch:=first|assumption|omega|(simp only[Tk.cells_E,rzN,φ,ω];first|done|omega)) only[rzL,φ,ω,Qam,δ,Tk.cells_E ])<;>first|done|omega))|(simp(disch:=first|assumption|omega|(simp only[Tk.cells_E,rzN,φ,ω];first|done|omega)) only[Tk.cells_E,rzG,ν,ξ,ε,QaN,φ,ω,Qaj,Qan];first|done|omega|decide)):p:=h
theorem jl9 {p:Prop}(h:p:=by first|assumption|decide|omega|(simp only[Tk.cells_E,zz,rzN,φ,ω];first|done|omega)|(apply Ql<;>first|omega|((simp(disch:=first|assumption|omega|(simp only[Tk.cells_E,zz,rzN,φ,ω];first|done|omega)) only[rzL,φ,ω,Qam,δ,Tk.cells_E,zz ])<;>first|done|omega))|(simp(disch:=first|assumption|omega|(simp only[Tk.cells_E,zz,rzN,φ,ω];first|done|omega)) only[Tk.cells_E,zz,rzG,ν,ξ,ε,QaN,φ,ω,Qaj,Qan];first|done|omega|decide)):p:=h
def zO (q:Nat×Nat×Nat):List AV:=[.int .i64 (q.1:Int),.int .i64 (q.2.1:Int),.int .i64 (q.2.2:Int)]
theorem jlF {r:List Nat}{p:Nat×Nat}{e n:Nat}{t:Tk}(h:yZ r p=(e,t,n)):t.line=p.1/\t.col=p.2:=by
 cases r with
 |nil=>simp[yZ] at h;rw[<-h.2.1];exact⟨rfl,rfl⟩
 |cons x r'=>
  unfold yZ at h;simp only at h;split at h
  ·split at h<;>(simp only[Prod.mk.injEq] at h;rw[<-h.2.1];exact⟨rfl,rfl⟩)
  ·split at h
   ·split at h<;>(simp only[Prod.mk.injEq] at h;rw[<-h.2.1];exact⟨rfl,rfl⟩)
   ·split at h<;>(simp only[Prod.mk.injEq] at h;rw[<-h.2.1];exact⟨rfl,rfl⟩)
theorem jn0 (hb:NB base)(hP:PI base)(l:List Nat)(hl:l.length<=9223372036854775807):Tot base 64 [.str l] (.tup [.lst (qr l).1.length (fl Tk.cells (qr l).1),.agg (zO (qr l).2)]):=by
 refine hb.tot ?_ rfl rfl;refine jG x35 (by rfl) (hb.pur 64 1 dc) ?_;simp only[y35,jr,κ,μ,ν,ξ];rw[(by unfold z35;simp only[qq];rfl:z35=_)];repeat'(first|apply jb<;>intro _|simp(disch:=first|exact dzC|fail) only[Tk.cells_R,rzZ,δ,ε,ζ,η,θ])
 ·rw[show qr l=([],(132,1,1)) from if_pos om];exact FzD.tup (.cons .nils (.cons (.agg (.pc (by rfl))) .nil))
 ·have hl:l.length<=65536:=om
  rw[show qr l=JP l (1,1) from if_neg om];refine zb (λmm L s=>∃ (a:Nat) (p:Nat×Nat) (acc:List Tk) (v:AV),a<=l.length/\mm=l.length - a/\p.1+(l.length - a)<=l.length+1/\p.2+(l.length - a)<=l.length+1/\1<=p.2/\acc.length<=a/\ahead acc (JP (l.drop a) p)=JP l (1,1)/\2<=s.nx/\Cl s 0 [.int .i64 0,.int .i64 0,.int .i64 0]/\Cl s 1 (cC l a p)/\Lv 2 s.nx s v acc.length (fl Tk.cells acc) 5/\Has L 3 (.ptr 0 0)/\Has L 4 (.ptr 1 0)/\Has L 5 v) ?_ l.length ?_
  ·rintro mm L s ⟨a,p,acc,v,ha,rfl,h1,h2,h3,h4,h5,h6,C0,C1,V,i3,i4,i5⟩;obtain⟨m,hm⟩:∃ m,m=s.nx:=⟨_,rfl⟩;rw[<-hm] at V;have hm':m<=s.nx:=QaO hm;have hgl:=kB (l.drop a);rw[QaD] at hgl;have W:=WE ((l.drop a).take (qe (l.drop a))) p h3;have hlt:((l.drop a).take (qe (l.drop a))).length=qe (l.drop a):=by rw[Qap,QaD];omega
   rw[hlt] at W;have B:=λst q=>@jmf base hb l a p ha om om h3 om st q;rcases hx:yZ ((l.drop a).drop (qe (l.drop a))) (qg p ((l.drop a).take (qe (l.drop a)))) with ⟨e,t,n⟩
   have hN:=hx;rw[Qbu] at hN;have hnl:=Ki hN;rw[QaD] at hnl;have N:=λst q=>@jrt base hb hP l (a+qe (l.drop a)) e n t (qg p ((l.drop a).take (qe (l.drop a)))) om om om om W.2.2 hN st q;have B1:=λK Kp=>B s 1 C1 K Kp;have N1:=λK Kp=>N (wr s 1 0 (cC l (a+qe (l.drop a)) (qg p ((l.drop a).take (qe (l.drop a)))))) 1 (C1.wr0 rfl) K Kp;clear B N;have hT:t.line=(qg p ((l.drop a).take (qe (l.drop a)))).1/\t.col=(qg p ((l.drop a).take (qe (l.drop a)))).2:=jlF hN;generalize hq:qg p ((l.drop a).take (qe (l.drop a)))=q at *;generalize hg:qe (l.drop a)=g at *;have aE:=λ(he:e≠0)=>jjR (acc:=acc) (by rw[hg,hq];exact hx) he;have W2:=WE ((l.drop (a+g)).take n) q W.2.2;have hlt2:((l.drop (a+g)).take n).length=n:=by rw[Qap,QaD];omega
   rw[hlt2] at W2;have A:=λst bv xc xx K h hv=>@JT 2 m acc.length 5 st v (fl Tk.cells acc) K 48 bv xc xx h dc om om hv;have V2:∀ st m',Lv 2 m st v acc.length (fl Tk.cells acc) 5->2<=st.nx->m'=st.nx+1->Lv 2 m' (aps v st t.cells) (apv 5 v st) (acc ++ [t]).length (fl Tk.cells (acc ++ [t])) 5:=λst m' h h2 h3=>by
    rw[υ,Q1,J5];exact h.put (Tk.cells_l t) h2 h3
   unfold cC at *;by_cases he:e=0
   ·subst he;have hk:=gw hN;by_cases hn:n=0
    ·subst hn;have k5:t.kind=5:=hk.1.2 rfl
     (have zz:=a4 V.ln @jA @jE (aI @V (aI C0.r C1.r));(repeat'(first|apply jb<;>intro _|simp(disch:=first|exact jl9|fail) only[ja i3,ja i4,ja i5,B1,N1,A,V.at,C0.q,C1.q,V.ln,jA,jE,V,C0.r,C1.r,Tk.cells_R,rzZ,δ,ε,ζ,η,θ]));all_goals clear zz)
     rw[<-h5,jjS (by rw[hg,hq];exact hx)];refine FzD.tup (.cons ((?_:Lv 2 (s.nx+3) _ _ _ _ 5).fz (Qae _) (y7 Tk.cells_p _)) (.cons (.agg (.pc (by rfl))) .nil));simp(disch:=first|decide|omega) only[jH,jA];refine V2 _ _ ?_ (by simp only[jg,jj];omega) (by simp only[jg,jj]);simp(disch:=first|decide|omega|(simp only[jg,jj];omega)) only[jH,jA,jE];exact V
    ·have k5:¬ (t.kind:Int)=5:=λh=>hn (hk.1.1 om)
     (have zz:=a4 V.ln @jA @jE (aI @V (aI C0.r C1.r));(repeat'(first|apply jb<;>intro _|simp(disch:=first|exact jl9|fail) only[ja i3,ja i4,ja i5,B1,N1,A,V.at,C0.q,C1.q,V.ln,jA,jE,V,C0.r,C1.r,Tk.cells_R,rzZ,δ,ε,ζ,η,θ]));all_goals clear zz)
     have hA:=jg3 (acc:=acc) (show yZ ((l.drop a).drop (qe (l.drop a))) (qg p ((l.drop a).take (qe (l.drop a))))=(0,t,n) by rw[hg,hq];exact hx) hn;rw[hg,hq] at hA;simp only[Qbu,<-Qbs] at hA;refine⟨l.length - (a+g+n),om,a+g+n,qg q ((l.drop (a+g)).take n),acc ++ [t],?_,om,rfl,om,om,W2.2.2,by rw[υ,Qbk];omega,by rw[<-h5,hA],om,?_,?_,?_,?_,?_,?_⟩;rotate_left
     ·simp(disch:=first|decide|omega|(simp only[jg,jj];omega)) only[V.cl,jB,jD];exact C0
     ·simp(disch:=first|decide|omega|(simp only[jg,jj];omega)) only[V.cl,jB,jD];exact(C1.wr0 (by rfl)).wr0 (by rfl)
     ·refine V2 _ _ ?_ ?_ ?_;all_goals first|(simp only[jg,jj];done)|(simp only[jg,jj];omega)|(simp(disch:=first|decide|omega|(simp only[jg,jj];omega)) only[jH,jA,jE];exact V)
     ·simp(disch:=decide) only[h12,i3]
     ·simp(disch:=decide) only[h12,i4]
     ·simp(disch:=decide) only[h12]
   ·(have zz:=a4 V.ln @jA @jE (aI @V (aI C0.r C1.r));(repeat'(first|apply jb<;>intro _|simp(disch:=first|exact jl9|fail) only[ja i3,ja i4,ja i5,B1,N1,A,V.at,C0.q,C1.q,V.ln,jA,jE,V,C0.r,C1.r,Tk.cells_R,rzZ,δ,ε,ζ,η,θ]));all_goals clear zz)
    rw[<-h5,aE he];exact FzD.tup (.cons .nils (.cons (.agg (.pc (by rfl))) .nil))
  ·refine⟨0,(1,1),[],.nils,om,rfl,om,om,τ _,Qae _,jjQ _ _,τ _,?_,?_,Lv.nil,?_⟩
   ·simp(disch:=first|assumption|decide|omega|(simp only[jg,jj,jq,jt,jp,yq,φ,ω];first|done|omega)) only[jB,jD,jz];exact Cl.new st0 _
   ·exact Cl.new (nw st0 _) _
   ·simp(disch:=decide) only[h12]
def jkK:XC:=(OL (T4 2 4) [OP 5 2,oI 6 5,Ic 7 .eql 6 3,oz 8 7,Oq 9 8 0 2,Ow 10 8 9,O7 11 8 .eql 10 4,Td 12 8 11,oz 13 12,I0 14 13 1,Oz 15 13 1 2,Ox 16 13 15,Tn 17 (13,true) 144 [14,16],Tc 18 13 17,TM 18])
def jqe:XF:=⟨[0,1],jkK,[(.t 4)]⟩
theorem juC:jy γ 119=some jqe:=by kernel_rfl
def jkH:XC:=(OV [TU 3,IE 4 1,IE 5 2,TA 6] (IV [O0 7 14] 0 (.seq (O5 [oz 8 7,O4 9 .lss 8 31] 9 (.exit 0)) (IA 1 (Os [Tr 12 7,(TS 13 147 12 0 [],some [OQ 13,Ia (Tw 14 3) 0,Ik (oI 15 14) 14 9 [(1,0)],Ia (Ib 16 Ir) 0]),IY 14 1 3,On 15 14 14 9 [(1,0)],IP (ow 16 (.strb .eql 13 15))] (Tj 16 [oz 17 7,Ta 18 4,Ta 19 5,Iu 20 2 6 OJ [((0,6),18),((6,6),19)],Tm 21 3,oI 22 21,oF 23 4 3,oI 24 23,Iw 25 OJ [((0,1),17),((3,1),20),((4,1),22),((5,1),24)],TW 6 25] .skip)) [oz 10 7,TB 11 10 1,oy 7 11]))) [Iw 26 OJ [],TW 6 26])
def jqb:XF:=⟨[0,1,2],jkH,[(.cA 6 6)]⟩
theorem juz:jy γ 129=some jqb:=by kernel_rfl
def z94:XC:=(OL [O6 0] [TJ 1 1 oK [Ov 0 [60,45,62]],Iw 2 [.nils,oB] [((0,1),1),((1,1),ON)],TJ 3 1 oK [Ov 0 [45,62]],Iw 4 [.nils,oB] [((0,1),3),((1,1),Th)],TJ 5 1 oK [OU 0 124],Iw 6 [.nils,oB] [((0,1),5),((1,1),ON)],TJ 7 1 oK [OU 0 38],Iw 8 [.nils,oB] [((0,1),7),((1,1),ON)],TJ 9 4 oK [OU 0 85,OU 1 82,OU 2 83,OU 3 84],Iw 10 [.nils,oB] [((0,1),9),((1,1),Th)],TJ 11 6 oK [OU 0 61,Ov 1 [33,61],OU 2 60,Ov 3 [60,61],OU 4 62,Ov 5 [62,61]],Iw 12 [.nils,oB] [((0,1),11),((1,1),IT 2)],TJ 13 2 oK [OU 0 43,OU 1 45],Iw 14 [.nils,oB] [((0,1),13),((1,1),ON)],TJ 15 1 oK [OU 0 42],Iw 16 [.nils,oB] [((0,1),15),((1,1),ON)],Iu 17 8 2 [.nils,oB] [((0,2),2),((2,2),4),((4,2),6),((6,2),8),((8,2),10),((10,2),12),((12,2),14),((14,2),16)],oy 0 17])
def y94:XF:=⟨[],z94,[(.t 0)]⟩
theorem x94:jy γ 101=some y94:=by kernel_rfl
def z77:XC:=(ov [IE 3 1] (OA [IZ 4,O4 5 .geq 4 32] 5 [oV 6 5 3,Oy 7 74 6]))
def y77:XF:=⟨[0,1],z77,[]⟩
theorem x77:jy γ 87=some y77:=by kernel_rfl
def z50:XC:=(ov [TU 1] (.ops [Tm 2 1,oI 3 2,oF 4 4 1,oI 5 4,Iw 6 [oB,oB,oB] [((0,1),IT 151),((1,1),3),((2,1),5)],ol 7 (.iface 45 6),o4 (.pan 7)]))
def y50:XF:=⟨[0],z50,[]⟩
theorem x50:jy γ 74=some y50:=by kernel_rfl
def z49:XC:=(oY [o9 2 [oB,oK,oB,oB,oB]] (.cops [Lc 3,IG (IR 4 3),IG (OP 5 4),OS 6 5,Lc 7,IG (IR 8 7),IG (Tw 9 8),OS 10 9,IG (Il 11 5 6 10),IG (oV 12 5 11),IG (o6 5 2 12)]) .ret)
def y49:XF:=⟨[0],z49,[(.cA 2 5)]⟩
theorem x49:jy γ 73=some y49:=by kernel_rfl
def z76:XC:=(ov (TH (o9 4 [oB,oK,oB,oB,oB]) 5) (Og [IZ 7,Oy 8 73 7,o9 6 [oB,oK,oB,oB,oB],o6 5 6 8] [oV 9 5 6,OZ 10,OB 11 119 9 10,OW 12 11] 12 [oV 13 5 6,o6 5 4 13,Om 5] (OL [IZ 14,IR 15 14,Tw 16 15,oI 17 16,TB 18 17 1,IR 19 14,Tw 20 19,o6 1 20 18] [oV 21 5 6,o6 5 4 21,Tb 5])))
def y76:XF:=⟨[0,1],z76,[(.cA 4 5),(.t 5)]⟩
theorem x76:jy γ 86=some y76:=by kernel_rfl
def Gw:XC:=(ov [IZ 7,OZ 8,TJ 9 1 oK [((0,1),8)],OB 10 86 7 9,oz 6 10,Tx 11 6,Ty 12 6,o9 4 [oB,oK,oB,oB,oB],o6 5 4 11,oy 5 12] (OA [Ld 13,OW 14 13] 14 [oV 15 5 4,Oy 16 74 15]))
def jk6:XF:=⟨[0,1],Gw,[]⟩
theorem jqC:jy γ 121=some jk6:=by kernel_rfl
def jbN:XC:=(ov [o9 2 [oB,oK,oB,oB,oB]] (oY [IZ 4,Oy 5 73 4,o9 3 [oB,oK,oB,oB,oB],o6 5 3 5] (OA [OP 6 3,oI 7 6,O4 8 .neq 7 1] 8 [oV 9 5 3,Oy 10 74 9]) (OL [IZ 11,IR 12 11,Tw 13 12,oI 14 13,TB 15 14 1,IR 16 11,Tw 17 16,o6 1 17 15] [oV 18 5 3,o6 5 2 18])))
def jk7:XF:=⟨[0],jbN,[(.cA 2 5)]⟩
theorem jqD:jy γ 120=some jk7:=by kernel_rfl
def Wz:XC:=(O9 [I3 2] [IZ 7,TJ 8 1 oK [OU 0 45],OB 9 86 7 8,oz 6 9,Tx 10 6,Ty 11 6,ol 3 (.alloc [oB,oK,oB,oB,oB]),o6 5 3 10,TM 11] (oY [IZ 12,Oy 13 73 12,o9 5 [oB,oK,oB,oB,oB],o6 5 5 13] (OA [OP 14 5,oI 15 14,O4 16 .neq 15 2] 16 [oV 17 5 5,Oy 18 74 17]) (Og [IZ 19,IR 20 19,Tw 21 20,oI 22 21,TB 23 22 1,IR 24 19,Tw 25 24,o6 1 25 23] [oy 26 4] 26 [Lg 27 5,oI 28 27,ol 29 (.un .neg 28),Tq 29] (o5 [Lg 30 5,oI 31 30,Tq 31]))))
def jbP:XF:=⟨[0],Wz,[(.t 2)]⟩
theorem jfO:jy γ 122=some jbP:=by kernel_rfl
def jbL:XC:=(ov [IZ 2,IR 3 2,Lg 4 3,oI 5 4,TB 6 5 1,IR 7 2,Lg 8 7,o6 1 8 6] (OA [IZ 9,IR 10 9,Lg 11 10,oI 12 11,O4 13 .gtr 12 60] 13 [IZ 14,Oy 15 73 14,Oy 16 74 15]))
def jk4:XF:=⟨[0],jbL,[]⟩
theorem jqA:jy γ 146=some jk4:=by kernel_rfl
def QE:XC:=(O9 [TA 2] [IZ 5,Oy 6 73 5,o9 3 [oB,oK,oB,oB,oB],o6 5 3 6] (oY [Tm 7 3,oI 8 7,oF 9 4 3,oI 10 9,Iw 11 OJ [((4,1),8),((5,1),10)],TA 4,TW 4 11] (.block 0 (oL [OP 15 3,oI 16 15,Ic 17 .eql 16 2,oy 14 17] 14 (.dops [IY 18 2 3,Tt 19 18 18 2,IY 20 0 4,Tz 1 20 Th [(1,2)],IY 21 1 4,TV 1 21 19]) (oL [OP 23 3,oI 24 23,Ic 25 .eql 24 1,oy 22 25] 22 (.dops [IY 26 1 3,Tt 27 26 26 9,IY 28 0 4,Tz 1 28 (IT 3) [(1,9)],IY 29 2 4,TV 1 29 27]) (oL [oV 31 5 3,TJ 32 1 oK [Ov 0 [116,114,117,101]],OB 33 119 31 32,oy 30 33] 30 (.ops [OP 34 4,o6 1 34 (IT 2),Tw 35 4,o6 1 35 Th]) (oL [oV 37 5 3,TJ 38 1 oK [Ov 0 [102,97,108,115,101]],OB 39 119 37 38,oy 36 39] 36 (.ops [OP 40 4,o6 1 40 (IT 2)]) (oL [oV 42 5 3,TJ 43 1 oK [OU 0 40],OB 44 119 42 43,oy 41 44] 41 (O9 [IZ 45,IR 46 45,Tw 47 46,oI 48 47,TB 49 48 1,IR 50 45,Tw 51 50,o6 1 51 49] [IZ 52,Oy 53 146 52] (O9 [IZ 54,Iq 55 101 [],OB 56 100 54 55,TW 4 56] [IZ 57,IR 58 57,Lg 59 58,oI 60 59,Ic 61 .sub 60 1,IR 62 57,Lg 63 62,o6 1 63 61] (OL [IZ 64,OB 65 121 64 (o8 [41])] [Ta 66 4,TW 2 66]))) (.ops [oV 12 5 3,Oy 13 74 12]))))))) (OL [IZ 67,IR 68 67,Tw 69 68,oI 70 69,TB 71 70 1,IR 72 67,Tw 73 72,o6 1 73 71] [Ta 74 4,TW 2 74])))
def uR:XF:=⟨[0],QE,[(.cA 2 6)]⟩
theorem WB:jy γ 145=some uR:=by kernel_rfl
def vu:XC:=(ov [TA 2] (Og [IZ 8,TJ 9 9 oK [OU 0 45,OU 1 33,OU 2 88,OU 3 70,OU 4 71,OU 5 89,OU 6 90,OU 7 79,OU 8 72],OB 10 86 8 9,oz 7 10,Tx 11 7,Ty 12 7,o9 3 [oB,oK,oB,oB,oB],o6 5 3 11,TM 12] [TZ 13,OW 14 13] 14 [IZ 15,Oy 16 145 15,TW 2 16] (ov [IZ 17,Oy 18 146 17] (O9 [IZ 19,Oy 20 128 19,TA 5,TW 5 20] [IZ 21,IR 22 21,Lg 23 22,oI 24 23,Ic 25 .sub 24 1,IR 26 21,Lg 27 26,o6 1 27 25] (OV [O0 6 5] (Ie 0 (.seq (Os [Tr 28 6,(TS 29 147 28 0 [],some [OQ 29,Ia (Tw 30 3) 0,Ik (oI 31 30) 30 9 [(1,0)],Ia (Ib 32 Ir) 0]),IY 30 1 3,On 31 30 30 9 [(1,0)],IP (ow 32 (.strb .neq 29 31))] (IU 32 0)) (.block 1 (.ops [T0 33,TB 34 33 1,oy 6 34])))) [T0 35,Ta 36 5,Iu 37 1 6 OJ [((0,6),36)],Tm 38 3,oI 39 38,oF 40 4 3,oI 41 40,Iw 42 OJ [((0,1),35),((3,1),37),((4,1),39),((5,1),41)],TW 2 42])))))
def Gy:XF:=⟨[0],vu,[(.cA 2 6)]⟩
theorem jb0:jy γ 128=some Gy:=by kernel_rfl
def z93:XC:=(Og [TA 4] [OZ 8,I5 9 8,ow 10 (TK 9)] 10 [IZ 11,Oy 12 128 11,TW 4 12] (IV [IZ 13,OZ 14,ol 15 (.slS 2 14 (some Th) none),OB 16 100 13 15,TA 5,TW 5 16] 0 (.block 1 (Og [IZ 18,OZ 19,Il 20 2 19 ON,OP 21 20,oI 22 21,OB 23 86 18 22,oz 17 23,Tx 24 17,Ty 25 17,o9 6 [oB,oK,oB,oB,oB],o6 5 6 24,oy 7 25] [oz 26 7,OW 27 26] 27 [Ta 28 5,TW 4 28] (.seq (Id [OZ 29,Il 30 2 29 ON,Tw 31 30,oI 32 31,O4 33 .eql 32 1] 33 (Lj [La 34 5 6 6 146,La 35 6 5 5 29,IP (IZ 36),IP (OZ 37),(Iy (OB 38 100 36 37) 0 [(2,29),(3,146)],OK),(Iy (Iq 39 129 [34,35,38]) 0 [],OK),TV 6 4 39])) (Os [La 40 5 6 6 146,La 41 6 5 5 29,IP (IZ 42),IP (OZ 43),IP (ol 44 (.slS 2 43 (some Th) none)),(Iy (OB 45 100 42 44) 0 [(3,29),(4,146)],OK),(Iy (Iq 46 129 [40,41,45]) 0 [],OK),TV 6 5 46] (Iz [OZ 47,Il 48 2 47 ON,Tw 49 48,oI 50 49,O4 51 .eql 50 2] 51 [Ta 52 5,TW 4 52])))))))
def y93:XF:=⟨[0,1],z93,[(.cA 4 6)]⟩
theorem x93:jy γ 100=some y93:=by kernel_rfl
def z48:XC:=(O9 [TA 2] [IZ 5,Oy 6 73 5,o9 3 [oB,oK,oB,oB,oB],o6 5 3 6] (OV [IZ 7,Iq 8 101 [],OB 9 100 7 8,TA 4,TW 4 9] (OA [Ta 10 4,Oy 11 102 10,OW 12 11] 12 [oV 13 5 3,Oy 14 74 13]) [Ta 15 4,TW 2 15]))
def y48:XF:=⟨[0],z48,[(.cA 2 6)]⟩
theorem x48:jy γ 72=some y48:=by kernel_rfl
def jkw:XC:=(ov [Ib 2 oK] (Og [Iw 4 [oK,oK,oK,oK,oK,oK,oK,oK,oK,oK,oK,oK,oK,oK,oK,oK,oK,oK,oK,oK,oK,oK,oK,oK,oK,oK] [OU 0 45,OU 1 33,OU 2 88,OU 3 70,OU 4 71,OU 5 89,OU 6 90,OU 7 79,OU 8 72,OU 9 42,OU 10 43,OU 11 45,OU 12 61,Ov 13 [33,61],OU 14 60,Ov 15 [60,61],OU 16 62,Ov 17 [62,61],OU 18 85,OU 19 82,OU 20 83,OU 21 84,OU 22 38,OU 23 124,Ov 24 [45,62],Ov 25 [60,45,62]],o9 3 [oK,oK,oK,oK,oK,oK,oK,oK,oK,oK,oK,oK,oK,oK,oK,oK,oK,oK,oK,oK,oK,oK,oK,oK,oK,oK],o6 26 3 4] [IZ 5,Ic 6 .lss 5 5,T0 7,II 8 7 0,O7 9 7 .geq 8 31,Lf 10 7 9] 10 [Ib 2 oK] (o5 [IZ 11,Ic 12 .sub 11 5,OM 13 26 1 3 12,oI 14 13,Tq 14])))
def jpZ:XF:=⟨[0],jkw,[(.t 2)]⟩
theorem jun:jy γ 147=some jpZ:=by kernel_rfl
def jkv:XC:=(OV [I3 2] (.block 0 (oL [IZ 4,Ic 5 .geq 4 5,Ld 6,I0 7 6 0,Te 8 6 .leq 7 13,Tc 9 6 8,oy 3 9] 3 (o5 [O0 2 1]) (Iz [IZ 11,Ic 12 .geq 11 14,oz 13 12,I0 14 13 0,Te 15 13 .lss 14 31,Tc 16 13 15,oy 10 16] 10 [O0 2 2]))) [I3 2])
def jpY:XF:=⟨[0],jkv,[(.t 2)]⟩
theorem jum:jy γ 148=some jpY:=by kernel_rfl
def jku:XC:=(OV (T4 1 2) (T9 [OP 3 1,Oi 4 3] 0 (Tf 6 4 1 5 6 5 [Tw 7 1,oI 8 7,ol 9 (O8 .geq 8),oz 10 9,Oz 11 10 1 1,Ox 12 10 11,Te 13 10 .leq 12 1000000,Tc 14 10 13,oz 15 14,Oz 16 15 2 1,Ox 17 15 16,Ih 18 15 (.strb .eql 17 (.c oK)),Tc 19 15 18,Tq 19] (Tf 21 4 2 20 21 20 [Tw 22 1,oI 23 22,ol 24 (TK 23),oz 25 24,Oq 26 25 1 1,Ow 27 25 26,O7 28 25 .eql 27 1,Td 29 25 28,oz 30 29,Oz 31 30 2 1,Ox 32 30 31,Ih 33 30 (.strb .eql 32 (.c oK)),Tc 34 30 33,Tq 34] (Tf 36 4 3 35 36 35 [Tw 37 1,oI 38 37,ol 39 (TK 38),oz 40 39,Oz 41 40 2 1,Ox 42 40 41,Tn 43 (40,true) 165 [42],Tc 44 40 43,Tq 44] (Iz (IW 46 4 4 45 46) 45 [Lg 47 1,oI 48 47,Ts 49 48 (.c oK),Tq 49]))))) [Tw 50 1,oI 51 50,ol 52 (TK 51),oz 53 52,Oz 54 53 2 1,Ox 55 53 54,Ih 56 53 (.strb .eql 55 (.c oK)),Tc 57 53 56,Tq 57])
def jpX:XF:=⟨[0],jku,[(.t 2)]⟩
theorem jul:jy γ 149=some jpX:=by kernel_rfl
def z95:XC:=(OL (T4 1 2) [Ta 3 1,OB 4 130 3 (IT 60),Tq 4])
def y95:XF:=⟨[0],z95,[(.t 2)]⟩
theorem x95:jy γ 102=some y95:=by kernel_rfl
def jbM:XC:=(OV [TU 2,IE 3 1,Om 4] (Os [IY 5 0 2,Tt 6 5 5 3,IP (Ic 7 .lss 6 1),Tr 8 7,IP (Oq 9 8 0 2),ID (Ow 10 8 9) 9 3 [],IP (O7 11 8 .geq 10 31),IP (Td 12 8 11),Tr 13 12,ID (Ow 14 13 3) 3 3 [],IP (O7 15 13 .lss 14 1),IP (Td 16 13 15),Tr 17 16,IP (Oq 18 17 3 2),ID (Ow 19 17 18) 18 27 [],IP (TR 20 17 19),IP (Oq 21 17 0 2),ID (Ow 22 17 21) 21 3 [],(Iy (Li 23 17 148 [22]) 0 [(3,27)],OK),IP (Ig 24 17 (.bin .neq 20 23)),IP (Td 25 17 24),Tr 26 25,ID (O1 27 26 6 2) 2 29 [],(Iy (Li 28 26 149 [27]) 0 [],OK),IP (TT 29 26 28),IP (Lf 30 26 29)] (Tj 30 Tv .skip)) [Tm 31 2,oI 32 31,ol 33 (.fn 151 [3]),OB 34 150 32 33,TN 35 34,TM 35])
def jk5:XF:=⟨[0,1],jbM,[(.t 4)]⟩
theorem jqB:jy γ 130=some jk5:=by kernel_rfl
def jks:XC:=(OL (T4 2 3) [Ta 4 2,oI 5 1,Ic 6 .sub 5 1,OB 7 130 4 6,TN 8 7,oy 3 8])
def jpV:XF:=⟨[0,1],jks,[(.t 3)]⟩
theorem juj:jy γ 151=some jpV:=by kernel_rfl
def jkt:XC:=(OL Tv [IZ 5,OZ 6,OB 7 166 5 6,ol 8 (O8 .geq 7),TM 8])
def jpW:XF:=⟨[0,1],jkt,[(.t 4)]⟩
theorem juk:jy γ 150=some jpW:=by kernel_rfl
def jkn:XC:=(OV [I3 4] (T8 [IZ 6,IQ 7 6,I3 8] 0 9 8 7 9 0 1 (Tg 10 8 5 10) (Iz [OZ 11,IZ 12,Ld 13,Il 14 6 12 13,Ta 15 14,T6 16 11 [15]] 16 (Tg 17 5 4 17)) 18 8 8 18) [O0 4 (-(0+1))])
def jpQ:XF:=⟨[0,1],jkn,[(.t 4)]⟩
theorem jue:jy γ 166=some jpQ:=by kernel_rfl
def jkx:XC:=(OL Tv [IZ 5,OZ 6,OB 7 164 5 6,ol 8 (O8 .geq 7),TM 8])
def jp0:XF:=⟨[0,1],jkx,[(.t 4)]⟩
theorem juo:jy γ 144=some jp0:=by kernel_rfl
def jkp:XC:=(OV [I3 4] (T8 [IZ 6,IQ 7 6,I3 8] 0 9 8 7 9 0 1 (Tg 10 8 5 10) (Iz [OZ 11,IZ 12,Ld 13,Lk 14 12 13,oI 15 14,ow 16 (.strb .eql 11 15)] 16 (Tg 17 5 4 17)) 18 8 8 18) [O0 4 (-(0+1))])
def jpS:XF:=⟨[0,1],jkp,[(.t 4)]⟩
theorem jug:jy γ 164=some jpS:=by kernel_rfl
def jko:XC:=(Og Ll [IZ 3,Ts 4 3 (.c oK),TZ 5,II 6 5 0,Ig 7 5 (.lenS 6),O7 8 5 .gtr 7 32,Td 9 5 8,oz 10 9,II 11 10 0,Ig 12 10 (.ixStr 11 ON),Li 13 10 113 [12],TT 14 10 13,Td 15 10 14,oz 16 15,II 17 16 0,Li 18 16 115 [17],Lf 19 16 18] 19 Ll (o5 [IZ 20,OB 21 108 20 (oR 114 []),IZ 22,ol 23 (.lenS 22),IX 24 .eql 21 23,Tq 24]))
def jpR:XF:=⟨[0],jko,[(.t 2)]⟩
theorem juf:jy γ 165=some jpR:=by kernel_rfl
theorem dzD {p:Prop}(h:p:=by first|assumption|decide|omega|(simp only[qT,Tk.cells_E,rzN,φ,ω];first|done|omega)|(apply Ql<;>first|omega|((simp(disch:=first|assumption|omega|(simp only[qT,Tk.cells_E,rzN,φ,ω];first|done|omega)) only[rzL,φ,ω,Qam,δ,qT,Tk.cells_E ])<;>first|done|omega))|(simp(disch:=first|assumption|omega|(simp only[qT,Tk.cells_E,rzN,φ,ω];first|done|omega)) only[qT,Tk.cells_E,rzG,ν,ξ,ε,QaN,φ,ω,Qaj,Qan];first|done|omega|decide)):p:=h
theorem cyD {p:Prop}(h:p:=by apply Ql<;>first|omega|((simp(disch:=first|assumption|omega|(simp only[qT,Tk.cells_E,rzN,φ,ω];first|done|omega)) only[rzL,φ,ω,Qam,δ,qT,Tk.cells_E])<;>first|done|rfl|omega|(simp;done)|(simp;omega))):p:=h
theorem qU {p:Prop}(h:p:=by first|assumption|decide|omega|(simp only[qT,Tk.cells_E,zz,rzN,φ,ω];first|done|omega)|(apply Ql<;>first|omega|((simp(disch:=first|assumption|omega|(simp only[qT,Tk.cells_E,zz,rzN,φ,ω];first|done|omega)) only[rzL,φ,ω,Qam,δ,qT,Tk.cells_E,zz ])<;>first|done|omega))|(simp(disch:=first|assumption|omega|(simp only[qT,Tk.cells_E,zz,rzN,φ,ω];first|done|omega)) only[qT,Tk.cells_E,zz,rzG,ν,ξ,ε,QaN,φ,ω,Qaj,Qan];first|done|omega|decide)):p:=h
theorem qp {p:Prop}(h:p:=by apply Ql<;>first|omega|((simp(disch:=first|assumption|omega|(simp only[qT,Tk.cells_E,zz,rzN,φ,ω];first|done|omega)) only[rzL,φ,ω,Qam,δ,qT,Tk.cells_E,zz])<;>first|done|rfl|omega|(simp;done)|(simp;omega))):p:=h
theorem vyD {p:Prop}(h:p:=by first|exact FzD.u|exact FzD.pa (by rfl)|exact FzD.agg (.pc (by rfl))|exact FzD.tup (.cons (FzD.agg (.pc (by rfl))) (.pc (by rfl)))|exact FzD.iface (FzD.agg (.pc (by rfl)))|exact YI|(rw[<-qJ];exact FzD.agg (.pc (q9 _)))|exact FzD.agg (.pc (by simp only[q9,Tk.cells_p]))):p:=h
theorem VH {S:List (List Nat)}{k:Nat}(h:k<S.length):(S.map AV.str).getD k .bad=.str S[k]:=by simp[Qad,h]
theorem r6:type_of%(aI @jd (aI @Tk.cells_R @rzZ)):=aI @jd (aI @Tk.cells_R @rzZ)
theorem jnY (hb:NB base)(S:List (List Nat))(hn:S.length<=1000000)(x:List Nat):Tot base 164 [.lst S.length (S.map .str),.str x] (.int .i64 (fi (λy=>decide (x=y)) S)):=by
 refine hb.tot ?_ rfl rfl;refine jG jug (by rfl) (hb.pur 164 1 dc) ?_;simp only[jpS,jr,κ,μ,ν,ξ];rw[(by unfold jkp;simp only[qq];rfl:jkp=_)];repeat'(first|apply jb<;>intro _|simp(disch:=first|exact dzD|fail) only[r6,δ,ε,ζ,η,θ])
 refine jX S.length (λk L s=>(∀ j (h1:j<S.length),j<k->decide (x=S[j])=false)/\Has L 0 (.lst S.length (S.map .str))/\Has L 1 (.str x)) ?_ (λk L s hk hI hi hn=>?_) (λL s hI=>?_)
 ·refine⟨λj _ hj=>absurd hj (Qay _),?_⟩;simp(disch:=decide) only[h12]
 ·obtain⟨h0,i0,i1⟩:=hI;have hl:(S.map AV.str).length=S.length:=Qah ..;have e:=VH hk
  (have zz:=@hl;(repeat'(first|apply jb<;>intro _|simp(disch:=first|exact qU|fail) only[ja i0,ja i1,ja hi,Jh,e,hl,r6,δ,ε,ζ,η,θ]));all_goals clear zz)
  ·exact G0.v (by rw[uD hk (λj hj=>h0 j om hj) (by simpa using ‹x=S[k]›)]) rfl
  ·refine⟨⟨λj h1 hj=>?_,?_⟩,?_⟩
   ·rcases Qav j k with h|h
    ·simpa using h0 j h1 h
    ·have:j=k:=om
     subst this;simpa using ‹¬ x=S[j]›
   ·simp(disch:=decide) only[h12,i0,i1]
   ·simp(disch:=decide) only[h12,hi,hn]
 ·obtain⟨h0,i0,i1⟩:=hI;repeat'(first|apply jb<;>intro _|simp(disch:=first|exact dzD|fail) only[r6,δ,ε,ζ,η,θ])
  exact G0.v (by rw[uC λj hj=>h0 j hj hj];rfl) rfl
theorem jbv {α:Type}(q:α->Bool):∀ xs:List α,decide (0<=fi q xs)=xs.any q
 |[]=>rfl
 |x :: xs=>by
  have ih:=jbv q xs;by_cases h:q x=true
  ·simp[fi,h]
  ·rw[QbL,<-ih];simp only[fi,h,if_false,Bool.false_or];by_cases h2:fi q xs<0
   ·rw[if_pos h2];simp;omega
   ·rw[if_neg h2];simp;omega
theorem jpe (x:List Nat)(S:List (List Nat)):(S.any λy=>decide (x=y))=decide (x∈S):=by
 induction S with
 |nil=>rfl
 |cons y S ih=>rw[QbL,ih];simp
theorem jsU (hb:NB base)(S:List (List Nat))(hn:S.length<=1000000)(x:List Nat):Tot base 144 [.lst S.length (S.map .str),.str x] (.bool (decide (x∈S))):=by
 refine hb.tot ?_ rfl rfl;refine jG juo (by rfl) (hb.pur 144 1 dc) ?_;simp only[jp0,jr,κ,μ,ν,ξ];rw[(by unfold jkx;simp only[qq];rfl:jkx=_)];repeat'(first|apply jb<;>intro _|simp(disch:=first|exact dzD|fail) only[jnY hb S hn x,r6,δ,ε,ζ,η,θ])
 exact G0.v (by rw[jbv,jpe]) rfl
def isM (t:Tk)(S:List (List Nat)):Bool:=decide (t.kind=3\/t.kind=4) && decide (t.text∈S)
theorem jsP (hb:NB base)(t:Tk)(S:List (List Nat))(hn:S.length<=1000000):PX γ base 119 [.agg t.cells,.lst S.length (S.map .str)] (.ok (.bool (isM t S))):=by
 refine jG juC (by rfl) (hb.pur 119 1 dc) ?_;simp only[jqe,jr,κ,μ,ν,ξ];rw[(by unfold jkK;simp only[qq];rfl:jkK=_)];repeat'(first|apply jb<;>intro _|simp(disch:=first|exact dzD|fail) only[jsU hb S hn,r6,δ,ε,ζ,η,θ])
 all_goals(refine G0.v ?_ rfl;unfold isM;simp;try omega)
theorem jsO (hb:NB base)(t:Tk)(S:List (List Nat))(hn:S.length<=1000000):Tot base 119 [.agg t.cells,.lst S.length (S.map .str)] (.bool (isM t S)):=hb.tot (jsP hb t S hn) rfl rfl
def er (t:Tk):AV:=.iface 45 (.agg [.int .i64 151,.int .i64 (t.line:Int),.int .i64 (t.col:Int)])
theorem G0.er (t:Tk){s:St}:G0 (er t) (.iface 45 (.agg [.int .i64 151,.int .i64 (t.line:Int),.int .i64 (t.col:Int)])) s:=FzD.iface (FzD.agg (.pc rfl))
theorem Qv (hb:NB base)(t:Tk):Ret base 74 [.agg t.cells] (.pn (er t)):=by
 refine hb.ret ?_ rfl rfl;refine jG x50 (by rfl) (hb.pur 74 1 dc) ?_;simp only[y50,jr,κ,μ,ν,ξ];rw[(by unfold z50;simp only[qq];rfl:z50=_)];repeat'(first|apply jb<;>intro _|simp(disch:=first|exact dzD|fail) only[r6,δ,ε,ζ,η,θ])
 exact G0.er t
theorem jrF (hb:NB base)(op:Int):Tot base 148 [.int .i64 op] (.int .i64 (if 5<=op/\op<=13 then 1 else if 14<=op/\op<31 then 2 else 0)):=by
 refine hb.tot ?_ rfl rfl;refine jG jum (by rfl) (hb.pur 148 1 dc) ?_;simp only[jpY,jr,κ,μ,ν,ξ];rw[(by unfold jkv;simp only[qq];rfl:jkv=_)];repeat'(first|apply jb<;>intro _|simp(disch:=first|exact dzD|fail) only[r6,δ,ε,ζ,η,θ])
 all_goals(refine G0.v ?_ rfl;repeat' split)<;>first|rfl|(exfalso;omega)|(simp_all;done)|(simp;omega)|(simp_all;omega)
def w5:List (List Nat):=[[45],[33],[88],[70],[71],[89],[90],[79],[72],[42],[43],[45],[61],[33,61],[60],[60,61],[62],[62,61],[85],[82],[83],[84],[38],[124],[45,62],[60,45,62]]
def sgn (op:Int):List Nat:=if 5<=op/\op<31 then w5.getD (op - 5).toNat [] else []
theorem jjW (hb:NB base)(op:Int):Tot base 147 [.int .i64 op] (.str (sgn op)):=by
 refine hb.tot ?_ rfl rfl;refine jG jun (by rfl) (hb.pur 147 1 dc) ?_;simp only[jpZ,jr,κ,μ,ν,ξ];rw[(by unfold jkw;simp only[qq];rfl:jkw=_)];repeat'(first|apply jb<;>intro _|simp(disch:=first|exact dzD|fail) only[r6,δ,ε,ζ,η,θ])
 ·exact G0.v (by rw[sgn,if_neg om]) rfl
 ·exact G0.v (by rw[sgn,if_neg om]) rfl
 ·have h26:(op - 5).toNat<w5.length:=by show(op - 5).toNat<26;omega
  show G0 _ ((w5.map AV.str).getD _ _) _;rw[QaN,VH h26];exact G0.v (by rw[sgn,if_pos om,Qaq,Qag h26];rfl) rfl
def nm (l:List Nat):Bool:=decide (l≠[]) && decide (l.length<=32) && zV (l.getD 0 0) && !G3 l && decide (ya Jq l=l.length)
theorem jsM (hb:NB base)(l:List Nat)(hl:l.length<=4611686018427387904):Tot base 165 [.str l] (.bool (nm l)):=by
 refine hb.tot ?_ rfl rfl;have e0:¬ l=[]->0<l.length:=λh=>by cases l<;>simp_all
 refine jG juf (by rfl) (hb.pur 165 1 dc) ?_;simp only[jpR,jr,κ,μ,ν,ξ];rw[(by unfold jko;simp only[qq];rfl:jko=_)];by_cases h:l=[]
 ·subst h;repeat'(first|apply jb<;>intro _|simp(disch:=first|exact dzD|fail) only[r6,δ,ε,ζ,η,θ])
  exact G0.v rfl rfl
 ·have e1:(0:Int)<(l.length:Int):=by have:=e0 h;omega
  repeat'(first|apply jb<;>intro _|simp(disch:=first|exact dzD|fail) only[Kk hb,jjZ hb,K7 hb l hl (jeU hb),h,e1,r6,δ,ε,ζ,η,θ])
  all_goals(refine G0.v (congrArg AV.bool ?_) rfl;rw[QaE];unfold nm;simp_all<;>omega)
def uv (x:Ex):Bool:=
 if x.op=1 then decide (0<=x.num) && decide (x.num<=1000000) && decide (x.name=[])
 else if x.op=2 then(decide (x.num=0) ||decide (x.num=1)) && decide (x.name=[])
 else if x.op=3 then decide (x.num=0) && nm x.name
 else if x.op=4 then decide (x.name=[])
 else decide (x.num=0) && decide (x.name=[])
theorem jrE (hb:NB base)(x:Ex)(hl:x.name.length<=4611686018427387904):Tot base 149 [.agg (eE x)] (.bool (uv x)):=by
 refine hb.tot ?_ (by first|rfl|simp[pa,pc,q9,Tk.cells_p]) rfl;refine jG jul (by rfl) (hb.pur 149 1 dc) ?_;simp only[jpX,jr,κ,μ,ν,ξ];rw[(by unfold jku;simp only[qq];rfl:jku=_)];repeat'(first|apply jb<;>intro _|simp(disch:=first|exact dzD|fail) only[jsM hb _ hl,r6,δ,ε,ζ,η,θ])
 all_goals(refine G0.v ?_ rfl;simp only[uv];simp[*];try omega)
theorem jh9 (hb:NB base)(n:Nat)(t:Tk):Ret base 87 [.int .i64 (n:Int),.agg t.cells] (if 32<=n then .pn (er t) else .ok (.tup [])):=by
 refine hb.ret ?_ rfl rfl;refine jG x77 (by rfl) (hb.pur 87 1 dc) ?_;simp only[y77,jr,κ,μ,ν,ξ];rw[(by unfold z77;simp only[qq];rfl:z77=_)];repeat'(first|apply jb<;>intro _|simp(disch:=first|exact dzD|fail) only[Qv hb,r6,δ,ε,ζ,η,θ])
 ·rw[if_pos om];exact FzD.iface (FzD.agg (.pc rfl))
 ·rw[if_neg om];exact FzD.u
def Xm (v:List (List Nat)×Nat):List AV:=[.lst v.1.length (v.1.map .str),.int .i64 (v.2:Int)]
def Jp:List (List (List Nat)×Nat):=[([[60,45,62]],0),([[45,62]],1),([[124]],0),([[38]],0),([[85],[82],[83],[84]],1),([[61],[33,61],[60],[60,61],[62],[62,61]],2),([[43],[45]],0),([[42]],0)]
theorem jcJ (hb:NB base):Tot base 101 [] (.lst 8 (fl Xm Jp)):=by
 refine hb.tot ?_ rfl rfl;refine jG x94 (by rfl) (hb.pur 101 1 dc) ?_;simp only[y94,jr,κ,μ,ν,ξ];rw[(by unfold z94;simp only[qq];rfl:z94=_)];repeat'(first|apply jb<;>intro _|simp(disch:=first|exact dzD|fail) only[r6,δ,ε,ζ,η,θ])
 exact⟨[8,0,1,2,3,4,5,6,7],by kernel_rfl,λb _=>Qae _⟩
theorem jeJ {m d b cap:Nat}{s:St}{ks:List Ex}{op num l c:Int}{nm:List Nat}{ex:Bool}{cs:List AV}(C:Cl s b cs)(hc:cs=fl eE ks)(hm:m<=b) :
  FzD m (d+4) s (.agg [.int .i64 op,.int .i64 num,.str nm,.slice b 0 ks.length cap 6 ex,.int .i64 l,.int .i64 c]) (.agg (eE (.mk op num nm ks l c))):=by
 subst hc;rw[qJ];have hl:=Jk Jl ks;refine FzD.agg (.cons (.pc rfl) (.cons (.pc rfl) (.cons (.pc rfl) (.cons (FzD.slice C.rw_ (QaO hl.symm) hm ?_) (.pc rfl)))));rw[<-hl,Qaf];exact .pc (y7 q9 ks)
theorem YI {m d:Nat}{s:St}{op num l c:Int}{nm:List Nat}:FzD m (d+2) s (.agg [.int .i64 op,.int .i64 num,.str nm,.nils,.int .i64 l,.int .i64 c]) (.agg (eE (.mk op num nm [] l c))):=by
 rw[qJ];exact FzD.agg (.cons (.pc rfl) (.cons (.pc rfl) (.cons (.pc rfl) (.cons .nils (.pc rfl)))))
theorem jlf:Go.Ev.isAgg γ 9=some false:=by kernel_rfl
theorem jle:Go.Ev.sizeOf γ 9=some 1:=by kernel_rfl
theorem K6 {t:TypeId}{b i:Nat}{cs:List AV}{v:AV}{s:St}(h1:Go.Ev.isAgg γ t=some false)(h2:Go.Ev.sizeOf γ t=some 1)(C:Cl s b cs)(hi:i<cs.length)(hv:cs.getD i .bad=v)(hc:eqs v=true):jY γ t (.ptr b i) v s.h=true:=
 QW h1 h2 (by rw[C.len];exact hi) ((C.cell i hi).trans hv) hc
section
variable {st:St} {K:AV->St->Prop}
theorem jqP {z vs:List AV}{o:Nat}{a:List AV}(ha:z.take o=a)(h:o+vs.length=z.length):upd z o vs=a ++ vs:=by
 rw[<-Wd z o vs om,ha,h];simp
theorem jsH {cx cy:List AV}{z0 z1 z2 z3 z4 z5:AV}(hx:cx.length=6)(hy:cy.length=6)(hlx:lall AV.cell cx=true)(hly:lall AV.cell cy=true) :
  jh (Hp 2 6 [z0,z1,z2,z3,z4,z5] [((0,6),.agg cx),((6,6),.agg cy)] st) K=K (.slice st.nx 0 2 2 6 true) (nw st (cx ++ cy)):=by
 have e1:upd ([z0,z1,z2,z3,z4,z5] ++ [z0,z1,z2,z3,z4,z5]) 0 cx=cx ++ [z0,z1,z2,z3,z4,z5]:=by
  rw[<-Wd _ 0 cx (by rw[hx];exact Nat.le_add_left _ _),hx];rfl
 have e2:upd (cx ++ [z0,z1,z2,z3,z4,z5]) 6 cy=cx ++ cy:=jqP (by rw[<-hx,List.take_left]) (by rw[υ,hx,hy];rfl);rw[jmp,UX,UX,gb,QaT,jbD (v:=.agg cx) rfl hx (Nat.le_add_left 6 6),YU,e1,jbD (v:=.agg cy) rfl hy (by rw[υ,hx];exact τ 12),YU,e2,jg6 (by rw[jlL _ _ hlx,hly])]
end
def wF (text:List Nat):Option Nat:=(Qak 17).find? λi=>decide (sgn ((14+i:Nat):Int)=text)
def QI (t:Tk)(x y:Ex):Ex:=match wF t.text with
 |some i=>.mk ((14+i:Nat):Int) 0 [] [x,y] t.line t.col
 |none=>.mk 0 0 [] [] 0 0
theorem jlC {text:List Nat}{i:Nat}(hi:i<17)(h:sgn ((14+i:Nat):Int)=text)(hj:∀ j,j<i->sgn ((14+j:Nat):Int)≠text):wF text=some i:=by
 unfold wF;rw[List.find?_range_eq_some];exact⟨by simpa using h,by simpa using hi,λj hj'=>by simpa using hj j hj'⟩
theorem jlB {text:List Nat}(hj:∀ j,j<17->sgn ((14+j:Nat):Int)≠text):wF text=none:=by
 unfold wF;rw[List.find?_range_eq_none];exact λj hj'=>by simpa using hj j hj'
def zE:List AV:=[.int .i64 0,.int .i64 0,.str [],.nils,.int .i64 0,.int .i64 0]
theorem jtn (hb:NB base)(t:Tk)(x y:Ex):Tot base 129 [.agg t.cells,.agg (eE x),.agg (eE y)] (.agg (eE (QI t x y))):=by
 refine hb.tot ?_ (by first|rfl|simp[pa,pc,q9,Tk.cells_p]) rfl;refine jG juz (by rfl) (hb.pur 129 1 dc) ?_;simp only[jqb,jr,κ,μ,ν,ξ];rw[(by unfold jkH;simp only[qq];rfl:jkH=_)];repeat'(first|apply jb<;>intro _|simp(disch:=first|exact dzD|fail) only[r6,δ,ε,ζ,η,θ])
 have hC:=Cl.new st0 t.cells;have hs:jY γ 9 (.ptr 0 1) (.str t.text) (nw (nw (nw (nw st0 t.cells) (eE x)) (eE y)) zE).h=true:=K6 jlf jle (((hC.nw _).nw _).nw _) (QbD (QaY 3)) rfl rfl;unfold zE at hs;refine zb (λmm L s=>∃ i:Nat,i<=17/\mm=17 - i/\s=nw (nw (nw (nw st0 t.cells) (eE x)) (eE y)) zE/\(∀ j,j<i->sgn ((14+j:Nat):Int)≠t.text)/\Has L 3 (.ptr 0 0)/\Has L 4 (.ptr 1 0)/\Has L 5 (.ptr 2 0)/\Has L 6 (.ptr 3 0)/\Has L 7 (.int .i64 ((14+i:Nat):Int))) ?_ 17 ?_
 ·rintro mm L s ⟨i,hi,rfl,rfl,hj,i3,i4,i5,i6,i7⟩;unfold zE;have hS:=jjW hb ((14+i:Nat):Int);repeat'(first|apply jb<;>intro _|simp(disch:=first|exact dzD|fail) only[ja i3,ja i4,ja i5,ja i6,ja i7,hS,hs,↓jsH,r6,δ,ε,ζ,η,θ])
  ·have e:QI t x y=.mk ((14+i:Nat):Int) 0 [] [x,y] t.line t.col:=by unfold QI;rw[jlC om ‹_› hj]
   rw[e];refine jeJ (ks:=[x,y]) (cs:=eE x ++ eE y) ?_ (by simp[fl]) (Qae _);simp(disch:=first|assumption|decide|omega|(simp only[jg,jj,jq,jt,jp,yq,φ,ω];first|done|omega)) only[jB,jD,jz];exact Cl.new _ _
  ·refine⟨17 - (i+1),om,i+1,om,rfl,λj hj'=>?_,?_⟩
   ·by_cases h:j=i
    ·rw[h];assumption
    ·exact hj j om
   ·rw[show((14+(i+1):Nat):Int)=((14+i:Nat):Int)+1 by omega];simp(disch:=decide) only[h12,i3,i4,i5,i6]
  ·have e:QI t x y=.mk 0 0 [] [] 0 0:=by unfold QI;rw[jlB λj hj'=>hj j om]
   rw[e];exact YI
 ·refine⟨0,om,rfl,rfl,λj hj=>absurd hj (Qay _),?_⟩;rw[show((14+0:Nat):Int)=14 from rfl];simp(disch:=decide) only[h12]
theorem jmy {P:Program}{f:FuncId}{xs:List AV}{st:St}{v:AV}{R:St->Prop}(h:∀ K Kp:AV->St->Prop,(∀ s,R s->K v s)->XB P base f xs st K Kp):∃ s,R s/\∀ K Kp:AV->St->Prop,XB P base f xs st K Kp=K v s:=by
 obtain⟨r,⟨N,D,h1⟩,h4⟩:=h (λv' s'=>v'=v/\R s') (λ_ _=>False) λs hs=>⟨rfl,hs⟩;cases r with
 |no=>exact h4.elim
 |pn v s=>exact h4.elim
 |ok v' s'=>
  obtain⟨rfl,hR⟩:=h4;exact⟨_,hR,λK Kp=>propext ⟨λ⟨r2,⟨N2,D2,h2⟩,h3⟩=>by
   have e1:=h1 (max N N2) (Qas ..) (max D D2) (Qas ..);have e2:=h2 (max N N2) (Qat ..) (max D D2) (Qat ..);rw[e1] at e2;subst e2;exact h3,λh=>⟨_,⟨N,D,h1⟩,h⟩⟩⟩
theorem joY (hb:NB base)(xs:List Ex)(hn:xs.length<=4611686018427387904)(f:FuncId)(caps:List AV)(q:Ex->Bool){R:St->Prop}(hR:∀ s t:St,R s->R (bk t s))(hR2:∀ s:St,R s->R s.bare)
  (hq:∀ y∈xs,∀ s:St,R s->∃ s',R s'/\∀ K Kp:AV->St->Prop,XB γ base f (.agg (eE y) :: caps) s K Kp=K (.bool (q y)) s') {st:St} (h0:R st) :
  ∃ s',R s'/\∀ K Kp:AV->St->Prop,XB γ base 166 [.lst xs.length (fl eE xs),.fn f caps] st K Kp=K (.int .i64 (fi q xs)) s':=by
 refine jmy λK Kp hK=>?_;refine zH jue (by rfl) (hb.at0 166 dc dc _ _) ?_;simp only[jpQ,jr,κ,μ,ν,ξ];rw[(by unfold jkn;simp only[qq];rfl:jkn=_)];have h0:=hR2 _ h0;have hK:∀ s,R s->K (.int .i64 (fi q xs)) (bk st s):=λs h=>hK _ (hR _ _ h);have hbk:bk st st.bare=st:=rfl;have hbc:back st st.bare=st:=rfl;have hbb:st.bare.bare=st.bare:=rfl;generalize st.bare=s0 at *;repeat'(first|apply jb<;>intro _|simp(disch:=first|exact dzD|fail) only[r6,δ,ε,ζ,η,θ])
 refine jX xs.length (λk L s=>R s/\(∀ j (h1:j<xs.length),j<k->q xs[j]=false)/\Has L 0 (.lst xs.length (fl eE xs))/\Has L 1 (.fn f caps)) ?_ (λk L s hk hI hi hn=>?_) (λL s hI=>?_)
 ·refine⟨h0,λj _ hj=>absurd hj (Qay _),?_⟩;simp(disch:=decide) only[h12]
 ·obtain⟨hs,h0,i0,i1⟩:=hI;obtain⟨s',hs',e⟩:=hq xs[k] (Qac hk) s hs;repeat'(first|apply jb<;>intro _|simp(disch:=first|exact dzD|fail) only[ja i0,ja i1,ja hi,e,r6,δ,ε,ζ,η,θ])
  ·have:=hK _ (hR2 _ hs');rw[uD hk (λj hj=>h0 j om hj) ‹_›] at this;exact this
  ·refine⟨⟨hs',λj h1 hj=>?_,?_⟩,?_⟩
   ·rcases Qav j k with h|h
    ·exact h0 j h1 h
    ·have:j=k:=om
     subst this;simpa using ‹¬ q xs[j]=true›
   ·simp(disch:=decide) only[h12,i0,i1]
   ·simp(disch:=decide) only[h12,hi,hn]
 ·obtain⟨hs,h0,i0,i1⟩:=hI;repeat'(first|apply jb<;>intro _|simp(disch:=first|exact dzD|fail) only[r6,δ,ε,ζ,η,θ])
  have:=hK _ (hR2 _ hs);rw[uC λj hj=>h0 j hj hj] at this;exact this
theorem jsD (hb:NB base)(xs:List Ex)(hn:xs.length<=4611686018427387904)(f:FuncId)(caps:List AV)(q:Ex->Bool){R:St->Prop}(hR:∀ s t:St,R s->R (bk t s))(hR2:∀ s:St,R s->R s.bare)
  (hq:∀ y∈xs,∀ s:St,R s->∃ s',R s'/\∀ K Kp:AV->St->Prop,XB γ base f (.agg (eE y) :: caps) s K Kp=K (.bool (q y)) s') {st:St} (h0:R st) :
  ∃ s',R s'/\∀ K Kp:AV->St->Prop,XB γ base 150 [.lst xs.length (fl eE xs),.fn f caps] st K Kp=K (.bool (xs.any q)) s':=by
 refine jmy λK Kp hK=>?_;refine zH juk (by rfl) (hb.at0 150 dc dc _ _) ?_;simp only[jpW,jr,κ,μ,ν,ξ];rw[(by unfold jkt;simp only[qq];rfl:jkt=_)];have h0:=hR2 _ h0;have hK:∀ s,R s->K (.bool (xs.any q)) (bk st s):=λs h=>hK _ (hR _ _ h);have hbk:bk st st.bare=st:=rfl;have hbc:back st st.bare=st:=rfl;have hbb:st.bare.bare=st.bare:=rfl;generalize st.bare=s0 at *;obtain⟨s',hs',e⟩:=joY hb xs hn f caps q hR hR2 hq h0;repeat'(first|apply jb<;>intro _|simp(disch:=first|exact dzD|fail) only[e,r6,δ,ε,ζ,η,θ])
 rw[jbv];exact hK _ hs'
def ze:Nat->Ex->Bool
 |0,_=>false
 |d+1,x=>decide (1<=x.op) && decide (x.op<31) && decide ((x.kids.length:Int)=if 5<=x.op/\x.op<=13 then 1 else if 14<=x.op/\x.op<31 then 2 else 0) && uv x && x.kids.all (ze d)
theorem jqS:Go.Ev.isAgg γ 3=some false:=by kernel_rfl
theorem jqR:Go.Ev.sizeOf γ 3=some 1:=by kernel_rfl
theorem jmY:Go.Ev.isAgg γ 27=some false:=by kernel_rfl
theorem jmX:Go.Ev.sizeOf γ 27=some 1:=by kernel_rfl
theorem jaQ:Go.Ev.isAgg γ 29=some true:=by kernel_rfl
theorem jaP:Go.Ev.sizeOf γ 29=some 6:=by kernel_rfl
theorem jra {t:TypeId}{b k:Nat}{cs:List AV}{s:St}(h1:Go.Ev.isAgg γ t=some true)(h2:Go.Ev.sizeOf γ t=some k)(C:Cl s b cs)(hi:cs.length=k)(hk:0<k)(hc:cs.all eqs=true):jY γ t (.ptr b 0) (.agg cs) s.h=true:=
 Y5 h1 h2 hk (by rw[C.len];omega) (by rw[C.ratsP k 0 om,Qbg,<-hi,Qaf]) hc
theorem ju0 (hb:NB base){y:Ex}{d b:Nat}{v:Bool}(hd:d<=60)(ih:Tot base 130 [.agg (eE y),.int .i64 (d:Int)] (.bool v)){st:St}(C:Cl st b [.int .i64 ((d+1:Nat):Int)])(K Kp:AV->St->Prop) :
  XB γ base 151 [.agg (eE y),.ptr b 0] st K Kp=K (.bool (!v)) (nw st (eE y)):=by
 refine jfL (λK Kp hK=>?_) K Kp;refine zH juj (by rfl) (hb.at0 151 dc dc _ _) ?_;simp only[jpV,jr,κ,μ,ν,ξ];rw[(by unfold jks;simp only[qq];rfl:jks=_)];have hK:K (.bool (!v)) (bk st (nw st.bare (eE y))):=hK;have C:=C.bar;have hbk:bk st st.bare=st:=rfl;have hbc:back st st.bare=st:=rfl;have hbb:st.bare.bare=st.bare:=rfl;generalize st.bare=s0 at *;have L0:=C.lt;have e:((d+1:Nat):Int) - 1=(d:Int):=om
 (have zz:=C.r;(repeat'(first|apply jb<;>intro _|simp(disch:=first|exact qU|fail) only[ih,e,C.q,C.r,r6,δ,ε,ζ,η,θ]));all_goals clear zz)
 exact hK
theorem WS (d:Nat)(x:Ex):ze (d+1) x=(decide (1<=x.op) && decide (x.op<31) && decide ((x.kids.length:Int)=if 5<=x.op/\x.op<=13 then 1 else if 14<=x.op/\x.op<31 then 2 else 0) && uv x && x.kids.all (ze d)):=rfl
theorem jfq {α:Type}(p:α->Bool):∀ xs:List α,xs.all p = !(xs.any λx=>!p x)
 |[]=>rfl
 |x :: xs=>by rw[QaF,QbL,jfq p xs];cases p x<;>simp
theorem joq (hb:NB base):∀ (d:Nat),d<=60->∀ x:Ex,szE x<=BIG->Tot base 130 [.agg (eE x),.int .i64 (d:Int)] (.bool (ze d x)):=by
 intro d;induction d with
 |zero=>
  intro _ x hx;refine hb.tot ?_ (by first|rfl|simp[pa,pc,q9,Tk.cells_p]) rfl;refine jG jqB (by rfl) (hb.pur 130 1 dc) ?_;simp only[jk5,jr,κ,μ,ν,ξ];rw[(by unfold jbM;simp only[qq];rfl:jbM=_)];repeat'(first|apply jb<;>intro _|simp(disch:=first|exact dzD|fail) only[r6,δ,ε,ζ,η,θ])
  all_goals exact G0.v rfl rfl
 |succ d ih=>
  intro hd x hx;refine hb.tot ?_ (by first|rfl|simp[pa,pc,q9,Tk.cells_p]) rfl;refine jG jqB (by rfl) (hb.pur 130 1 dc) ?_;simp only[jk5,jr,κ,μ,ν,ξ];rw[(by unfold jbM;simp only[qq];rfl:jbM=_)];have hs1:∀ k v,k<6->(eE x).getD k .bad=v->eqs v=true->jY γ 3 (.ptr 0 k) v (nw (nw st0 (eE x)) [.int .i64 ((d+1:Nat):Int)]).h=true:=λk v hk hv hc=>K6 jqS jqR ((Cl.new st0 (eE x)).nw _) (by rw[Jl];exact hk) hv hc;have hs2:jY γ 27 (.ptr 0 3) (.lst x.kids.length (fl eE x.kids)) (nw (nw st0 (eE x)) [.int .i64 ((d+1:Nat):Int)]).h=true:=K6 jmY jmX ((Cl.new st0 (eE x)).nw _) (by rw[Jl];decide) (Hk x 3) rfl;have hs3:jY γ 29 (.ptr 0 0) (.agg (eE x)) (nw (nw st0 (eE x)) [.int .i64 ((d+1:Nat):Int)]).h=true:=jra jaQ jaP ((Cl.new st0 (eE x)).nw _) (Jl x) dc (by rw[qJ];rfl);have hkl:=Zu x.kids;have hsz:=Y1 x;have hB:BIG=1099511627776:=rfl;have hs:=WS d x;obtain⟨s',_,e⟩:=jsD hb x.kids om 151 [.ptr 1 0] (λy=>!ze d y) (R:=λs=>Cl s 1 [.int .i64 ((d+1:Nat):Int)]) (λs t h=>⟨h.lt,h.row,h.len,h.cell⟩) (λs h=>h.bar)
   (λy hy s C=>⟨nw s (eE y),C.nw _,λK Kp=>ju0 hb om (ih om y (by
    obtain⟨k,hk,rfl⟩:=List.getElem_of_mem hy;have:=Zv hk;omega)) C K Kp⟩) (Cl.new (nw st0 (eE x)) [.int .i64 ((d+1:Nat):Int)])
  repeat'(first|apply jb<;>intro _|simp(disch:=first|exact dzD|fail) only[jrF hb,jrE hb x om,hs1,hs2,hs3,e,r6,δ,ε,ζ,η,θ])
  ·refine G0.v ?_ rfl;rw[hs];simp;omega
  ·refine G0.v ?_ rfl;rw[hs];simp;omega
  ·refine G0.v ?_ rfl;rw[hs];simp[*]
  ·refine G0.v ?_ rfl;rw[hs];simp[*]
  ·refine G0.v ?_ rfl;rw[hs,jfq];first|(simp[*];done)|(simp[*];omega)|(simp;intro _;refine⟨⟨⟨om,om⟩,by simp_all⟩,by simp_all⟩)
theorem jpk (hb:NB base)(x:Ex)(hx:szE x<=BIG):Tot base 102 [.agg (eE x)] (.bool (ze 60 x)):=by
 refine hb.tot ?_ (by first|rfl|simp[pa,pc,q9,Tk.cells_p]) rfl;refine jG x95 (by rfl) (hb.pur 102 1 dc) ?_;simp only[y95,jr,κ,μ,ν,ξ];rw[(by unfold z95;simp only[qq];rfl:z95=_)];have:Tot base 130 [.agg (eE x),.int .i64 60] (.bool (ze 60 x)):=joq hb 60 (τ _) x hx;repeat'(first|apply jb<;>intro _|simp(disch:=first|exact dzD|fail) only[this,r6,δ,ε,ζ,η,θ])
 exact G0.v rfl rfl
def tk (ts:List Tk)(i:Nat):Tk:=ts.getD i ⟨0,[],0,0,0⟩
theorem jm0 {ts:List Tk}{i:Nat}(h:i<ts.length):ts[i]=tk ts i:=by simp[tk,Qad,h]
def pC (ts:List Tk)(i d:Nat):List AV:=[.lst ts.length (fl Tk.cells ts),.int .i64 (i:Int),.int .i64 (d:Int)]
theorem Za (hb:NB base){ts:List Tk}{i d:Nat}(hi:i<ts.length):Met γ base 73 (pC ts i d) [] (.ok (.agg (tk ts i).cells)) (pC ts i d):=by
 refine PM.met ?_ rfl λp st=>hb.no 73 dc _ _;refine qd x49 (by rfl) (hb.pur 73 3 dc) rfl ?_;simp only[y49,jr,κ,μ,ν,ξ];rw[(by unfold z49;simp only[qq];rfl:z49=_)];unfold pC;repeat'(first|apply jb<;>intro _|simp(disch:=first|exact dzD|fail) only[hi,r6,δ,ε,ζ,η,θ])
 rw[jm0 hi];refine G1.done ?_ rfl rfl (FzD.agg (.pc (by rfl)));simp(disch:=first|assumption|decide|omega|(simp only[jg,jj,jq,jt,jp,yq,φ,ω];first|done|omega)) only[jB,jD,jz];exact Cl.new _ _
theorem Wf (S:List (List Nat)):(S.map AV.str).all pc=true:=by induction S with|nil=>rfl|cons x S ih=>simp[pc]
theorem jhS (hb:NB base){ts:List Tk}{i d:Nat}(hi:i<ts.length)(h2:i<=1000000)(S:List (List Nat))(hS:S.length<=1000000) :
  (isM (tk ts i) S=true->PM γ base 86 (pC ts i d) [.lst S.length (S.map .str)] (.ok (.tup [.agg (tk ts i).cells,.bool true])) (pC ts (i+1) d)) /\
  (isM (tk ts i) S=false->PM γ base 86 (pC ts i d) [.lst S.length (S.map .str)] (.ok (.tup [.agg (tk ts i).cells,.bool false])) (pC ts i d)):=by
 have N:=λst p=>@Za base hb ts i d hi st p;unfold pC at *;constructor<;>intro h
 ·refine qd x76 (by rfl) (hb.pur 86 3 dc) rfl ?_;simp only[y76,jr,κ,μ,ν,ξ];rw[(by unfold z76;simp only[qq];rfl:z76=_)];repeat'(first|apply jb<;>intro _|simp(disch:=first|exact dzD|fail) only[N,jsO hb (tk ts i) S hS,h,r6,δ,ε,ζ,η,θ])
  (refine G1.done ?_ (by rfl) (by rfl) ?_;(· (first|exact cyD|fail));(· first|exact vyD|skip))
 ·refine qd x76 (by rfl) (hb.pur 86 3 dc) rfl ?_;simp only[y76,jr,κ,μ,ν,ξ];rw[(by unfold z76;simp only[qq];rfl:z76=_)];repeat'(first|apply jb<;>intro _|simp(disch:=first|exact dzD|fail) only[N,jsO hb (tk ts i) S hS,h,r6,δ,ε,ζ,η,θ])
  (refine G1.done ?_ (by rfl) (by rfl) ?_;(· (first|exact cyD|fail));(· first|exact vyD|skip))
theorem jqZ (hb:NB base){ts:List Tk}{i d:Nat}(hi:i<ts.length)(h2:i<=1000000)(S:List (List Nat))(hS:S.length<=1000000){st:St}{p:Nat}(C:Cl st p (pC ts i d))(K Kp:AV->St->Prop) :
  XB γ base 86 [.ptr p 0,.lst S.length (S.map .str)] st K Kp=ifW (isM (tk ts i) S=true) (K (.tup [.agg (tk ts i).cells,.bool true]) (wr st p 0 (pC ts (i+1) d))) (K (.tup [.agg (tk ts i).cells,.bool false]) (wr st p 0 (pC ts i d))):=by
 have T:=jhS hb hi h2 (d:=d) S hS;cases h:isM (tk ts i) S with
 |true=>rw[gT rfl];exact(T.1 h).xb C rfl (λst=>hb.no 86 dc _ _) K Kp
 |false=>rw[gU dc];exact(T.2 h).xb C rfl (λst=>hb.no 86 dc _ _) K Kp
theorem Y0 (hb:NB base){ts:List Tk}{i d:Nat}(hi:i<ts.length)(h2:i<=1000000)(S:List (List Nat)){cs:List AV}{n:Nat}(hc:S.map .str=cs)(hn:S.length=n)(hS:n<=1000000)(st:St)(p b m:Nat)(x:Bool)(C:Cl st p (pC ts i d))(D:Cl st b cs)(hne:p≠b)(K Kp:AV->St->Prop) :
  XB γ base 86 [.ptr p 0,.slice b 0 n m 1 x] st K Kp=ifW (isM (tk ts i) S=true) (K (.tup [.agg (tk ts i).cells,.bool true]) (wr (kl b st) p 0 (pC ts (i+1) d))) (K (.tup [.agg (tk ts i).cells,.bool false]) (wr (kl b st) p 0 (pC ts i d))):=by
 subst hc hn;have T:=jhS hb hi h2 (d:=d) S hS;have F:Fza st [.slice b 0 S.length m 1 x] [.lst S.length (S.map .str)] [b]:=Fza.sl D (by simp) (Wf S) .nil;have C':Cl (kills [b] st) p (pC ts i d):=(jT hne).symm▸C;cases h:isM (tk ts i) S with
 |true=>rw[gT rfl];exact(T.1 h).xbk C' F rfl (λst=>hb.no 86 dc _ _) K Kp
 |false=>rw[gU dc];exact(T.2 h).xbk C' F rfl (λst=>hb.no 86 dc _ _) K Kp
theorem jlV (hb:NB base)(t:Tk)(S:List (List Nat)){cs:List AV}{n:Nat}(hc:S.map .str=cs)(hn:S.length=n)(hS:n<=1000000)(st:St)(b m:Nat)(x:Bool)(D:Cl st b cs)(K Kp:AV->St->Prop) :
  XB γ base 119 [.agg t.cells,.slice b 0 n m 1 x] st K Kp=K (.bool (isM t S)) (kl b st):=by
 subst hc hn;have F:Fza st [.agg t.cells,.slice b 0 S.length m 1 x] [.agg t.cells,.lst S.length (S.map .str)] [b]:=Fza.pa (by rfl) (Fza.sl D (by simp) (Wf S) .nil);exact(jsP hb t S hS).xf F (λst=>hb.no 119 dc _ _) K Kp
theorem jrv (hb:NB base){ts:List Tk}{i d:Nat}(hi:i<ts.length)(h2:i<=1000000)(c:List Nat) :
  (isM (tk ts i) [c]=true->PM γ base 121 (pC ts i d) [.str c] (.ok (.tup [])) (pC ts (i+1) d)) /\
  (isM (tk ts i) [c]=false->PM γ base 121 (pC ts i d) [.str c] (.pn (er (tk ts i))) (pC ts i d)):=by
 have T:=Y0 hb hi h2 (d:=d) [c] (cs:=[.str c]) (n:=1) rfl rfl dc;unfold pC at *;constructor<;>intro h
 ·refine qd jqC (by rfl) (hb.pur 121 3 dc) rfl ?_;simp only[jk6,jr,κ,μ,ν,ξ];rw[(by unfold Gw;simp only[qq];rfl:Gw=_)];repeat'(first|apply jb<;>intro _|simp(disch:=first|exact dzD|fail) only[T,h,Qv hb,r6,δ,ε,ζ,η,θ])
  (refine G1.done ?_ (by rfl) (by rfl) ?_;(· (first|exact cyD|fail));(· first|exact vyD|skip))
 ·refine qd jqC (by rfl) (hb.pur 121 3 dc) rfl ?_;simp only[jk6,jr,κ,μ,ν,ξ];rw[(by unfold Gw;simp only[qq];rfl:Gw=_)];repeat'(first|apply jb<;>intro _|simp(disch:=first|exact dzD|fail) only[T,h,Qv hb,r6,δ,ε,ζ,η,θ])
  (refine G1.done ?_ (by rfl) (by rfl) ?_;(· (first|exact cyD|fail));(· first|exact vyD|skip))
theorem PM.two {P:Program}{f:FuncId}{cs xs c1 c2:List AV}{o1 o2:Oc}{q:Bool}(h:(q=true->PM P base f cs xs o1 c1)/\(q=false->PM P base f cs xs o2 c2))(hp:xs.all pa=true)(hb:∀ p st,base.run f (.ptr p 0 :: xs) st=.no){st:St}{p:Nat}(C:Cl st p cs)(K Kp:AV->St->Prop) :
  XB P base f (.ptr p 0 :: xs) st K Kp=ifW (q=true) (YG o1 K Kp (wr st p 0 c1)) (YG o2 K Kp (wr st p 0 c2)):=by
 cases hq:q with
 |true=>rw[gT rfl];exact(h.1 hq).xb C hp (hb p) K Kp
 |false=>rw[gU dc];exact(h.2 hq).xb C hp (hb p) K Kp
theorem QZ (hb:NB base){ts:List Tk}{i d:Nat}(hi:i<ts.length)(h2:i<=1000000)(c:List Nat){st:St}{p:Nat}(C:Cl st p (pC ts i d))(K Kp:AV->St->Prop) :
  XB γ base 121 [.ptr p 0,.str c] st K Kp=ifW (isM (tk ts i) [c]=true) (K (.tup []) (wr st p 0 (pC ts (i+1) d))) (Kp (er (tk ts i)) (wr st p 0 (pC ts i d))):=
 PM.two (o1:=.ok _) (o2:=.pn _) (jrv hb hi h2 c) rfl (λ_ _=>hb.no 121 dc _ _) C K Kp
theorem Wl (hb:NB base){ts:List Tk}{i d:Nat}(hi:i<ts.length)(h2:i<=1000000){st:St}{p:Nat}(C:Cl st p (pC ts i d))(K Kp:AV->St->Prop) :
  XB γ base 120 [.ptr p 0] st K Kp=ifW (decide ((tk ts i).kind=1)=true) (K (.agg (tk ts i).cells) (wr st p 0 (pC ts (i+1) d))) (Kp (er (tk ts i)) (wr st p 0 (pC ts i d))):=by
 refine PM.two (o1:=.ok _) (o2:=.pn _) ?_ rfl (λ_ _=>hb.no 120 dc _ _) C K Kp;have N:=λst p=>@Za base hb ts i d hi st p;unfold pC at *;clear C;constructor<;>intro h
 ·have h':((tk ts i).kind:Int)=1:=by simp at h;omega
  refine qd jqD (by rfl) (hb.pur 120 3 dc) rfl ?_;simp only[jk7,jr,κ,μ,ν,ξ];rw[(by unfold jbN;simp only[qq];rfl:jbN=_)];repeat'(first|apply jb<;>intro _|simp(disch:=first|exact dzD|fail) only[N,h',Qv hb,r6,δ,ε,ζ,η,θ])
  (refine G1.done ?_ (by rfl) (by rfl) ?_;(· (first|exact cyD|fail));(· first|exact vyD|skip))
 ·have h':¬ ((tk ts i).kind:Int)=1:=by simp at h;omega
  refine qd jqD (by rfl) (hb.pur 120 3 dc) rfl ?_;simp only[jk7,jr,κ,μ,ν,ξ];rw[(by unfold jbN;simp only[qq];rfl:jbN=_)];repeat'(first|apply jb<;>intro _|simp(disch:=first|exact dzD|fail) only[N,h',Qv hb,r6,δ,ε,ζ,η,θ])
  (refine G1.done ?_ (by rfl) (by rfl) ?_;(· (first|exact cyD|fail));(· first|exact vyD|skip))
theorem jiu (hb:NB base){ts:List Tk}{i d:Nat}(hi:i<ts.length)(h2:d<=1000000){st:St}{p:Nat}(C:Cl st p (pC ts i d))(K Kp:AV->St->Prop) :
  XB γ base 146 [.ptr p 0] st K Kp=ifW (decide (60<d+1)=true) (Kp (er (tk ts i)) (wr st p 0 (pC ts i (d+1)))) (K (.tup []) (wr st p 0 (pC ts i (d+1)))):=by
 refine PM.two (o1:=.pn _) (o2:=.ok _) ?_ rfl (λ_ _=>hb.no 146 dc _ _) C K Kp;have N:=λst p=>@Za base hb ts i (d+1) hi st p;have e:((d:Int)+1)=((d+1:Nat):Int):=om
 unfold pC at *;clear C;constructor<;>intro h
 ·have h':(60:Int)<((d+1:Nat):Int):=by simp at h;omega
  refine qd jqA (by rfl) (hb.pur 146 3 dc) rfl ?_;simp only[jk4,jr,κ,μ,ν,ξ];rw[(by unfold jbL;simp only[qq];rfl:jbL=_)];repeat'(first|apply jb<;>intro _|simp(disch:=first|exact dzD|fail) only[N,h',Qv hb,e,r6,δ,ε,ζ,η,θ])
  (refine G1.done ?_ (by rfl) (by rfl) ?_;(· (first|exact cyD|fail));(· first|exact vyD|skip))
 ·have h':¬ (60:Int)<((d+1:Nat):Int):=by simp at h;omega
  refine qd jqA (by rfl) (hb.pur 146 3 dc) rfl ?_;simp only[jk4,jr,κ,μ,ν,ξ];rw[(by unfold jbL;simp only[qq];rfl:jbL=_)];repeat'(first|apply jb<;>intro _|simp(disch:=first|exact dzD|fail) only[N,h',Qv hb,e,r6,δ,ε,ζ,η,θ])
  (refine G1.done ?_ (by rfl) (by rfl) ?_;(· (first|exact cyD|fail));(· first|exact vyD|skip))
abbrev Lev:=List (List Nat)×Nat
def zy:List (List Nat):=[[45],[33],[88],[70],[71],[89],[90],[79],[72]]
def U3 (text:List Nat):Nat:=5+zy.idxOf text
inductive PR where
 |ok (x:Ex) (j:Nat)
 |er (t:Tk)
mutual
def y8 (ts:List Tk):Nat->List Lev->Nat->Nat->Option PR
 |0,_,_,_=>none
 |n+1,[],i,d=>QK ts n i d
 |n+1,v :: l,i,d=>match y8 ts n l i d with
  |some (.ok x j)=>Xb ts n v l x j d
  |r=>r
def Xb (ts:List Tk):Nat->Lev->List Lev->Ex->Nat->Nat->Option PR
 |0,_,_,_,_,_=>none
 |n+1,v,l,x,i,d=>
  if isM (tk ts i) v.1=true then
   (if v.2=1 then(match y8 ts n (v :: l) (i+1) d with
    |some (.ok y j)=>some (.ok (QI (tk ts i) x y) j)
    |r=>r)
   else(match y8 ts n l (i+1) d with
    |some (.ok y j)=>if v.2=2 then some (.ok (QI (tk ts i) x y) j) else Xb ts n v l (QI (tk ts i) x y) j d
    |r=>r))
  else some (.ok x i)
def QK (ts:List Tk):Nat->Nat->Nat->Option PR
 |0,_,_=>none
 |n+1,i,d=>
  if isM (tk ts i) zy=true then
   (if 60<d+1 then some (.er (tk ts (i+1))) else(match QK ts n (i+1) (d+1) with
    |some (.ok x j)=>some (.ok (.mk (U3 (tk ts i).text:Nat) 0 [] [x] (tk ts i).line (tk ts i).col) j)
    |r=>r))
  else YD ts n i d
def YD (ts:List Tk):Nat->Nat->Nat->Option PR
 |0,_,_=>none
 |n+1,i,d=>
  if(tk ts i).kind=2 then some (.ok (.mk 1 (tk ts i).num [] [] (tk ts i).line (tk ts i).col) (i+1))
  else if(tk ts i).kind=1 then some (.ok (.mk 3 0 (tk ts i).text [] (tk ts i).line (tk ts i).col) (i+1))
  else if isM (tk ts i) [[116,114,117,101]]=true then some (.ok (.mk 2 1 [] [] (tk ts i).line (tk ts i).col) (i+1))
  else if isM (tk ts i) [[102,97,108,115,101]]=true then some (.ok (.mk 2 0 [] [] (tk ts i).line (tk ts i).col) (i+1))
  else if isM (tk ts i) [[40]]=true then
   (if 60<d+1 then some (.er (tk ts (i+1))) else(match y8 ts n Jp (i+1) (d+1) with
    |some (.ok x j)=>if isM (tk ts j) [[41]]=true then some (.ok x (j+1)) else some (.er (tk ts j))
    |r=>r))
  else some (.er (tk ts i))
end
structure Wds (ts:List Tk):Prop where
 len:ts.length<=1000000
 next:∀ i,i<ts.length->(tk ts i).kind≠5->i+1<ts.length
 txt:∀ i,(tk ts i).text.length<=65536
theorem Vb {t:Tk}{S:List (List Nat)}(h:isM t S=true):(t.kind=3\/t.kind=4)/\t.text∈S:=by
 simpa[isM] using h
theorem Wds.isM {ts:List Tk}(W:Wds ts){i:Nat}(hi:i<ts.length){S:List (List Nat)}(h:isM (tk ts i) S=true):i+1<ts.length:=W.next i hi (by have:=(Vb h).1;omega)
def Sz (ts:List Tk)(i:Nat)(a:Nat)(r:PR):Prop:=match r with | .ok x j=>i<=j/\j<ts.length/\szE x<=a+(j - i) * 65537 | .er _=>True
theorem Xi (op num:Int)(nm:List Nat)(ks:List Ex)(l c:Int):szE (.mk op num nm ks l c)=yN ks+nm.length+1:=rfl
theorem jok (t:Tk)(x y:Ex):szE (QI t x y)<=szE x+szE y+1:=by
 unfold QI;split
 ·rw[Xi];simp[yN]
 ·rw[Xi];simp[yN]
theorem UR {ts:List Tk}(W:Wds ts):∀ n,(∀ lv i d r,y8 ts n lv i d=some r->i<ts.length->Sz ts i 0 r)/\(∀ v l x i d r,Xb ts n v l x i d=some r->i<ts.length->Sz ts i (szE x) r)/\(∀ i d r,QK ts n i d=some r->i<ts.length->Sz ts i 0 r)/\(∀ i d r,YD ts n i d=some r->i<ts.length->Sz ts i 0 r):=by
 intro n;induction n with
 |zero=>exact⟨λ_ _ _ _ h=>(by simp[y8] at h),λ_ _ _ _ _ _ h=>(by simp[Xb] at h),λ_ _ _ h=>(by simp[QK] at h),λ_ _ _ h=>(by simp[YD] at h)⟩
 |succ n ih=>
  obtain⟨iE,iL,iP,iV⟩:=ih;refine⟨λlv i d r h hi=>?_,λv l x i d r h hi=>?_,λi d r h hi=>?_,λi d r h hi=>?_⟩
  ·cases lv with
   |nil=>unfold y8 at h;exact iP i d r h hi
   |cons v l=>
    unfold y8 at h;cases hx:y8 ts n l i d with
    |none=>rw[hx] at h;cases h
    |some q=>cases q with
     |er t=>rw[hx] at h;cases h;trivial
     |ok x j=>
      rw[hx] at h;have h1:=iE l i d _ hx hi;have h2:=iL v l x j d r h h1.2.1;cases r with
      |er t=>trivial
      |ok y k=>
       simp only[Sz] at h1 h2 ⊢;obtain⟨a1,a2,a3⟩:=h1;obtain⟨b1,b2,b3⟩:=h2;refine⟨om,b2,?_⟩;have:(k - i) * 65537=(k - j) * 65537+(j - i) * 65537:=by rw[<-QaL];congr 1;omega
       omega
  ·unfold Xb at h;by_cases c:isM (tk ts i) v.1=true
   ·rw[if_pos c] at h;have hi1:=W.isM hi c;have key:∀ lv y j,y8 ts n lv (i+1) d=some (.ok y j)->i<=j/\j<ts.length/\szE (QI (tk ts i) x y)<=szE x+(j - i) * 65537:=λlv y j he=>by
     have h1:=iE lv (i+1) d _ he hi1;simp only[Sz] at h1;obtain⟨a1,a2,a3⟩:=h1;have:=jok (tk ts i) x y;have:(j - i) * 65537=(j - (i+1)) * 65537+65537:=by rw[<-QaQ];congr 1;omega
     exact⟨om,a2,om⟩
    by_cases w1:v.2=1
    ·rw[if_pos w1] at h;cases he:y8 ts n (v :: l) (i+1) d with
     |none=>rw[he] at h;cases h
     |some q=>cases q with
      |er t=>rw[he] at h;cases h;trivial
      |ok y j=>rw[he] at h;cases h;exact key _ y j he
    ·rw[if_neg w1] at h;cases he:y8 ts n l (i+1) d with
     |none=>rw[he] at h;cases h
     |some q=>cases q with
      |er t=>rw[he] at h;cases h;trivial
      |ok y j=>
       rw[he] at h;have hk:=key _ y j he;by_cases w2:v.2=2
       ·simp only[w2,if_true] at h;cases h;exact hk
       ·simp only[w2,if_false] at h;have h2:=iL v l _ j d r h hk.2.1;cases r with
        |er t=>trivial
        |ok z k=>
         simp only[Sz] at h2 ⊢;obtain⟨b1,b2,b3⟩:=h2;refine⟨om,b2,?_⟩;have:(k - i) * 65537=(k - j) * 65537+(j - i) * 65537:=by rw[<-QaL];congr 1;omega
         omega
   ·rw[if_neg c] at h;cases h;exact⟨τ _,hi,om⟩
  ·unfold QK at h;by_cases c:isM (tk ts i) zy=true
   ·rw[if_pos c] at h;have hi1:=W.isM hi c;by_cases hd:60<d+1
    ·rw[if_pos hd] at h;cases h;trivial
    ·rw[if_neg hd] at h;cases he:QK ts n (i+1) (d+1) with
     |none=>rw[he] at h;cases h
     |some q=>cases q with
      |er t=>rw[he] at h;cases h;trivial
      |ok y j=>
       rw[he] at h;cases h;have h1:=iP (i+1) (d+1) _ he hi1;simp only[Sz] at h1 ⊢;obtain⟨a1,a2,a3⟩:=h1;have:(j - i) * 65537=(j - (i+1)) * 65537+65537:=by rw[<-QaQ];congr 1;omega
       refine⟨om,a2,?_⟩;rw[Xi];simp[yN];omega
   ·rw[if_neg c] at h;exact iV i d r h hi
  ·unfold YD at h;have ht:=W.txt i;have leaf:∀ (x:Ex),szE x<=65537->i+1<ts.length->Sz ts i 0 (.ok x (i+1)):=λx hx h1=>⟨om,h1,om⟩;by_cases k2:(tk ts i).kind=2
   ·rw[if_pos k2] at h;cases h;exact leaf _ (by rw[Xi];simp[yN]) (W.next i hi om)
   rw[if_neg k2] at h;by_cases k1:(tk ts i).kind=1
   ·rw[if_pos k1] at h;cases h;exact leaf _ (by rw[Xi];simp[yN];omega) (W.next i hi om)
   rw[if_neg k1] at h;split at h
   ·cases h;exact leaf _ (by rw[Xi];simp[yN]) (W.isM hi ‹_›)
   split at h
   ·cases h;exact leaf _ (by rw[Xi];simp[yN]) (W.isM hi ‹_›)
   split at h
   ·rename_i c;have hi1:=W.isM hi c;by_cases hd:60<d+1
    ·rw[if_pos hd] at h;cases h;trivial
    ·rw[if_neg hd] at h;cases he:y8 ts n Jp (i+1) (d+1) with
     |none=>rw[he] at h;cases h
     |some q=>cases q with
      |er t=>rw[he] at h;cases h;trivial
      |ok y j=>
       rw[he] at h;have h1:=iE Jp (i+1) (d+1) _ he hi1;simp only[Sz] at h1;obtain⟨a1,a2,a3⟩:=h1;dsimp only at h;by_cases c2:isM (tk ts j) [[41]]=true
       ·rw[if_pos c2] at h;cases h;have:=W.isM a2 c2;simp only[Sz];exact⟨om,this,Qab a3 (Nat.add_le_add_left (Qax _ om) _)⟩
       ·rw[if_neg c2] at h;cases h;trivial
   ·cases h;trivial
def Ans (base:Bs)(f:FuncId)(c xs:List AV)(ts:List Tk)(d:Nat):PR->Prop
 |.ok x j=>PM γ base f c xs (.ok (.agg (eE x))) (pC ts j d)
 |.er t=>∃ i' d',PM γ base f c xs (.pn (er t)) (pC ts i' d')
def okL (lv:List Lev):Prop:=lv.length<=8/\∀ v∈lv,v.1.length<=6
def IsE (base:Bs)(ts:List Tk)(n:Nat):Prop:=∀ lv i d r,y8 ts n lv i d=some r->i<ts.length->d<=60->okL lv->Ans base 100 (pC ts i d) [.lst lv.length (fl Xm lv)] ts d r
def IsP (base:Bs)(ts:List Tk)(n:Nat):Prop:=∀ i d r,QK ts n i d=some r->i<ts.length->d<=60->Ans base 128 (pC ts i d) [] ts d r
def IsV (base:Bs)(ts:List Tk)(n:Nat):Prop:=∀ i d r,YD ts n i d=some r->i<ts.length->d<=60->Ans base 145 (pC ts i d) [] ts d r
theorem juX:Go.Ev.isAgg γ 2=some false:=by kernel_rfl
theorem juW:Go.Ev.sizeOf γ 2=some 1:=by kernel_rfl
theorem js8:Go.Ev.isAgg γ 146=some true:=by kernel_rfl
theorem js7:Go.Ev.sizeOf γ 146=some 5:=by kernel_rfl
theorem sm2 {b o:Nat}{v:AV}{h:T AO}(ho:o<qv h b)(hv:rat h b o=v)(hc:eqs v=true):(jY γ 2 (.ptr b o) v h=true)=True:=eq_true (QW juX juW ho hv hc)
theorem sm9 {b o:Nat}{v:AV}{h:T AO}(ho:o<qv h b)(hv:rat h b o=v)(hc:eqs v=true):(jY γ 9 (.ptr b o) v h=true)=True:=eq_true (QW jlf jle ho hv hc)
theorem yV (k:IntKind)(n:Int):eqs (.int k n)=true:=nr rfl
theorem yU (l:List Nat):eqs (.str l)=true:=nr rfl
set_option maxHeartbeats 4000000 in
theorem jn9 (hb:NB base){ts:List Tk}(W:Wds ts){n:Nat}(ihE:IsE base ts n):IsV base ts (n+1):=by
 intro i d r h hi hd;have hN:=λst p=>@Za base hb ts i d hi st p;have wl:=W.len;have hx:(i:Int)+1=((i+1:Nat):Int):=om
 unfold YD at h;by_cases k2:(tk ts i).kind=2
 ·rw[if_pos k2] at h;cases h;have k2':((tk ts i).kind:Int)=2:=om
  show PM _ _ _ _ _ _ _;unfold pC at *;refine qd WB (by rfl) (hb.pur 145 3 dc) rfl ?_;simp only[uR,jr,κ,μ,ν,ξ];rw[(by unfold QE;simp only[qq];rfl:QE=_)]
  (have zz:=aI @yV @yU;(repeat'(first|apply jb<;>intro _|simp(disch:=first|exact qU|fail) only[hN,k2',sm2,yV,yU,r6,δ,ε,ζ,η,θ]));all_goals clear zz)
  (refine G1.done ?_ (by rfl) (by rfl) ?_;(· (first|exact cyD|fail));(· first|exact vyD|skip))
 rw[if_neg k2] at h;have k2':¬ ((tk ts i).kind:Int)=2:=om
 by_cases k1:(tk ts i).kind=1
 ·rw[if_pos k1] at h;cases h;have k1':((tk ts i).kind:Int)=1:=om
  show PM _ _ _ _ _ _ _;unfold pC at *;refine qd WB (by rfl) (hb.pur 145 3 dc) rfl ?_;simp only[uR,jr,κ,μ,ν,ξ];rw[(by unfold QE;simp only[qq];rfl:QE=_)]
  (have zz:=aI @yV @yU;(repeat'(first|apply jb<;>intro _|simp(disch:=first|exact qU|fail) only[hN,k2',k1',sm9,yV,yU,r6,δ,ε,ζ,η,θ]));all_goals clear zz)
  (refine G1.done ?_ (by rfl) (by rfl) ?_;(· (first|exact cyD|fail));(· first|exact vyD|skip))
 rw[if_neg k1] at h;have k1':¬ ((tk ts i).kind:Int)=1:=om
 have T:=jlV hb (tk ts i) [[116,114,117,101]] (cs:=[.str [116,114,117,101]]) (n:=1) rfl rfl dc;have F:=jlV hb (tk ts i) [[102,97,108,115,101]] (cs:=[.str [102,97,108,115,101]]) (n:=1) rfl rfl dc;have B:=jlV hb (tk ts i) [[40]] (cs:=[.str [40]]) (n:=1) rfl rfl dc;by_cases c1:isM (tk ts i) [[116,114,117,101]]=true
 ·rw[if_pos c1] at h;cases h;show PM _ _ _ _ _ _ _;unfold pC at *;refine qd WB (by rfl) (hb.pur 145 3 dc) rfl ?_;simp only[uR,jr,κ,μ,ν,ξ];rw[(by unfold QE;simp only[qq];rfl:QE=_)];repeat'(first|apply jb<;>intro _|simp(disch:=first|exact dzD|fail) only[hN,k2',k1',T,c1,r6,δ,ε,ζ,η,θ])
  (refine G1.done ?_ (by rfl) (by rfl) ?_;(· (first|exact cyD|fail));(· first|exact vyD|skip))
 rw[if_neg c1] at h;by_cases c2:isM (tk ts i) [[102,97,108,115,101]]=true
 ·rw[if_pos c2] at h;cases h;show PM _ _ _ _ _ _ _;unfold pC at *;refine qd WB (by rfl) (hb.pur 145 3 dc) rfl ?_;simp only[uR,jr,κ,μ,ν,ξ];rw[(by unfold QE;simp only[qq];rfl:QE=_)];repeat'(first|apply jb<;>intro _|simp(disch:=first|exact dzD|fail) only[hN,k2',k1',T,F,c1,c2,r6,δ,ε,ζ,η,θ])
  (refine G1.done ?_ (by rfl) (by rfl) ?_;(· (first|exact cyD|fail));(· first|exact vyD|skip))
 rw[if_neg c2] at h;by_cases c3:isM (tk ts i) [[40]]=true
 ·rw[if_pos c3] at h;have hi1:=W.isM hi c3;have O:=λst p=>@jiu base hb ts (i+1) d hi1 om st p;by_cases hd2:60<d+1
  ·rw[if_pos hd2] at h;cases h;refine⟨i+1,d+1,?_⟩;unfold pC at *;refine qd WB (by rfl) (hb.pur 145 3 dc) rfl ?_;simp only[uR,jr,κ,μ,ν,ξ];rw[(by unfold QE;simp only[qq];rfl:QE=_)];repeat'(first|apply jb<;>intro _|simp(disch:=first|exact dzD|fail) only[hN,k2',k1',T,F,B,c1,c2,c3,O,hx,hd2,r6,δ,ε,ζ,η,θ])
   (refine G1.done ?_ (by rfl) (by rfl) ?_;(· (first|exact cyD|fail));(· first|exact vyD|skip))
  ·rw[if_neg hd2] at h;cases he:y8 ts n Jp (i+1) (d+1) with
   |none=>rw[he] at h;cases h
   |some q=>
    have A:=ihE _ _ _ _ he hi1 om ⟨dc,dc⟩;have hL:=jcJ hb;have hz:=(UR W n).1 _ _ _ _ he hi1;cases q with
    |er t=>
     rw[he] at h;cases h;obtain⟨i',d',A⟩:=A;have E:∀ st p,Cl st p (pC ts (i+1) (d+1))->∀ K Kp,XB γ base 100 [.ptr p 0,.lst 8 (fl Xm Jp)] st K Kp=_:=λst p C K Kp=>A.xb C rfl (λst=>hb.no 100 dc _ _) K Kp;refine⟨i',d',?_⟩;unfold pC at *;refine qd WB (by rfl) (hb.pur 145 3 dc) rfl ?_;simp only[uR,jr,κ,μ,ν,ξ];rw[(by unfold QE;simp only[qq];rfl:QE=_)];repeat'(first|apply jb<;>intro _|simp(disch:=first|exact dzD|fail) only[hN,k2',k1',T,F,B,c1,c2,c3,O,hx,hd2,hL,E,r6,δ,ε,ζ,η,θ])
     (refine G1.done ?_ (by rfl) (by rfl) ?_;(· (first|exact cyD|fail));(· first|exact vyD|skip))
    |ok x j=>
     rw[he] at h;dsimp only at h;have A:PM _ _ _ _ _ _ _:=A;have E:∀ st p,Cl st p (pC ts (i+1) (d+1))->∀ K Kp,XB γ base 100 [.ptr p 0,.lst 8 (fl Xm Jp)] st K Kp=_:=λst p C K Kp=>A.xb C rfl (λst=>hb.no 100 dc _ _) K Kp;have hj:j<ts.length:=hz.2.1;have M:=λst p=>@QZ base hb ts j d hj om [41] st p;have e1:((d+1:Nat):Int) - 1=(d:Int):=om
     by_cases c4:isM (tk ts j) [[41]]=true
     ·rw[if_pos c4] at h;cases h;show PM _ _ _ _ _ _ _;unfold pC at *;refine qd WB (by rfl) (hb.pur 145 3 dc) rfl ?_;simp only[uR,jr,κ,μ,ν,ξ];rw[(by unfold QE;simp only[qq];rfl:QE=_)];repeat'(first|apply jb<;>intro _|simp(disch:=first|exact dzD|fail) only[hN,k2',k1',T,F,B,c1,c2,c3,O,hx,hd2,hL,E,e1,M,c4,r6,δ,ε,ζ,η,θ])
      (refine G1.done ?_ (by rfl) (by rfl) ?_;(· (first|exact cyD|fail));(· first|exact vyD|skip))
     ·rw[if_neg c4] at h;cases h;refine⟨j,d,?_⟩;unfold pC at *;refine qd WB (by rfl) (hb.pur 145 3 dc) rfl ?_;simp only[uR,jr,κ,μ,ν,ξ];rw[(by unfold QE;simp only[qq];rfl:QE=_)];repeat'(first|apply jb<;>intro _|simp(disch:=first|exact dzD|fail) only[hN,k2',k1',T,F,B,c1,c2,c3,O,hx,hd2,hL,E,e1,M,c4,r6,δ,ε,ζ,η,θ])
      (refine G1.done ?_ (by rfl) (by rfl) ?_;(· (first|exact cyD|fail));(· first|exact vyD|skip))
 ·rw[if_neg c3] at h;cases h;refine⟨i,d,?_⟩;unfold pC at *;refine qd WB (by rfl) (hb.pur 145 3 dc) rfl ?_;simp only[uR,jr,κ,μ,ν,ξ];rw[(by unfold QE;simp only[qq];rfl:QE=_)];repeat'(first|apply jb<;>intro _|simp(disch:=first|exact dzD|fail) only[hN,k2',k1',T,F,B,c1,c2,c3,Qv hb,r6,δ,ε,ζ,η,θ])
  (refine G1.done ?_ (by rfl) (by rfl) ?_;(· (first|exact cyD|fail));(· first|exact vyD|skip))
theorem jev:∀ k:Nat,k<9->sgn ((5+k:Nat):Int)=zy.getD k []:=dc
theorem joT {x:List Nat}(h:x∈zy):zy.idxOf x<9/\sgn ((5+zy.idxOf x:Nat):Int)=x/\∀ j,j<zy.idxOf x->sgn ((5+j:Nat):Int)≠x:=by
 have h9:zy.idxOf x<9:=List.idxOf_lt_length_of_mem h;refine⟨h9,?_,λj hj=>?_⟩
 ·rw[jev _ h9,Qaq,Qag (show zy.idxOf x<zy.length from h9)];simp
 ·rw[jev _ om,Qaq,Qag (show j<zy.length by show j<9;omega)];intro he;have hlt:j<zy.findIdx (· == x):=hj;have hno:=List.not_of_lt_findIdx hlt;have he':zy[j]'(show j<zy.length by show j<9;omega)=x:=he;rw[he'] at hno;simp at hno
set_option maxHeartbeats 4000000 in
theorem jlA (hb:NB base){ts:List Tk}(W:Wds ts){n:Nat}(ihP:IsP base ts n)(ihV:IsV base ts n):IsP base ts (n+1):=by
 intro i d r h hi hd;have wl:=W.len;have hx:(i:Int)+1=((i+1:Nat):Int):=om
 have T:=Y0 hb hi (d:=d) om zy (cs:=[.str [45],.str [33],.str [88],.str [70],.str [71],.str [89],.str [90],.str [79],.str [72]]) (n:=9) rfl rfl dc;unfold QK at h;by_cases c1:isM (tk ts i) zy=true
 ·rw[if_pos c1] at h;have hi1:=W.isM hi c1;have O:=λst p=>@jiu base hb ts (i+1) d hi1 om st p;by_cases hd2:60<d+1
  ·rw[if_pos hd2] at h;cases h;refine⟨i+1,d+1,?_⟩;unfold pC at *;refine qd jb0 (by rfl) (hb.pur 128 3 dc) rfl ?_;simp only[Gy,jr,κ,μ,ν,ξ];rw[(by unfold vu;simp only[qq];rfl:vu=_)];repeat'(first|apply jb<;>intro _|simp(disch:=first|exact dzD|fail) only[T,c1,O,hd2,r6,δ,ε,ζ,η,θ])
   (refine G1.done ?_ (by rfl) (by rfl) ?_;(· (first|exact cyD|fail));(· first|exact vyD|skip))
  ·rw[if_neg hd2] at h;cases he:QK ts n (i+1) (d+1) with
   |none=>rw[he] at h;cases h
   |some q=>
    have A:=ihP _ _ _ he hi1 om;have hz:=(UR W n).2.2.1 _ _ _ he hi1;cases q with
    |er t=>
     rw[he] at h;cases h;obtain⟨i',d',A⟩:=A;have E:∀ st p,Cl st p (pC ts (i+1) (d+1))->∀ K Kp,XB γ base 128 [.ptr p 0] st K Kp=_:=λst p C K Kp=>A.xb C rfl (λst=>hb.no 128 dc _ _) K Kp;refine⟨i',d',?_⟩;unfold pC at *;refine qd jb0 (by rfl) (hb.pur 128 3 dc) rfl ?_;simp only[Gy,jr,κ,μ,ν,ξ];rw[(by unfold vu;simp only[qq];rfl:vu=_)];repeat'(first|apply jb<;>intro _|simp(disch:=first|exact dzD|fail) only[T,c1,O,hd2,E,r6,δ,ε,ζ,η,θ])
     (refine G1.done ?_ (by rfl) (by rfl) ?_;(· (first|exact cyD|fail));(· first|exact vyD|skip))
    |ok x j=>
     rw[he] at h;cases h;have A:PM _ _ _ _ _ _ _:=A;have E:∀ st p,Cl st p (pC ts (i+1) (d+1))->∀ K Kp,XB γ base 128 [.ptr p 0] st K Kp=_:=λst p C K Kp=>A.xb C rfl (λst=>hb.no 128 dc _ _) K Kp;have hj:j<ts.length:=hz.2.1;have e1:((d+1:Nat):Int) - 1=(d:Int):=om
     show PM _ _ _ _ _ _ _;unfold pC at *;refine qd jb0 (by rfl) (hb.pur 128 3 dc) rfl ?_;simp only[Gy,jr,κ,μ,ν,ξ];rw[(by unfold vu;simp only[qq];rfl:vu=_)];repeat'(first|apply jb<;>intro _|simp(disch:=first|exact dzD|fail) only[T,c1,O,hd2,E,e1,r6,δ,ε,ζ,η,θ])
     obtain⟨x1,x2,x3⟩:=joT (Vb c1).2;refine Wb λu hu=>?_;have n0:u.nx=5:=by rw[hu];rfl
     have C0:Cl u 0 [.lst ts.length (fl Tk.cells ts),.int .i64 (j:Int),.int .i64 (d:Int)]:=by
      rw[hu]
      (first|exact cyD|fail)
     have C1:Cl u 1 [.int .i64 0,.int .i64 0,.str [],.nils,.int .i64 0,.int .i64 0]:=by
      rw[hu]
      (first|exact cyD|fail)
     have C3:Cl u 3 (tk ts i).cells:=by
      rw[hu]
      (first|exact cyD|fail)
     have C4:Cl u 4 (eE x):=by
      rw[hu]
      (first|exact cyD|fail)
     clear hu;have hs:jY γ 9 (.ptr 3 1) (.str (tk ts i).text) u.h=true:=K6 jlf jle C3 (QbD (QaY 3)) rfl rfl;refine zb (λmm L s=>∃ k:Nat,k<=zy.idxOf (tk ts i).text/\mm=zy.idxOf (tk ts i).text - k/\s=u/\Has L 0 (.ptr 0 0)/\Has L 2 (.ptr 1 0)/\Has L 3 (.ptr 3 0)/\Has L 5 (.ptr 4 0)/\Has L 6 (.int .i64 ((5+k:Nat):Int))) ?_ (zy.idxOf (tk ts i).text) ?_
     ·rintro mm L s ⟨k,hk,rfl,rfl,i0,i2,i3,i5,i6⟩;have hS:=jjW hb ((5+k:Nat):Int);by_cases hk2:k=zy.idxOf (tk ts i).text
      ·rw[<-hk2] at x2
       (have zz:=a4 @n0 C0.r C1.r (aI C3.r C4.r);(repeat'(first|apply jb<;>intro _|simp(disch:=first|exact qU|fail) only[ja i0,ja i2,ja i3,ja i5,ja i6,hS,hs,x2,C0.q,C1.q,C3.q,C4.q,n0,C0.r,C1.r,C3.r,C4.r,r6,δ,ε,ζ,η,θ]));all_goals clear zz)
       rw[show U3 (tk ts i).text=5+k by unfold U3;rw[<-hk2],<-qJ];refine G1.done ?_ (by rfl) (by rfl) (jeJ (ks:=[x]) (b:=5) (cs:=eE x) ?_ (by rw[J5]) dc)
       ·(have zz:=aI C0.q (aI @n0 C0.r);first|exact qp|fail)
       ·rw[jz,jB dc,<-n0];exact Cl.new s _
      ·have x3':=x3 k om
       (have zz:=a4 @n0 C0.r C1.r (aI C3.r C4.r);(repeat'(first|apply jb<;>intro _|simp(disch:=first|exact qU|fail) only[ja i0,ja i2,ja i3,ja i5,ja i6,hS,hs,x3',C0.q,C1.q,C3.q,C4.q,n0,C0.r,C1.r,C3.r,C4.r,r6,δ,ε,ζ,η,θ]));all_goals clear zz)
       refine⟨zy.idxOf (tk ts i).text - (k+1),om,k+1,om,rfl,?_⟩;rw[show((5+(k+1):Nat):Int)=((5+k:Nat):Int)+1 by omega];simp(disch:=decide) only[h12,i0,i2,i3,i5]
     ·refine⟨0,om,rfl,rfl,?_⟩;rw[show((5+0:Nat):Int)=5 from rfl];simp(disch:=decide) only[h12]
 ·rw[if_neg c1] at h;have A:=ihV _ _ _ h hi hd;cases r with
  |er t=>
   obtain⟨i',d',A⟩:=A;have E:∀ st p,Cl st p (pC ts i d)->∀ K Kp,XB γ base 145 [.ptr p 0] st K Kp=_:=λst p C K Kp=>A.xb C rfl (λst=>hb.no 145 dc _ _) K Kp;refine⟨i',d',?_⟩;unfold pC at *;refine qd jb0 (by rfl) (hb.pur 128 3 dc) rfl ?_;simp only[Gy,jr,κ,μ,ν,ξ];rw[(by unfold vu;simp only[qq];rfl:vu=_)];repeat'(first|apply jb<;>intro _|simp(disch:=first|exact dzD|fail) only[T,c1,E,r6,δ,ε,ζ,η,θ])
   (refine G1.done ?_ (by rfl) (by rfl) ?_;(· (first|exact cyD|fail));(· first|exact vyD|skip))
  |ok x j=>
   have A:PM _ _ _ _ _ _ _:=A;have E:∀ st p,Cl st p (pC ts i d)->∀ K Kp,XB γ base 145 [.ptr p 0] st K Kp=_:=λst p C K Kp=>A.xb C rfl (λst=>hb.no 145 dc _ _) K Kp;show PM _ _ _ _ _ _ _;unfold pC at *;refine qd jb0 (by rfl) (hb.pur 128 3 dc) rfl ?_;simp only[Gy,jr,κ,μ,ν,ξ];rw[(by unfold vu;simp only[qq];rfl:vu=_)];repeat'(first|apply jb<;>intro _|simp(disch:=first|exact dzD|fail) only[T,c1,E,r6,δ,ε,ζ,η,θ])
   (refine G1.done ?_ (by rfl) (by rfl) ?_;(· (first|exact cyD|fail));(· first|exact vyD|skip))
theorem KN {α:Type}{enc:α->List AV}{z:Nat}(hz:∀ x,(enc x).length=z)(x:α)(xs:List α){k:IntKind}{n:Nat}(hn:n=xs.length+1){st:St}{K:AV->St->Prop}:jh (vE z (.lst n (fl enc (x :: xs))) (some (.int k 1)) none st) K=K (.lst xs.length (fl enc xs)) st:=by
 subst hn;have e1:Qcy 1 (xs.length+1)=true:=qu om;have e2:Qcy (xs.length+1) (xs.length+1)=true:=qu (τ _);have e3:Qcy (QcA (xs.length+1) z) (jO (fl enc (x :: xs)))=true:=qu (by rw[jL,Jk hz];exact τ _);have e4:(AV.int k 1)=.int k ((1:Nat):Int):=rfl;have e5:yh (zp (fl enc (x :: xs)) (QcA 1 z)) (QcA (QcB (xs.length+1) 1) z)=fl enc xs:=by
  rw[qK,yP];show((fl enc (x :: xs)).drop (1 * z)).take ((xs.length+1 - 1) * z)=_;rw[G9 hz,Nat.add_sub_cancel];show(fl enc xs).take _=_;rw[<-Jk hz,Qaf]
 rw[e4];simp only[vE,optA,GT,e1,e2,e3,cond_true,jh];rw[e5];rfl
theorem vK (v:Lev):(Xm v).length=2:=nr rfl
theorem kd (v:Lev)(l:List Lev){st:St}{K:AV->St->Prop}:jh (yb (.lptr (fl Xm (v :: l)) 0) st) K=K (.lst v.1.length (v.1.map .str)) st:=Jh (by rw[XY,υ,vK];omega)
theorem gH (v:Lev)(l:List Lev){st:St}{K:AV->St->Prop}:jh (yb (.lptr (fl Xm (v :: l)) 1) st) K=K (.int .i64 (v.2:Int)) st:=Jh (by rw[XY,υ,vK];omega)
theorem jce {b:Nat}{cs:List AV}{h:T AO}(ho:0+5<=qv h b)(hv:rats h b 0 5=cs)(hc:cs.all eqs=true):(jY γ 146 (.ptr b 0) (.agg cs) h=true)=True:=eq_true (Y5 js8 js7 dc ho hv hc)
theorem Q6 {b:Nat}{cs:List AV}{h:T AO}(ho:0+6<=qv h b)(hv:rats h b 0 6=cs)(hc:cs.all eqs=true):(jY γ 29 (.ptr b 0) (.agg cs) h=true)=True:=eq_true (Y5 jaQ jaP dc ho hv hc)
theorem Q8 (x:Ex):(eE x).all eqs=true:=nr (by rw[qJ];rfl)
theorem u7 (t:Tk):t.cells.all eqs=true:=nr rfl
def EK (ts:List Tk)(d:Nat)(r:PR)(v:AV)(s:St):Prop:=match r with | .ok y j=>G1 3 (pC ts j d) (.agg (eE y)) v s | .er _=>False
def EP (ts:List Tk)(r:PR)(v:AV)(s:St):Prop:=match r with | .ok _ _=>False | .er t=>∃ i' d',G1 3 (pC ts i' d') (er t) v s
theorem jgL (ts:List Tk)(d:Nat)(y:Ex)(j:Nat)(v:AV)(s:St):EK ts d (.ok y j) v s=G1 3 (pC ts j d) (.agg (eE y)) v s:=nr rfl
theorem jnJ (ts:List Tk)(t:Tk)(v:AV)(s:St):EP ts (.er t) v s = ∃ i' d',G1 3 (pC ts i' d') (er t) v s:=nr rfl
theorem jmm {f:FuncId}{F:XF}(hl:jy γ f=some F)(hnd:F.body.nd=true)(hm:base.pur f=3){xs:List AV}{ts:List Tk}{i d:Nat}{r:PR}
  (h:xC γ base F.body (jr F.ps (.ptr 0 0 :: xs)) (nw st0 (pC ts i d)) (Xw γ F.res (EK ts d r)) λv _ s=>EP ts r v s.bare):Ans base f (pC ts i d) xs ts d r:=by
 rw[<-GV] at h;obtain⟨q,he,hq⟩:=YJ (st:=ZD (pC ts i d)) (K:=EK ts d r) (Kp:=EP ts r) hl hnd h;cases r with
 |ok y j=>
  refine PM.of hm rfl ⟨q,he,?_⟩;cases q<;>first|exact hq|exact hq.elim
 |er t=>
  cases q with
  |no=>exact hq.elim
  |ok v s=>exact(hq:False).elim
  |pn v s=>
   obtain⟨i',d',hq⟩:=(hq:∃ i' d',G1 3 (pC ts i' d') (er t) v s);exact⟨i',d',PM.of hm rfl ⟨_,he,hq⟩⟩
set_option maxHeartbeats 4000000 in
theorem jrU (hb:NB base){ts:List Tk}(W:Wds ts){n:Nat}(ihE:∀ m,m<=n->IsE base ts m)(ihP:IsP base ts n):IsE base ts (n+1):=by
 intro lv i d r h hi hd ok;have wl:=W.len;unfold y8 at h;cases lv with
 |nil=>
  dsimp only at h;have A:=ihP _ _ _ h hi hd;cases r with
  |er t=>
   obtain⟨i',d',A⟩:=A;have E:∀ st p,Cl st p (pC ts i d)->∀ K Kp,XB γ base 128 [.ptr p 0] st K Kp=_:=λst p C K Kp=>A.xb C rfl (λst=>hb.no 128 dc _ _) K Kp;refine⟨i',d',?_⟩;unfold pC at *;refine qd x93 (by rfl) (hb.pur 100 3 dc) rfl ?_;simp only[y93,jr,κ,μ,ν,ξ];rw[(by unfold z93;simp only[qq];rfl:z93=_)];repeat'(first|apply jb<;>intro _|simp(disch:=first|exact dzD|fail) only[E,r6,δ,ε,ζ,η,θ])
   (refine G1.done ?_ (by rfl) (by rfl) ?_;(· (first|exact cyD|fail));(· first|exact vyD|skip))
  |ok x j=>
   have A:PM _ _ _ _ _ _ _:=A;have E:∀ st p,Cl st p (pC ts i d)->∀ K Kp,XB γ base 128 [.ptr p 0] st K Kp=_:=λst p C K Kp=>A.xb C rfl (λst=>hb.no 128 dc _ _) K Kp;show PM _ _ _ _ _ _ _;unfold pC at *;refine qd x93 (by rfl) (hb.pur 100 3 dc) rfl ?_;simp only[y93,jr,κ,μ,ν,ξ];rw[(by unfold z93;simp only[qq];rfl:z93=_)];repeat'(first|apply jb<;>intro _|simp(disch:=first|exact dzD|fail) only[E,r6,δ,ε,ζ,η,θ])
   (refine G1.done ?_ (by rfl) (by rfl) ?_;(· (first|exact cyD|fail));(· first|exact vyD|skip))
 |cons v l=>
  dsimp only at h;have hlen:(0:Int)<((l.length+1:Nat):Int):=om
  have hlen2:¬ ((l.length+1:Nat):Int)=0:=om
  cases he:y8 ts n l i d with
  |none=>rw[he] at h;cases h
  |some q=>
   have A:=ihE n (τ _) _ _ _ _ he hi hd ⟨by have:=ok.1;simp at this;omega,λw hw=>ok.2 w (Qce _ hw)⟩;have hz:=(UR W n).1 _ _ _ _ he hi;cases q with
   |er t=>
    rw[he] at h;cases h;obtain⟨i',d',A⟩:=A;have E:∀ st p,Cl st p (pC ts i d)->∀ K Kp,XB γ base 100 [.ptr p 0,.lst l.length (fl Xm l)] st K Kp=_:=λst p C K Kp=>A.xb C rfl (λst=>hb.no 100 dc _ _) K Kp;refine⟨i',d',?_⟩;unfold pC at *;refine qd x93 (by rfl) (hb.pur 100 3 dc) rfl ?_;simp only[y93,jr,κ,μ,ν,ξ];rw[(by unfold z93;simp only[qq];rfl:z93=_)];repeat'(first|apply jb<;>intro _|simp(disch:=first|exact dzD|fail) only[E,hlen2,KN vK v l,r6,δ,ε,ζ,η,θ])
    (refine G1.done ?_ (by rfl) (by rfl) ?_;(· (first|exact cyD|fail));(· first|exact vyD|skip))
   |ok x j=>
    rw[he] at h;dsimp only at h;have A:PM _ _ _ _ _ _ _:=A;have E:∀ st p,Cl st p (pC ts i d)->∀ K Kp,XB γ base 100 [.ptr p 0,.lst l.length (fl Xm l)] st K Kp=_:=λst p C K Kp=>A.xb C rfl (λst=>hb.no 100 dc _ _) K Kp;have hj:j<ts.length:=hz.2.1;show Ans base 100 (pC ts i d) [.lst (v :: l).length (fl Xm (v :: l))] ts d r;refine jmm x93 (by rfl) (hb.pur 100 3 dc) ?_;simp only[y93,jr,κ,μ,ν,ξ];rw[(by unfold z93;simp only[qq];rfl:z93=_)];unfold pC at *;repeat'(first|apply jb<;>intro _|simp(disch:=first|exact dzD|fail) only[E,hlen2,KN vK v l,r6,δ,ε,ζ,η,θ])
    refine Wb λu hu=>?_;have n0:3<=u.nx:=by rw[hu];exact τ _
    have C0:Cl u 0 (pC ts j d):=by
     rw[hu];unfold pC
     (first|exact cyD|fail)
    have C1:Cl u 1 [.int .i64 0,.int .i64 0,.str [],.nils,.int .i64 0,.int .i64 0]:=by
     rw[hu]
     (first|exact cyD|fail)
    have C2:Cl u 2 (eE x):=by
     rw[hu]
     (first|exact cyD|fail)
    clear hu E A;refine zb (λmm L s=>∃ (m i':Nat) (x':Ex),m<=n/\mm=m/\Xb ts m v l x' i' d=some r/\i'<ts.length/\3<=s.nx/\Cl s 0 (pC ts i' d)/\Cl s 1 [.int .i64 0,.int .i64 0,.str [],.nils,.int .i64 0,.int .i64 0]/\Cl s 2 (eE x')/\Has L 0 (.ptr 0 0)/\Has L 1 (.lst (l.length+1) (fl Xm (v :: l)))/\Has L 4 (.ptr 1 0)/\Has L 5 (.ptr 2 0)) ?_ n ?_
    ·rintro m L s ⟨_,i',x',hm,rfl,hl,hi',n0,C0,C1,C2,i0,i1,i4,i5⟩;cases m with
     |zero=>simp[Xb] at hl
     |succ m=>
     unfold Xb at hl;have hx:(i':Int)+1=((i'+1:Nat):Int):=om
     have T:=λst p=>@jqZ base hb ts i' d hi' om v.1 (by have:=ok.2 v (by simp);omega) st p;have R2:rats s.h 2 0 6=eE x':=(C2.ratsP 6 0 (by rw[Jl];decide)).trans (by rw[Qbg,<-Jl x',Qaf]);have l2:=C2.len;rw[Jl] at l2;have L0:=C0.lt;have L1:=C1.lt;have L2:=C2.lt;by_cases c1:isM (tk ts i') v.1=true
     ·rw[if_pos c1] at hl;have hi1:=W.isM hi' c1;have hw:=λy=>jtn hb (tk ts i') x' y;by_cases w1:v.2=1
      ·rw[if_pos w1] at hl;have w1':(v.2:Int)=1:=om
       cases he2:y8 ts m (v :: l) (i'+1) d with
       |none=>rw[he2] at hl;cases hl
       |some q=>
        have A:=ihE m om _ _ _ _ he2 hi1 hd ok;cases q with
        |er t=>
         rw[he2] at hl;cases hl;obtain⟨i2,d2,A⟩:=A;have E:∀ st p,Cl st p (pC ts (i'+1) d)->∀ K Kp,XB γ base 100 [.ptr p 0,.lst (l.length+1) (fl Xm (v :: l))] st K Kp=_:=λst p C K Kp=>A.xb C rfl (λst=>hb.no 100 dc _ _) K Kp;unfold pC at *
         (have zz:=a4 @Q8 @u7 @R2 (aI @l2 (aI C0.r C1.r));(repeat'(first|apply jb<;>intro _|simp(disch:=first|exact qU|fail) only[ja i0,ja i1,ja i4,ja i5,T,c1,E,w1',kd,gH,jce,Q6,GC i5,jnJ,R2,C0.q,C1.q,Q8,u7,R2,l2,C0.r,C1.r,r6,δ,ε,ζ,η,θ]));all_goals clear zz)
         refine⟨i2,d2,?_⟩;unfold pC
         (refine G1.done ?_ (by rfl) (by rfl) ?_;(· (have zz:=a4 C0.q C1.q C2.q (aI C0.r (aI C1.r C2.r));first|exact qp|fail));(· first|exact vyD|skip))
        |ok y j=>
         rw[he2] at hl;cases hl;have A:PM _ _ _ _ _ _ _:=A;have E:∀ st p,Cl st p (pC ts (i'+1) d)->∀ K Kp,XB γ base 100 [.ptr p 0,.lst (l.length+1) (fl Xm (v :: l))] st K Kp=_:=λst p C K Kp=>A.xb C rfl (λst=>hb.no 100 dc _ _) K Kp;unfold pC at *
         (have zz:=a4 @Q8 @u7 @R2 (aI @l2 (aI C0.r C1.r));(repeat'(first|apply jb<;>intro _|simp(disch:=first|exact qU|fail) only[ja i0,ja i1,ja i4,ja i5,T,c1,E,w1',kd,gH,jce,Q6,GC i5,jgL,<-qJ,hw,R2,C0.q,C1.q,Q8,u7,R2,l2,C0.r,C1.r,r6,δ,ε,ζ,η,θ]));all_goals clear zz)
         unfold pC
         (refine G1.done ?_ (by rfl) (by rfl) ?_;(· (have zz:=a4 C0.q C1.q C2.q (aI C0.r (aI C1.r C2.r));first|exact qp|fail));(· first|exact vyD|skip))
      ·rw[if_neg w1] at hl;have w1':¬ (v.2:Int)=1:=om
       cases he2:y8 ts m l (i'+1) d with
       |none=>rw[he2] at hl;cases hl
       |some q=>
        have A:=ihE m om _ _ _ _ he2 hi1 hd ⟨by have:=ok.1;simp at this;omega,λw hw=>ok.2 w (Qce _ hw)⟩;have hz2:=(UR W m).1 _ _ _ _ he2 hi1;cases q with
        |er t=>
         rw[he2] at hl;cases hl;obtain⟨i2,d2,A⟩:=A;have E:∀ st p,Cl st p (pC ts (i'+1) d)->∀ K Kp,XB γ base 100 [.ptr p 0,.lst l.length (fl Xm l)] st K Kp=_:=λst p C K Kp=>A.xb C rfl (λst=>hb.no 100 dc _ _) K Kp;unfold pC at *
         (have zz:=a4 @Q8 @u7 @R2 (aI @l2 (aI C0.r C1.r));(repeat'(first|apply jb<;>intro _|simp(disch:=first|exact qU|fail) only[ja i0,ja i1,ja i4,ja i5,T,c1,E,w1',kd,gH,jce,Q6,GC i5,jnJ,KN vK v l,R2,C0.q,C1.q,Q8,u7,R2,l2,C0.r,C1.r,r6,δ,ε,ζ,η,θ]));all_goals clear zz)
         refine⟨i2,d2,?_⟩;unfold pC
         (refine G1.done ?_ (by rfl) (by rfl) ?_;(· (have zz:=a4 C0.q C1.q C2.q (aI C0.r (aI C1.r C2.r));first|exact qp|fail));(· first|exact vyD|skip))
        |ok y j=>
         rw[he2] at hl;dsimp only at hl;have A:PM _ _ _ _ _ _ _:=A;have hj2:j<ts.length:=hz2.2.1;have E:∀ st p,Cl st p (pC ts (i'+1) d)->∀ K Kp,XB γ base 100 [.ptr p 0,.lst l.length (fl Xm l)] st K Kp=_:=λst p C K Kp=>A.xb C rfl (λst=>hb.no 100 dc _ _) K Kp;by_cases w2:v.2=2
         ·rw[if_pos w2] at hl;cases hl;have w2':(v.2:Int)=2:=om
          unfold pC at *
          (have zz:=a4 @Q8 @u7 @R2 (aI @l2 (aI C0.r C1.r));(repeat'(first|apply jb<;>intro _|simp(disch:=first|exact qU|fail) only[ja i0,ja i1,ja i4,ja i5,T,c1,E,w1',w2',kd,gH,jce,Q6,GC i5,jgL,<-qJ,hw,KN vK v l,R2,C0.q,C1.q,Q8,u7,R2,l2,C0.r,C1.r,r6,δ,ε,ζ,η,θ]));all_goals clear zz)
          unfold pC
          (refine G1.done ?_ (by rfl) (by rfl) ?_;(· (have zz:=a4 C0.q C1.q C2.q (aI C0.r (aI C1.r C2.r));first|exact qp|fail));(· first|exact vyD|skip))
         ·rw[if_neg w2] at hl;have w2':¬ (v.2:Int)=2:=om
          unfold pC at *
          (have zz:=a4 @Q8 @u7 @R2 (aI @l2 (aI C0.r C1.r));(repeat'(first|apply jb<;>intro _|simp(disch:=first|exact qU|fail) only[ja i0,ja i1,ja i4,ja i5,T,c1,E,w1',w2',kd,gH,jce,Q6,GC i5,<-qJ,hw,KN vK v l,R2,C0.q,C1.q,Q8,u7,R2,l2,C0.r,C1.r,r6,δ,ε,ζ,η,θ]));all_goals clear zz)
          refine⟨m,om,m,j,QI (tk ts i') x' y,om,rfl,hl,hj2,om,?_,?_,?_,?_⟩
          ·(have zz:=a4 C0.q C1.q C2.q (aI C0.r (aI C1.r C2.r));first|exact qp|fail)
          ·(have zz:=a4 C0.q C1.q C2.q (aI C0.r (aI C1.r C2.r));first|exact qp|fail)
          ·(have zz:=a4 C0.q C1.q C2.q (aI C0.r (aI C1.r C2.r));first|exact qp|fail)
          ·simp(disch:=decide) only[h12,i0,i1,i4,i5]
     ·rw[if_neg c1] at hl;cases hl;unfold pC at *
      (have zz:=a4 @R2 @l2 C0.r C1.r;(repeat'(first|apply jb<;>intro _|simp(disch:=first|exact qU|fail) only[ja i0,ja i1,ja i4,ja i5,T,c1,kd,jgL,<-qJ,R2,C0.q,C1.q,R2,l2,C0.r,C1.r,r6,δ,ε,ζ,η,θ]));all_goals clear zz)
      unfold pC
      (refine G1.done ?_ (by rfl) (by rfl) ?_;(· (have zz:=a4 C0.q C1.q C2.q (aI C0.r (aI C1.r C2.r));first|exact qp|fail));(· first|exact vyD|skip))
    ·refine⟨n,j,x,τ _,rfl,h,hj,n0,C0,C1,C2,?_⟩;simp(disch:=decide) only[h12]
mutual
def Ex.ev (q:Ex->Prop):Ex->Prop
 |.mk o n nm ks l c=>q (.mk o n nm ks l c)/\Ex.evs q ks
def Ex.evs (q:Ex->Prop):List Ex->Prop
 |[]=>True
 |x :: xs=>x.ev q/\Ex.evs q xs
end
def atW (ts:List Tk)(x:Ex):Prop:=x.op≠4/\∃ k,k<ts.length/\(tk ts k).kind≠5/\x.line=(tk ts k).line/\x.col=(tk ts k).col
def GoodR (ts:List Tk)(i:Nat):PR->Prop
 |.ok x j=>i<=j/\j<ts.length/\x.ev (atW ts)
 |.er t=>∃ k,k<ts.length/\t=tk ts k
theorem GoodR.le {ts:List Tk}{i j:Nat}{r:PR}(h:GoodR ts j r)(hij:i<=j):GoodR ts i r:=by
 cases r with
 |ok x k=>exact⟨Qab hij h.1,h.2⟩
 |er t=>exact h
def okT (l:List Lev):Prop:=∀ v∈l,∀ s∈v.1,(wF s).isSome=true
theorem gn:okT Jp:=by
 have:(Jp.all λv=>v.1.all λs=>(wF s).isSome)=true:=by decide +kernel
 intro v hv s hs;rw[Qal] at this;have h:=this v hv;rw[Qal] at h;exact h s hs
theorem Wj {ts:List Tk}{k:Nat}(hk:k<ts.length)(h5:(tk ts k).kind≠5){o n:Int}{nm:List Nat}{ks:List Ex}(ho:o≠4)(h:Ex.evs (atW ts) ks):(Ex.mk o n nm ks (tk ts k).line (tk ts k).col).ev (atW ts):=
 ⟨⟨ho,k,hk,h5,rfl,rfl⟩,h⟩
theorem jhO {ts:List Tk}{k:Nat}(hk:k<ts.length)(h5:(tk ts k).kind≠5){x y:Ex}(hx:x.ev (atW ts))(hy:y.ev (atW ts))(ht:(wF (tk ts k).text).isSome=true):(QI (tk ts k) x y).ev (atW ts):=by
 unfold QI;split
 ·refine Wj hk h5 om ⟨hx,hy,trivial⟩
 ·rename_i h;rw[h] at ht;cases ht
theorem gS {t:Tk}{S:List (List Nat)}(h:isM t S=true):t.kind≠5:=by have:=(Vb h).1;omega
def Anw (f:Nat->Option PR)(Q:PR->Prop):Prop:=∃ N r,Q r/\∀ n,N<=n->f n=some r
theorem Anw.mono {f:Nat->Option PR}{Q R:PR->Prop}(h:Anw f Q)(k:∀ r,Q r->R r):Anw f R:=by
 obtain⟨N,r,h1,h2⟩:=h;exact⟨N,r,k r h1,h2⟩
theorem jnV {f g:Nat->Option PR}{Q:PR->Prop}(h:Anw f Q)(k:∀ n,g (n+1)=f n):Anw g Q:=by
 obtain⟨N,r,h1,h2⟩:=h;refine⟨N+1,r,h1,λn hn=>?_⟩;obtain⟨m,rfl⟩:∃ m,n=m+1:=⟨n - 1,om⟩;rw[k,h2 m om]
theorem uP {g:Nat->Option PR}{Q:PR->Prop}(r:PR)(hQ:Q r)(k:∀ n,g (n+1)=some r):Anw g Q:=by
 refine⟨1,r,hQ,λn hn=>?_⟩;obtain⟨m,rfl⟩:∃ m,n=m+1:=⟨n - 1,om⟩;exact k m
theorem Gu {f g:Nat->Option PR}{Q R:PR->Prop}(F:Ex->Nat->Nat->Option PR)(h:Anw f Q)(k:∀ n,g (n+1)=(match f n with|some (.ok x j)=>F x j n|r=>r))(he:∀ t,Q (.er t)->R (.er t))(ho:∀ x j,Q (.ok x j)->Anw (F x j) R):Anw g R:=by
 obtain⟨N,r,h1,h2⟩:=h;cases r with
 |er t=>
  refine⟨N+1,.er t,he t h1,λn hn=>?_⟩;obtain⟨m,rfl⟩:∃ m,n=m+1:=⟨n - 1,om⟩;rw[k,h2 m om]
 |ok x j=>
  obtain⟨M,r,h3,h4⟩:=ho x j h1;refine⟨max N M+1,r,h3,λn hn=>?_⟩;obtain⟨m,rfl⟩:∃ m,n=m+1:=⟨n - 1,om⟩;rw[k,h2 m om];exact h4 m om
theorem Gt {f:Nat->Option PR}{Q:PR->Prop}(r:PR)(hQ:Q r)(k:∀ n,f n=some r):Anw f Q:=⟨0,r,hQ,λn _=>k n⟩
structure AnsM (ts:List Tk)(m:Nat):Prop where
 e:∀ i d l,i<ts.length->ts.length<=i+m->d<=60->okT l->Anw (λn=>y8 ts n l i d) (GoodR ts (i+1))
 p:∀ i d,i<ts.length->ts.length<=i+m->d<=60->Anw (λn=>QK ts n i d) (GoodR ts (i+1))
 o:∀ i d v l x,i<ts.length->ts.length<=i+m->d<=60->okT (v :: l)->x.ev (atW ts)->Anw (λn=>Xb ts n v l x i d) (GoodR ts i)
theorem jsE {ts:List Tk}(W:Wds ts):∀ m,AnsM ts m
 |0=>⟨λi d l h1 h2=>by omega,λi d h1 h2=>by omega,λi d v l x h1 h2=>by omega⟩
 |m+1=>by
  have ih:=jsE W m;have hv:∀ i d,i<ts.length->ts.length<=i+(m+1)->d<=60->Anw (λn=>YD ts n i d) (GoodR ts (i+1)):=by
   intro i d hi hm hd;by_cases h2:(tk ts i).kind=2
   ·exact uP (.ok (.mk 1 (tk ts i).num [] [] (tk ts i).line (tk ts i).col) (i+1)) ⟨τ _,W.next i hi om,Wj hi om dc (ks:=[]) trivial⟩ λn=>by simp only[YD];rw[if_pos h2]
   by_cases h1:(tk ts i).kind=1
   ·exact uP (.ok (.mk 3 0 (tk ts i).text [] (tk ts i).line (tk ts i).col) (i+1)) ⟨τ _,W.next i hi om,Wj hi om dc (ks:=[]) trivial⟩ λn=>by simp only[YD];rw[if_neg h2,if_pos h1]
   by_cases ht:isM (tk ts i) [[116,114,117,101]]=true
   ·exact uP (.ok (.mk 2 1 [] [] (tk ts i).line (tk ts i).col) (i+1)) ⟨τ _,W.isM hi ht,Wj hi (gS ht) dc (ks:=[]) trivial⟩ λn=>by simp only[YD];rw[if_neg h2,if_neg h1,if_pos ht]
   by_cases hf:isM (tk ts i) [[102,97,108,115,101]]=true
   ·exact uP (.ok (.mk 2 0 [] [] (tk ts i).line (tk ts i).col) (i+1)) ⟨τ _,W.isM hi hf,Wj hi (gS hf) dc (ks:=[]) trivial⟩ λn=>by simp only[YD];rw[if_neg h2,if_neg h1,if_neg ht,if_pos hf]
   by_cases hp:isM (tk ts i) [[40]]=true
   ·have hi1:=W.isM hi hp;by_cases h60:60<d+1
    ·exact uP (.er _) ⟨i+1,hi1,rfl⟩ λn=>by simp only[YD];rw[if_neg h2,if_neg h1,if_neg ht,if_neg hf,if_pos hp,if_pos h60]
    ·refine Gu (λx j n=>if isM (tk ts j) [[41]]=true then some (.ok x (j+1)) else some (.er (tk ts j))) (ih.e (i+1) (d+1) Jp hi1 om om gn) (λn=>by simp only[YD];rw[if_neg h2,if_neg h1,if_neg ht,if_neg hf,if_pos hp,if_neg h60]<;>rfl) (λt h=>h) λx j h=>?_;by_cases hq:isM (tk ts j) [[41]]=true
     ·exact Gt (.ok x (j+1)) ⟨by have:=h.1;omega,W.isM h.2.1 hq,h.2.2⟩ λn=>if_pos hq
     ·exact Gt (.er (tk ts j)) ⟨j,h.2.1,rfl⟩ λn=>if_neg hq
   ·exact uP (.er _) ⟨i,hi,rfl⟩ λn=>by simp only[YD];rw[if_neg h2,if_neg h1,if_neg ht,if_neg hf,if_neg hp]
  have hp:∀ i d,i<ts.length->ts.length<=i+(m+1)->d<=60->Anw (λn=>QK ts n i d) (GoodR ts (i+1)):=by
   intro i d hi hm hd;by_cases hp:isM (tk ts i) zy=true
   ·have hi1:=W.isM hi hp;by_cases h60:60<d+1
    ·exact uP (.er _) ⟨i+1,hi1,rfl⟩ λn=>by simp only[QK];rw[if_pos hp,if_pos h60]
    ·refine Gu (λx j n=>some (.ok (.mk (U3 (tk ts i).text:Nat) 0 [] [x] (tk ts i).line (tk ts i).col) j)) (ih.p (i+1) (d+1) hi1 om om) (λn=>by simp only[QK];rw[if_pos hp,if_neg h60]<;>rfl) (λt h=>h) λx j h=>?_;exact Gt (.ok (.mk (U3 (tk ts i).text:Nat) 0 [] [x] (tk ts i).line (tk ts i).col) j) ⟨by have:=h.1;omega,h.2.1,Wj hi (gS hp) (by unfold U3;omega) (ks:=[x]) ⟨h.2.2,trivial⟩⟩ λn=>rfl
   ·exact jnV (hv i d hi hm hd) λn=>by simp only[QK];rw[if_neg hp]
  have he:∀ l i d,i<ts.length->ts.length<=i+(m+1)->d<=60->okT l->Anw (λn=>y8 ts n l i d) (GoodR ts (i+1)):=by
   intro l;induction l with
   |nil=>intro i d hi hm hd hl;exact jnV (hp i d hi hm hd) λn=>by simp only[y8]
   |cons v l ihl=>
    intro i d hi hm hd hl;refine Gu (λx j n=>Xb ts n v l x j d) (ihl i d hi hm hd λw hw=>hl w (Qce _ hw)) (λn=>by simp only[y8]<;>rfl) (λt h=>h) λx j h=>?_;exact(ih.o j d v l x h.2.1 (by have:=h.1;omega) hd hl h.2.2).mono λr hr=>hr.le h.1
  refine⟨λi d l h1 h2 h3 h4=>he l i d h1 h2 h3 h4,hp,λi d v l x hi hm hd hl hx=>?_⟩;by_cases hs:isM (tk ts i) v.1=true
  ·have hi1:=W.isM hi hs;have ht:(wF (tk ts i).text).isSome=true:=hl v (List.mem_cons_self ..) _ (Vb hs).2;have hl':okT l:=λw hw=>hl w (Qce _ hw);by_cases hw:v.2=1
   ·refine Gu (λy j n=>some (.ok (QI (tk ts i) x y) j)) (ih.e (i+1) d (v :: l) hi1 om hd hl) (λn=>by simp only[Xb];rw[if_pos hs,if_pos hw]<;>rfl) (λt h=>h) λy j h=>?_;exact Gt (.ok (QI (tk ts i) x y) j) ⟨by have:=h.1;omega,h.2.1,jhO hi (gS hs) hx h.2.2 ht⟩ λn=>rfl
   ·refine Gu (λy j n=>if v.2=2 then some (.ok (QI (tk ts i) x y) j) else Xb ts n v l (QI (tk ts i) x y) j d) (ih.e (i+1) d l hi1 om hd hl') (λn=>by simp only[Xb];rw[if_pos hs,if_neg hw]<;>rfl) (λt h=>h) λy j h=>?_;have hxy:=jhO hi (gS hs) hx h.2.2 ht;by_cases h2:v.2=2
    ·exact Gt (.ok (QI (tk ts i) x y) j) ⟨by have:=h.1;omega,h.2.1,hxy⟩ λn=>if_pos h2
    ·obtain⟨N,r,h3,h4⟩:=ih.o j d v l _ h.2.1 (by have:=h.1;omega) hd hl hxy;exact⟨N,r,h3.le (by have:=h.1;omega),λn hn=>(if_neg h2).trans (h4 n hn)⟩
  ·exact uP (.ok x i) ⟨τ _,hi,hx⟩ λn=>by simp only[Xb];rw[if_neg hs]
theorem reads (hb:NB base){ts:List Tk}(W:Wds ts):∀ n,IsE base ts n/\IsP base ts n/\IsV base ts n:=by
 have key:∀ n,∀ m,m<=n->IsE base ts m/\IsP base ts m/\IsV base ts m:=by
  intro n;induction n with
  |zero=>
   intro m hm;obtain rfl:m=0:=om
   exact⟨λ_ _ _ _ h=>(by simp[y8] at h),λ_ _ _ h=>(by simp[QK] at h),λ_ _ _ h=>(by simp[YD] at h)⟩
  |succ n ih=>
   intro m hm;by_cases h:m<=n
   ·exact ih m h
   ·obtain rfl:m=n+1:=om
    obtain⟨h1,h2,h3⟩:=ih n (τ _);exact⟨jrU hb W (λk hk=>(ih k hk).1) h2,jlA hb W h2 h3,jn9 hb W h1⟩
 exact λn=>key n n (τ _)
def VA (ts:List Tk)(i:Nat)(r0:PR):PR:=match r0 with
 |.er t=>.er t
 |.ok x j=>if ze 60 x=true then .ok x j else .er (tk ts i)
def EvR (ts:List Tk)(i:Nat)(r:PR):Prop:=∃ N,∀ n,N<=n->y8 ts n Jp i 0=some r
theorem EvR.uniq {ts:List Tk}{i:Nat}{r q:PR}(h:EvR ts i r)(k:EvR ts i q):r=q:=by
 obtain⟨N,h⟩:=h;obtain⟨M,k⟩:=k;have:=(h (max N M) (Qas ..)).symm.trans (k (max N M) (Qat ..));exact Option.some.inj this
open Classical in
def yx (ts:List Tk)(i:Nat):PR:=if h:∃ r,EvR ts i r then VA ts i h.choose else .er (tk ts i)
theorem VD {ts:List Tk}{i:Nat}{r:PR}(h:EvR ts i r):yx ts i=VA ts i r:=by
 unfold yx;rw[dif_pos ⟨r,h⟩];have:=(⟨r,h⟩:∃ r,EvR ts i r).choose_spec;rw[this.uniq h]
theorem evR {ts:List Tk}(W:Wds ts){i:Nat}(hi:i<ts.length):∃ r,GoodR ts (i+1) r/\EvR ts i r:=by
 obtain⟨N,r,hg,hr⟩:=(jsE W ts.length).e i 0 Jp hi om dc gn;exact⟨r,hg,N,hr⟩
theorem UJ (hb:NB base){ts:List Tk}(W:Wds ts){i:Nat}(hi:i<ts.length):Ans base 72 (pC ts i 0) [] ts 0 (yx ts i):=by
 obtain⟨r,_,hr⟩:=evR W hi;rw[VD hr];obtain⟨N,hr⟩:=hr;have he:=hr N (τ _);have A:=(reads hb W N).1 _ _ _ _ he hi om ⟨dc,dc⟩;have hz:=(UR W N).1 _ _ _ _ he hi;have hN:=λst p=>@Za base hb ts i 0 hi st p;have hL:=jcJ hb;cases r with
 |er t=>
  obtain⟨i',d',A⟩:=A;have E:∀ st p,Cl st p (pC ts i 0)->∀ K Kp,XB γ base 100 [.ptr p 0,.lst 8 (fl Xm Jp)] st K Kp=_:=λst p C K Kp=>A.xb C rfl (λst=>hb.no 100 dc _ _) K Kp;refine⟨i',d',?_⟩;unfold pC at *;refine qd x48 (by rfl) (hb.pur 72 3 dc) rfl ?_;simp only[y48,jr,κ,μ,ν,ξ];rw[(by unfold z48;simp only[qq];rfl:z48=_)];repeat'(first|apply jb<;>intro _|simp(disch:=first|exact dzD|fail) only[hN,hL,E,r6,δ,ε,ζ,η,θ])
  (refine G1.done ?_ (by rfl) (by rfl) ?_;(· (first|exact cyD|fail));(· first|exact vyD|skip))
 |ok x j=>
  have A:PM _ _ _ _ _ _ _:=A;have E:∀ st p,Cl st p (pC ts i 0)->∀ K Kp,XB γ base 100 [.ptr p 0,.lst 8 (fl Xm Jp)] st K Kp=_:=λst p C K Kp=>A.xb C rfl (λst=>hb.no 100 dc _ _) K Kp;have hx:szE x<=BIG:=by
   have h1:=hz.2.2;have h2:(j - i) * 65537<=1000000 * 65537:=Qax _ (by have:=W.len;have:=hz.2.1;omega);have h3:1000000 * 65537<=BIG:=dc
   exact Qab h1 (by rw[Qam];exact Qab h2 h3)
  have hR:=jpk hb x hx;unfold VA;dsimp only;by_cases c:ze 60 x=true
  ·rw[if_pos c];show PM _ _ _ _ _ _ _;unfold pC at *;refine qd x48 (by rfl) (hb.pur 72 3 dc) rfl ?_;simp only[y48,jr,κ,μ,ν,ξ];rw[(by unfold z48;simp only[qq];rfl:z48=_)];repeat'(first|apply jb<;>intro _|simp(disch:=first|exact dzD|fail) only[hN,hL,E,hR,c,<-qJ,r6,δ,ε,ζ,η,θ])
   (refine G1.done ?_ (by rfl) (by rfl) ?_;(· (first|exact cyD|fail));(· first|exact vyD|skip))
  ·rw[if_neg c];refine⟨j,0,?_⟩;unfold pC at *;refine qd x48 (by rfl) (hb.pur 72 3 dc) rfl ?_;simp only[y48,jr,κ,μ,ν,ξ];rw[(by unfold z48;simp only[qq];rfl:z48=_)];repeat'(first|apply jb<;>intro _|simp(disch:=first|exact dzD|fail) only[hN,hL,E,hR,c,Qv hb,r6,δ,ε,ζ,η,θ])
   (refine G1.done ?_ (by rfl) (by rfl) ?_;(· (first|exact cyD|fail));(· first|exact vyD|skip))
def z15:XC:=(ov [TA 2,o9 3 [oB,oB,oB]] (oY [IZ 9,Oy 10 64 9,oz 8 10,Tx 11 8,Ty 12 8,TM 11,o6 3 3 12] (Id [OP 13 3,oI 14 13,ow 15 (O8 .neq 14)] 15 (Lj [La 16 6 2 2 29,La 17 3 3 3 45,Tz 6 2 16 [(0,45)],TV 3 3 17])) (O9 [o4 (.defer (oR 65 []) [3])] [TZ 18,Iw 19 [.nils,oB,oB] [((0,1),18)],ol 20 (.box 19),oy 5 20] (oY [Ld 21,Oy 22 72 21,TA 6,TW 6 22] (ov [Ld 23,Oy 24 73 23,o9 7 [oB,oK,oB,oB,oB],o6 5 7 24] (OA [OP 25 7,oI 26 25,O4 27 .neq 26 5] 27 [oV 28 5 7,Oy 29 74 28])) (Lj [La 30 6 6 6 29,La 31 3 3 3 45,Tz 6 2 30 [(0,45)],TV 3 3 31])))))
def y15:XF:=⟨[0],z15,[(.cA 2 6),(.cA 3 3)]⟩
theorem x15:jy γ 54=some y15:=by kernel_rfl
def z9:XC:=(ov [o9 2 [.nils,.nils,.nils],o9 3 [oB,oB,oB]] (oY [IZ 7,Oy 8 64 7,oz 6 8,Tx 9 6,Ty 10 6,TM 9,o6 3 3 10] (Id [OP 11 3,oI 12 11,ow 13 (O8 .neq 12)] 13 (Lj [La 14 3 2 2 26,La 15 3 3 3 45,Tz 3 2 14 [(0,45)],TV 3 3 15])) (ov [o4 (.defer (oR 65 []) [3])] (oY [TZ 16,Iw 17 [.nils,oB,oB] [((0,1),16)],ol 18 (.box 17),oy 5 18] (.dops [Tr 19 5,(TS 20 66 19 0 [],some [OQ 20,Ik (T1 21 3) 3 45 [(0,0)],Ia (o4 (.i (.mv IJ))) 0,Ia (o4 (.i (.mv IJ))) 0]),OO 21 3 3 3 45 [(0,0)],Tz 3 2 20 [(0,45)],TV 3 3 21]) .ret))))
def y9:XF:=⟨[0],z9,[(.cA 2 3),(.cA 3 3)]⟩
theorem x9:jy γ 52=some y9:=by kernel_rfl
def z78:XC:=(ov [o9 2 [oK,.nils,oB,oB]] (O9 [IZ 7,Oy 8 120 7,o9 3 [oB,oK,oB,oB,oB],o6 5 3 8] [Tw 9 3,oI 10 9,Tm 11 3,oI 12 11,oF 13 4 3,oI 14 13,Iw 15 [oK,.nils,oB,oB] [((0,1),10),((2,1),12),((3,1),14)],o9 4 [oK,.nils,oB,oB],o6 4 4 15] (IV [IZ 16,OB 17 121 16 (o8 [123])] 0 (.block 1 (.seq (Id [IZ 18,Oy 19 73 18,ol 20 (.fld1 0 19),O4 21 .eql 20 1] 21 (.dops [IY 22 1 4,Tt 23 22 22 106,IP (I5 24 23),IP (IZ 25),(TS 26 73 25 0 [(2,106)],OK),(Iy (OB 27 87 24 26) 0 [],OK)])) (Os [IY 28 1 4,Tt 29 28 28 106,IP (IZ 30),(TS 31 120 30 0 [(1,106)],OK),IP (ol 32 (.fld1 1 31)),IP (TJ 33 1 oK [((0,1),32)]),I4 (Or 34 1 16 29 33) 0 [],IY 35 1 4,TV 1 35 34] (ov [IZ 37,TJ 38 1 oK [OU 0 44],OB 39 86 37 38,oz 36 39,Tx 40 36,Ty 41 36,ol 5 (.alloc [oB,oK,oB,oB,oB]),o6 5 5 40,oy 6 41] (Id [T0 42,OW 43 42] 43 (OL [IZ 44,OB 45 121 44 (o8 [125])] [oV 46 4 4,o6 4 2 46])))))))))
def y78:XF:=⟨[0],z78,[(.cA 2 4)]⟩
theorem x78:jy γ 88=some y78:=by kernel_rfl
def jfy:XC:=(.seq (ov [IZ 45,TJ 46 1 oK [OU 0 61],OB 47 86 45 46,oz 44 47,Tx 48 44,Ty 49 44,ol 7 (.alloc [oB,oK,oB,oB,oB]),o6 5 7 48,oy 8 49] (OA [oy 50 8] 50 [IZ 51,Oy 52 72 51,Iu 53 1 6 OJ [((0,6),52)],oF 54 4 4,o6 1 54 53])) (OL [IZ 55,OB 56 121 55 (o8 [59])] [oV 57 7 4,o6 7 2 57]))
def jfz:XC:=(.seq (ov [IZ 21,TJ 22 1 oK [Ov 0 [98,111,111,108]],OB 23 86 21 22,oz 20 23,Tx 24 20,Ty 25 20,ol 5 (.alloc [oB,oK,oB,oB,oB]),o6 5 5 24,oy 6 25] (oL [oy 26 6] 26 (.ops [Tw 27 4,o6 1 27 (o8 [98,111,111,108])]) (oL [IZ 28,Oy 29 73 28,ol 30 (.fld1 0 29),O4 31 .eql 30 1] 31 (.ops [IZ 32,Oy 33 120 32,ol 34 (.fld1 1 33),Tw 35 4,o6 1 35 34]) (O9 [IZ 36,Oy 37 122 36,Lg 38 4,o6 1 38 37] [IZ 39,OB 40 121 39 (o8 [46,46])] (.ops [IZ 41,Oy 42 122 41,Tm 43 4,o6 1 43 42]))))) jfy)
def z79:XC:=(O9 [o9 2 [oK,oK,oB,oB,.nils,oB,oB]] [IZ 9,Oy 10 120 9,o9 3 [oB,oK,oB,oB,oB],o6 5 3 10] (O9 [Tw 11 3,oI 12 11,Tm 13 3,oI 14 13,oF 15 4 3,oI 16 15,Iw 17 [oK,oK,oB,oB,.nils,oB,oB] [((0,1),12),((5,1),14),((6,1),16)],o9 4 [oK,oK,oB,oB,.nils,oB,oB],o6 7 4 17] [IZ 18,OB 19 121 18 (o8 [58])] jfz))
def y79:XF:=⟨[0],z79,[(.cA 2 7)]⟩
theorem x79:jy γ 89=some y79:=by kernel_rfl
def kX:XC:=(O9 [o9 2 [oB,oB,oK,.nils,oB,oB,.nils]] [IZ 7,Oy 8 72 7,Iw 9 [oB,oB,oK,.nils,oB,oB,.nils] [((0,6),8)],o9 3 [oB,oB,oK,.nils,oB,oB,.nils],o6 7 3 9] (IV [IZ 10,OB 11 121 10 (o8 [100,111])] 0 (.block 1 (.seq (Id [IZ 12,Oy 13 73 12,ol 14 (.fld1 0 13),O4 15 .eql 14 1] 15 (.dops [IY 16 6 3,Tt 17 16 16 118,IP (I5 18 17),IP (IZ 19),(TS 20 73 19 0 [(2,118)],OK),(Iy (OB 21 87 18 20) 0 [],OK)])) (ov [IZ 22,Oy 23 120 22,o9 4 [oB,oK,oB,oB,oB],o6 5 4 23] (oY [IZ 24,OB 25 121 24 (o8 [58,61])] (.dops [IY 26 6 3,Tt 27 26 26 118,IY 28 1 4,Tt 29 28 28 9,IP (IZ 30),(TS 31 72 30 0 [(1,9),(3,118)],some [OQ 31,Ia (Tm 32 4) 0,Ik (oI 33 32) 32 3 [(1,0)],Ia (oF 34 4 4) 0,Ik (oI 35 34) 34 3 [(3,0)],OQ 36,OQ 37,OQ 38,OQ 39,Ia (o4 (.i (.mv IJ))) 0]),IY 32 3 4,On 33 32 32 3 [(1,0)],IY 34 4 4,On 35 34 34 3 [(3,0)],TG 36 [oK,oB,oB,oK,.nils,oB,oB,oB,oB] [((0,1),29),((1,6),31),((7,1),33),((8,1),35)],IP (Iu 37 1 9 [oK,oB,oB,oK,.nils,oB,oB,oB,oB] [((0,9),36)]),I4 (Or 38 9 104 27 37) 0 [],IY 39 6 3,TV 1 39 38]) (ov [IZ 41,TJ 42 1 oK [OU 0 44],OB 43 86 41 42,oz 40 43,Tx 44 40,Ty 45 40,ol 5 (.alloc [oB,oK,oB,oB,oB]),o6 5 5 44,oy 6 45] (Id [T0 46,OW 47 46] 47 (OL [IZ 48,OB 49 121 48 (o8 [59])] [oV 50 7 3,o6 7 2 50])))))))))
def jfK:XF:=⟨[0],kX,[(.cA 2 7)]⟩
theorem jk9:jy γ 123=some jfK:=by kernel_rfl
def z80:XC:=(ov [o9 2 [oK,.nils,oB,oB]] (O9 [IZ 7,Oy 8 120 7,o9 3 [oB,oK,oB,oB,oB],o6 5 3 8] [Tw 9 3,oI 10 9,Tm 11 3,oI 12 11,oF 13 4 3,oI 14 13,Iw 15 [oK,.nils,oB,oB] [((0,1),10),((2,1),12),((3,1),14)],o9 4 [oK,.nils,oB,oB],o6 4 4 15] (IV [IZ 16,OB 17 121 16 (o8 [123])] 0 (.block 1 (oY [IZ 19,TJ 20 1 oK [Ov 0 [119,104,101,110]],OB 21 86 19 20,oz 18 21,Tx 22 18,Ty 23 18,o9 5 [oB,oK,oB,oB,oB],o6 5 5 22,oy 6 23] (Id [T0 24,OW 25 24] 25 (OL [IZ 26,OB 27 121 26 (o8 [125])] [oV 28 4 4,o6 4 2 28])) (ov [Tw 29 4,oI 30 29,I5 31 30,oV 32 5 5,OB 33 87 31 32] (.dops [IY 34 1 4,Tt 35 34 34 114,IP (IZ 36),(TS 37 123 36 0 [(1,114)],OK),IP (Iu 38 1 7 [oB,oB,oK,.nils,oB,oB,.nils] [((0,7),37)]),I4 (Or 39 7 96 35 38) 0 [],IY 40 1 4,TV 1 40 39])))))))
def y80:XF:=⟨[0],z80,[(.cA 2 4)]⟩
theorem x80:jy γ 90=some y80:=by kernel_rfl
def z37:XC:=(ov [o9 2 [.nils,.nils,.nils]] (IV [o9 3 [.nils,.nils,.nils]] 0 (.block 1 (T9 [IZ 7,TJ 8 3 oK [Ov 0 [101,110,117,109],Ov 1 [118,97,114],Ov 2 [112,114,111,99,101,115,115]],OB 9 86 7 8,oz 6 9,Tx 10 6,Ty 11 6,o9 4 [oB,oK,oB,oB,oB],o6 5 4 10,oy 5 11] 2 (oL [Ld 25,TN 26 25,oz 27 26,Oz 28 27 0 4,Ox 29 27 28,Te 30 27 .neq 29 5,Tc 31 27 30,oy 24 31] 24 (.ops [oV 32 5 4,Oy 33 74 32]) (oL [Ld 35,TN 36 35,oy 34 36] 34 (o5 [T1 37 3,o6 3 2 37]) (oL [Tw 39 4,oI 40 39,T7 41 40 [101,110,117,109],oy 38 41] 38 (ov [OP 42 3,oI 43 42,I5 44 43,oV 45 5 4,OB 46 87 44 45] (.dops [IY 47 0 3,Tt 48 47 47 22,IP (IZ 49),(TS 50 88 49 0 [(1,22)],OK),IP (Iu 51 1 4 [oK,.nils,oB,oB] [((0,4),50)]),I4 (Or 52 4 56 48 51) 0 [],IY 53 0 3,TV 1 53 52])) (oL [Tw 55 4,oI 56 55,T7 57 56 [118,97,114],oy 54 57] 54 (ov [Tw 58 3,oI 59 58,I5 60 59,oV 61 5 4,OB 62 87 60 61] (.dops [IY 63 1 3,Tt 64 63 63 23,IP (IZ 65),(TS 66 89 65 0 [(1,23)],OK),IP (Iu 67 1 7 [oK,oK,oB,oB,.nils,oB,oB] [((0,7),66)]),I4 (Or 68 7 88 64 67) 0 [],IY 69 1 3,TV 1 69 68])) (ov [Lg 12 3,oI 13 12,I5 14 13,oV 15 5 4,OB 16 87 14 15] (.dops [IY 17 2 3,Tt 18 17 17 24,IP (IZ 19),(TS 20 90 19 0 [(1,24)],OK),IP (Iu 21 1 4 [oK,.nils,oB,oB] [((0,4),20)]),I4 (Or 22 4 56 18 21) 0 [],IY 23 2 3,TV 1 23 22]))))))))))
def y37:XF:=⟨[0],z37,[(.cA 2 3)]⟩
theorem x37:jy γ 66=some y37:=by kernel_rfl
def Wy:XC:=(.block 0 (oL [ow 7 (.gen .eql 20 true 5 (.c .nilif))] 7 (.ops [Ld 2]) (oL [ol 8 (.assert 5 45),ow 9 (.ext 8 1),ow 10 (.ext 8 0)] 9 (ov [o9 3 [oB,oB,oB],o6 3 3 10] (.ops [IZ 11,T1 12 3,IR 13 11,o6 3 13 12])) (ov [TM 5] (.ops [TZ 6,o4 (.pan 6)])))))
def Gx:XH:=⟨[0],(some 5),true,[],Wy,[]⟩
theorem jqz:jbj γ 65=some Gx:=by kernel_rfl
def jkJ:XC:=(OV Tv (T8 [oy 7 1,IQ 8 7,I3 9] 0 10 9 8 10 0 1 [Lk 11 7 9,oI 12 11,oy 6 12] (Iz [T0 13,IZ 14,ow 15 (.strb .eql 13 14)] 15 [Tb 4]) 16 9 9 16) Tv)
def jqd:XF:=⟨[0,1],jkJ,[(.t 4)]⟩
theorem juB:jy γ 106=some jqd:=by kernel_rfl
def z84:XC:=(OL Ll [IZ 3,TJ 4 19 oK [Ov 0 [101,110,117,109],Ov 1 [118,97,114],Ov 2 [98,111,111,108],Ov 3 [112,114,111,99,101,115,115],Ov 4 [119,104,101,110],Ov 5 [100,111],Ov 6 [116,114,117,101],Ov 7 [102,97,108,115,101],OU 8 88,OU 9 70,OU 10 71,OU 11 85,OU 12 82,OU 13 89,OU 14 90,OU 15 79,OU 16 72,OU 17 83,OU 18 84],OB 5 106 3 4,Tq 5])
def y84:XF:=⟨[0],z84,[(.t 2)]⟩
theorem x84:jy γ 81=some y84:=by kernel_rfl
def z83:XC:=(OL Ll [IZ 3,ol 4 (oJ .geq 3 (TF 97)),TZ 5,I0 6 5 0,Ih 7 5 (oJ .leq 6 (TF 122)),Tc 8 5 7,oz 9 8,II 10 9 0,Ig 11 9 (oJ .geq 10 (TF 65)),II 12 9 11,I0 13 12 0,Ih 14 12 (oJ .leq 13 (TF 90)),Lm 15 9 12 14 oX,Td 16 9 15,Tq 16])
def y83:XF:=⟨[0],z83,[(.t 2)]⟩
theorem x83:jy γ 79=some y83:=by kernel_rfl
def z85:XC:=(OL Ll [IZ 3,ol 4 (oJ .geq 3 (TF 48)),TZ 5,I0 6 5 0,Ih 7 5 (oJ .leq 6 (TF 57)),Tc 8 5 7,Tq 8])
def y85:XF:=⟨[0],z85,[(.t 2)]⟩
theorem x85:jy γ 80=some y85:=by kernel_rfl
def z56:XC:=(OV Ll (IV [I3 3] 0 (.seq (O5 [oz 4 3,IZ 5,ol 6 (.lenS 5),I6 7 4 6] 7 (.exit 0)) (IA 1 (Iz [IZ 10,oz 11 3,ol 12 (.ixStr 10 11),Oy 13 79 12,TN 14 13,oz 15 14,I0 16 15 3,Ih 17 15 (TK 16),I0 18 15 17,II 19 18 0,II 20 18 3,Ig 21 18 (.ixStr 19 20),Li 22 18 80 [21],TT 23 18 22,II 24 18 23,I0 25 24 0,I0 26 24 3,Ih 27 24 (.ixStr 25 26),Ih 28 24 (oJ .neq 27 (TF 95)),Lm 29 18 24 28 oX,Ih 30 15 (.pick 18 Ii 29),I7 31 15 30 oX] 31 Ll) [oz 8 3,TB 9 8 1,oy 3 9]))) [IZ 32,ol 33 (.lenS 32),ol 34 (O8 .gtr 33),oz 35 34,I0 36 35 0,Ih 37 35 (.lenS 36),Te 38 35 .leq 37 32,Tc 39 35 38,oz 40 39,I0 41 40 0,Tn 42 (40,true) 81 [41],Ih 43 40 (IB 42),Tc 44 40 43,Tq 44])
def y56:XF:=⟨[0],z56,[(.t 2)]⟩
theorem x56:jy γ 58=some y56:=by kernel_rfl
def z16:XC:=(oY [TU 1,Ib 2 oK] (Id [Tm 3 1,oI 4 3,I5 5 4,O4 6 .eql 5 2] 6 (Lj [IY 7 3 1,Tt 8 7 7 27,IP (Il 9 6 8 ON),La 10 6 9 9 29,(TS 11 104 10 0 [],some [OQ 11,OQ 12,Ia (OP 13 1) 0,Ik (oI 14 13) 13 3 [(2,0)],OQ 15,OQ 16,OQ 17,Ia (Tm 18 1) 0,Ik (oI 19 18) 18 27 [(3,0),(7,0)],Ia (Il 20 6 19 Th) 0,Ik (Ta 21 20) 20 29 [(5,0),(9,0)],OQ 22,OQ 23,Ia (Ib 2 Ir) 0]),IP (OT 12 11 (o8 [32])),IY 13 0 1,On 14 13 13 3 [(2,0)],(TS 15 105 14 0 [],some [OQ 15,OQ 16,OQ 17,Ia (Tm 18 1) 0,Ik (oI 19 18) 18 27 [(3,0),(7,0)],Ia (Il 20 6 19 Th) 0,Ik (Ta 21 20) 20 29 [(5,0),(9,0)],OQ 22,OQ 23,Ia (Ib 2 Ir) 0]),IP (OT 16 12 15),IP (OT 17 16 (o8 [32])),IY 18 3 1,On 19 18 18 27 [(3,0),(7,0)],IP (Il 20 6 19 Th),OO 21 6 20 20 29 [(5,0),(9,0)],(TS 22 104 21 0 [],OK),IP (OT 23 17 22),IP (Tq 23)])) (.seq (Id [Tm 24 1,oI 25 24,I5 26 25,O4 27 .eql 26 1] 27 (.seq (Id [OP 28 1,oI 29 28,O4 30 .gtr 29 6] 30 (Lj [IY 31 0 1,Tt 32 31 31 3,(TS 33 105 32 0 [],some [OQ 33,OQ 34,Ia (Tm 35 1) 0,Ik (oI 36 35) 35 27 [(2,0)],Ia (Il 37 6 36 ON) 0,Ik (Ta 38 37) 37 29 [(4,0)],OQ 39,OQ 40,Ia (Ib 2 Ir) 0]),IP (OT 34 33 (o8 [32])),IY 35 3 1,On 36 35 35 27 [(2,0)],IP (Il 37 6 36 ON),OO 38 6 37 37 29 [(4,0)],(TS 39 104 38 0 [],OK),IP (OT 40 34 39),IP (Tq 40)])) (Lj [IY 41 0 1,Tt 42 41 41 3,(TS 43 105 42 0 [],some [OQ 43,Ia (Tm 44 1) 0,Ik (oI 45 44) 44 27 [(1,0)],Ia (Il 46 6 45 ON) 0,Ik (Ta 47 46) 46 29 [(3,0)],OQ 48,OQ 49,Ia (Ib 2 Ir) 0]),IY 44 3 1,On 45 44 44 27 [(1,0)],IP (Il 46 6 45 ON),OO 47 6 46 46 29 [(3,0)],(TS 48 104 47 0 [],OK),IP (OT 49 43 48),IP (Tq 49)]))) (Lb [OP 50 1,oI 51 50,O4 52 .eql 51 1] 52 [Tw 53 1,oI 54 53,Oy 55 77 54,Tq 55] (OY (Id [OP 56 1,oI 57 56,O4 58 .eql 57 2] 58 (OY (Iz [Tw 59 1,oI 60 59,O4 61 .eql 60 1] 61 [Tq (o8 [116,114,117,101])]) [Tq (o8 [102,97,108,115,101])])) [Lg 62 1,oI 63 62,Tq 63]))))
def y16:XF:=⟨[0],z16,[(.t 2)]⟩
theorem x16:jy γ 78=some y16:=by kernel_rfl
def z51:XC:=(Og [TU 1,Ib 2 oK] [Tm 3 1,oI 4 3,I5 5 4,ow 6 (TK 5)] 6 [Ta 7 1,Oy 8 78 7,Tq 8] (o5 [Ta 9 1,Oy 10 78 9,OT 11 (o8 [40]) 10,OT 12 11 (o8 [41]),Tq 12]))
def y51:XF:=⟨[0],z51,[(.t 2)]⟩
theorem x51:jy γ 104=some y51:=by kernel_rfl
def z53:XC:=(Og [Ib 2 oK] [IZ 3,ow 4 (O8 .lss 3)] 4 [IZ 5,ol 6 (.un .neg 5),Oy 7 77 6,OT 8 (o8 [45]) 7,Tq 8] (Lb [IZ 9,O4 10 .lss 9 10] 10 [IZ 11,IZ 12,TB 13 12 1,ol 14 (.slStr (o8 [48,49,50,51,52,53,54,55,56,57]) (some 11) (some 13)),Tq 14] (TO [Lc 15,IG (Ic 16 .quo 15 10),(Oy 17 77 16,some [OQ 17,IK 18 0 0,Ia (Ic 19 .rem 18 10) 0,IK 20 0 0,Ia (Ic 21 .rem 20 10) 0,Ia (TB 22 21 1) 0,Ia (ol 23 (.slStr (o8 [48,49,50,51,52,53,54,55,56,57]) (some 19) (some 22))) 0,OQ 24,Ia (Ib 2 Ir) 0]),Lc 18,IG (Ic 19 .rem 18 10),Lc 20,IG (Ic 21 .rem 20 10),IG (TB 22 21 1),IG (ol 23 (.slStr (o8 [48,49,50,51,52,53,54,55,56,57]) (some 19) (some 22))),IG (OT 24 17 23),IG (Tq 24)] .ret)))
def y53:XF:=⟨[0],z53,[(.t 2)]⟩
theorem x53:jy γ 77=some y53:=by kernel_rfl
def z18:XC:=(ov [TU 1,Ib 2 oK,I3 3] (Og [Ib 4 oK] [OP 19 1,oI 20 19,I5 21 20,Ic 22 .gtr 21 32,oz 23 22,Oq 24 23 1 1,Ow 25 23 24,TR 26 23 25,O7 27 23 .gtr 26 32,Td 28 23 27,oz 29 28,Oq 30 29 2 1,Ow 31 29 30,TR 32 29 31,O7 33 29 .gtr 32 32,Lf 34 29 33] 34 [Ib 2 oK,O0 3 141] (.seq (T8 [OP 35 1,Oi 36 35,IQ 37 36,I3 38] 0 39 38 37 39 0 1 [Il 40 4 36 38,oV 41 4 40,o9 6 [oK,.nils,oB,oB],o6 4 6 41] (Og [oV 43 4 6,Oy 44 56 43,oz 42 44,Tx 45 42,Ty 46 42,oy 7 45,oy 8 46] [oz 47 8,OW 48 47] 48 [Ib 2 oK,O0 3 141] (.ops [TZ 49,oz 50 7,OT 51 49 50,TM 51])) 52 38 38 52) (.seq (T8 [Tw 53 1,Oi 54 53,IQ 55 54,I3 56] 2 57 56 55 57 2 3 [Il 58 7 54 56,oV 59 7 58,o9 10 [oK,oK,oB,oB,.nils,oB,oB],o6 7 10 59] (Og [oV 61 7 10,Oy 62 57 61,oz 60 62,Tx 63 60,Ty 64 60,oy 11 63,oy 12 64] [oz 65 12,OW 66 65] 66 [Ib 2 oK,O0 3 141] (.ops [TZ 67,oz 68 11,OT 69 67 68,TM 69])) 70 56 56 70) (OY (Oe [Lg 71 1,Oi 72 71,IQ 73 72,I3 74] 4 (To 75 74 73) 75 4 5 (Og [Il 76 4 72 74,oV 77 4 76,o9 14 [oK,.nils,oB,oB],o6 4 14 77] [OP 78 14,oI 79 78,Oy 80 58 79,TN 81 80,oz 82 81,Oq 83 82 1 14,Ow 84 82 83,TR 85 82 84,O7 86 82 .gtr 85 32,Lf 87 82 86] 87 [Ib 2 oK,O0 3 141] (oY [TZ 88,OP 89 14,oI 90 89,OT 91 (o8 [112,114,111,99,101,115,115,32]) 90,OT 92 91 (o8 [32,123,10]),OT 93 88 92,TM 93] (T8 [Tw 94 14,Oi 95 94,IQ 96 95,I3 97] 6 98 97 96 98 6 7 [Il 99 7 95 97,oV 100 7 99,o9 16 [oB,oB,oK,.nils,oB,oB,.nils],o6 7 16 100] (Og [oV 102 7 16,Oy 103 59 102,oz 101 103,Tx 104 101,Ty 105 101,oy 17 104,oy 18 105] [oz 106 18,OW 107 106] 107 [Ib 2 oK,O0 3 141] (.ops [TZ 108,oz 109 17,OT 110 108 109,TM 110])) 111 97 97 111) (.ops [TZ 112,OT 113 112 (o8 [125,10]),TM 113]))) 114 74 1 74 114) [TZ 115,Tq 115,I3 3])))))
def y18:XF:=⟨[0],z18,[(.t 2),(.t 3)]⟩
theorem x18:jy γ 35=some y18:=by kernel_rfl
def z54:XC:=(Og [TU 1,Ib 2 oK,Om 3] [OP 7 1,oI 8 7,Oy 9 58 8,TN 10 9,oz 11 10,Oq 12 11 1 1,Ow 13 11 12,TR 14 11 13,O7 15 11 .lss 14 1,Td 16 11 15,oz 17 16,Oq 18 17 1 1,Ow 19 17 18,TR 20 17 19,O7 21 17 .gtr 20 32,Lf 22 17 21] 22 (TH (Ib 2 oK) 3) (OV [OP 23 1,oI 24 23,OT 25 (o8 [101,110,117,109,32]) 24,OT 26 25 (o8 [32,123,32]),TM 26] (Oe [Tw 27 1,Oi 28 27,IQ 29 28,I3 30] 0 (To 31 30 29) 31 0 1 (Og [oz 32 30,Lk 33 28 30,oI 34 33,oy 5 32,oy 6 34] [T0 35,Oy 36 58 35,OW 37 36] 37 (TH (Ib 2 oK) 3) (.seq (OA [Ld 38,ow 39 (O8 .gtr 38)] 39 [TZ 40,OT 41 40 (o8 [44,32]),TM 41]) (.ops [TZ 42,T0 43,OT 44 42 43,TM 44]))) 45 30 1 30 45) [TZ 46,OT 47 46 (o8 [32,125,10]),Tq 47,Tb 3]))
def y54:XF:=⟨[0],z54,[(.t 2),(.t 3)]⟩
theorem x54:jy γ 56=some y54:=by kernel_rfl
def jfD:XC:=(Lb [oF 57 4 1,oI 58 57,I5 59 58,Ic 60 .gtr 59 1,oz 61 60,Oq 62 61 0 1,Ow 63 61 62,Li 64 61 58 [63],TT 65 61 64,Lf 66 61 65] 66 (TH (Ib 2 oK) 3) (OY (Oe [oF 67 4 1,Oi 68 67,IQ 69 68,I3 70] 0 (To 71 70 69) 71 0 1 (Og [Il 72 6 68 70,Ta 73 72,TA 6,TW 6 73] [Ta 74 6,Oy 75 11 74,OW 76 75] 76 (TH (Ib 2 oK) 3) (.ops [TZ 77,Ta 78 6,Oy 79 78 78,OT 80 (o8 [32,61,32]) 79,OT 81 77 80,TM 81])) 82 70 1 70 82) [TZ 83,OT 84 83 (o8 [59,10]),Tq 84,Tb 3]))
def z55:XC:=(ov [TU 1,Ib 2 oK,Om 3] (oY [OP 7 1,oI 8 7,OT 9 (o8 [118,97,114,32]) 8,OT 10 9 (o8 [32,58,32]),TM 10] (oL [Tw 11 1,oI 12 11,ow 13 (.strb .eql 12 (.c oK))] 13 (Lb [Lg 14 1,oI 15 14,Oy 16 76 15,TN 17 16,oz 18 17,Oq 19 18 3 1,Ow 20 18 19,Li 21 18 76 [20],TT 22 18 21,Lf 23 18 22] 23 (TH (Ib 2 oK) 3) (.dops [Tr 24 4,IY 25 2 1,Tt 26 25 25 2,(TS 27 77 26 0 [],some [OQ 27,OQ 28,Ia (Tm 29 1) 0,Ik (oI 30 29) 29 2 [(2,0)],OQ 31,OQ 32,OQ 33,Ia (Ib 4 Ir) 0]),IP (OT 28 27 (o8 [46,46])),IY 29 3 1,On 30 29 29 2 [(2,0)],(TS 31 77 30 0 [],OK),IP (OT 32 28 31),IP (OT 33 24 32),IP (TM 33)])) (Lb [Lg 34 1,oI 35 34,ol 36 (O8 .neq 35),oz 37 36,Oq 38 37 3 1,Ow 39 37 38,Ig 40 37 (O8 .neq 39),Td 41 37 40,oz 42 41,Oq 43 42 1 1,Ow 44 42 43,Ig 45 42 (.strb .neq 44 (o8 [98,111,111,108])),II 46 42 45,Oz 47 46 1 1,Ox 48 46 47,Tn 49 (46,true) 58 [48],Ih 50 46 (IB 49),Lm 51 42 46 50 oX,Lf 52 42 51] 52 (TH (Ib 2 oK) 3) (.ops [TZ 53,Tw 54 1,oI 55 54,OT 56 53 55,TM 56]))) jfD))
def y55:XF:=⟨[0],z55,[(.t 2),(.t 3)]⟩
theorem x55:jy γ 57=some y55:=by kernel_rfl
def z57:XC:=(Og [TU 1,Ib 2 oK,Om 3] [OP 7 1,Ta 8 7,Oy 9 11 8,TN 10 9,oz 11 10,Oq 12 11 6 1,Ow 13 11 12,TR 14 11 13,O7 15 11 .lss 14 1,Td 16 11 15,oz 17 16,Oq 18 17 6 1,Ow 19 17 18,TR 20 17 19,O7 21 17 .gtr 20 32,Lf 22 17 21] 22 (TH (Ib 2 oK) 3) (OV [OP 23 1,Ta 24 23,Oy 25 78 24,OT 26 (o8 [32,32,119,104,101,110,32]) 25,OT 27 26 (o8 [32,100,111,32]),TM 27] (Oe [oF 28 6 1,Oi 29 28,IQ 30 29,I3 31] 0 (To 32 31 30) 32 0 1 (Og [oz 33 31,Il 34 9 29 31,oV 35 9 34,o9 6 [oK,oB,oB,oK,.nils,oB,oB,oB,oB],oy 5 33,o6 9 6 35] [OP 36 6,oI 37 36,Oy 38 58 37,TN 39 38,oz 40 39,Oq 41 40 1 6,O1 42 40 6 41,Li 43 40 11 [42],TT 44 40 43,Lf 45 40 44] 45 (TH (Ib 2 oK) 3) (.seq (OA [Ld 46,ow 47 (O8 .gtr 46)] 47 [TZ 48,OT 49 48 (o8 [44,32]),TM 49]) (.dops [Tr 50 4,IY 51 0 6,Tt 52 51 51 9,IP (OT 53 52 (o8 [32,58,61,32])),IY 54 1 6,La 55 6 54 54 29,(TS 56 78 55 0 [(3,9)],OK),IP (OT 57 53 56),IP (OT 58 50 57),IP (TM 58)]))) 59 31 1 31 59) [TZ 60,OT 61 60 (o8 [59,10]),Tq 61,Tb 3]))
def y57:XF:=⟨[0],z57,[(.t 2),(.t 3)]⟩
theorem x57:jy γ 59=some y57:=by kernel_rfl
section
variable {P:Program} {e:En} {st:St} {K:AV->St->Prop}
def Gr (P:Program)(t:TypeId)(v:AV)(st:St):ER:=(YW P (O v) t).run E0 st
theorem ji6 (x:A)(t:TypeId):wK P base (.i (.assert x t)) e st K=on1 e x λv=>jh (Gr P t v st) K:=k_1 rfl (λ_=>rfl) K
end
theorem WA {P:Program}(res:List RV)(m:Md)(K:Md->St->Prop)(L:Sl)(st:St):jgK P res m K (.go L st)=yF P res L st λ_=>K m st:=nr rfl
theorem jsA (t:Tk)(st:St)(K:AV->St->Prop):jh (Gr γ 45 (er t) st) K=K (.tup [.agg [.int .i64 151,.int .i64 (t.line:Int),.int .i64 (t.col:Int)],.bool true]) st:=by
 have:Gr γ 45 (er t) st=.ok (.tup [.agg [.int .i64 151,.int .i64 (t.line:Int),.int .i64 (t.col:Int)],.bool true]) st:=by kernel_rfl
 rw[this];rfl
theorem jjo (st:St)(K:AV->St->Prop):jh (Xu γ .eql 20 true .nilif .nilif st) K=K (.bool true) st:=by
 have:Xu γ .eql 20 true .nilif .nilif st=.ok (.bool true) st:=by kernel_rfl
 rw[this];rfl
theorem jr4 (t:Tk)(st:St)(K:AV->St->Prop):jh (Xu γ .eql 20 true (er t) .nilif st) K=K (.bool false) st:=by
 have:Xu γ .eql 20 true (er t) .nilif st=.ok (.bool false) st:=by kernel_rfl
 rw[this];rfl
theorem jbz {P:Program}{f:FuncId}{xs:List AV}{m m1:Md}{st s1:St}(h:∀ K:Md->St->Prop,K m1 s1->DX P base f xs m st K)(K:Md->St->Prop):DX P base f xs m st K=K m1 s1:=by
 refine propext ⟨λ⟨m2,s2,⟨N2,D2,h2⟩,h3⟩=>?_,h K⟩;obtain⟨m',s',⟨N,D,h1⟩,rfl,rfl⟩:=h (λm' s'=>m'=m1/\s'=s1) ⟨rfl,rfl⟩;have e1:=h1 (max N N2) (Qas ..) (max D D2) (Qas ..);have e2:=h2 (max N N2) (Qat ..) (max D D2) (Qat ..);rw[e1] at e2;cases e2;exact h3
theorem jd6 {fb:Nat}(st:St)(hfr:st.fr=[])(K:Md->St->Prop):DX γ base 65 [.ptr fb 0] .calm st K=K .calm st:=by
 refine jbz (λK hK=>?_) K;refine uE jqz (by rfl) hfr ?_;simp only[Gx,jr,κ,μ,ν,X8,YE];rw[(by unfold Wy;simp only[qq];rfl:Wy=_)];repeat'(first|apply jb<;>intro _|simp(disch:=first|exact dzD|fail) only[jjo,WA,r6,δ,ε,ζ,η,θ])
 exact hK
theorem jgT {fb:Nat}(t:Tk){cs:List AV}(st:St)(hfr:st.fr=[])(C:Cl st fb cs)(hcs:cs.length=3)(K:Md->St->Prop) :
  DX γ base 65 [.ptr fb 0] (.pan (er t)) st K=K .done (wr (wr (nw st [.int .i64 0,.int .i64 0,.int .i64 0]) st.nx 0 [.int .i64 151,.int .i64 (t.line:Int),.int .i64 (t.col:Int)]) fb 0 [.int .i64 151,.int .i64 (t.line:Int),.int .i64 (t.col:Int)]):=by
 refine jbz (λK hK=>?_) K;refine uE jqz (by rfl) hfr ?_;simp only[Gx,jr,κ,μ,ν,X8,YE];rw[(by unfold Wy;simp only[qq];rfl:Wy=_)];have hl:=C.lt;have l0:=C.len;have hne:¬ fb=st.nx:=om
 (have zz:=aI @l0 @hcs;(repeat'(first|apply jb<;>intro _|simp(disch:=first|exact qU|fail) only[jr4,ji6,jsA,WA,l0,hcs,r6,δ,ε,ζ,η,θ]));all_goals clear zz)
 exact hK
theorem vZ {fb:Nat}(st:St)(K:Md->St->Prop):DX γ base 65 [.ptr fb 0] .calm st.bare K=K .calm st.bare:=jd6 st.bare rfl K
theorem WX {fb:Nat}(t:Tk)(st:St)(h:qv st.h fb=3)(hn:fb<st.nx)(K:Md->St->Prop) :
  DX γ base 65 [.ptr fb 0] (.pan (er t)) st.bare K=K .done (wr (wr (nw st.bare [.int .i64 0,.int .i64 0,.int .i64 0]) st.nx 0 [.int .i64 151,.int .i64 (t.line:Int),.int .i64 (t.col:Int)]) fb 0 [.int .i64 151,.int .i64 (t.line:Int),.int .i64 (t.col:Int)]):=
 have C:Cl st fb (rats st.h fb 0 3):=Cl.of_rats hn h (Qd _ _ _ _) dc rfl
 jgT t st.bare rfl C.bar (Qd _ _ _ _) K
theorem jte:Go.Ev.isAgg γ 45=some true:=by kernel_rfl
theorem jtd:Go.Ev.sizeOf γ 45=some 3:=by kernel_rfl
theorem Y3 {b:Nat}{x y z:Int}{h:T AO}(ho:0+3<=qv h b)(hv:rats h b 0 3=[.int .i64 x,.int .i64 y,.int .i64 z]):(jY γ 45 (.ptr b 0) (.agg [.int .i64 x,.int .i64 y,.int .i64 z]) h=true)=True:=eq_true (Y5 jte jtd dc ho hv rfl)
theorem ud {b:Nat}{x y z w:Int}{n:List Nat}{h:T AO}(ho:0+6<=qv h b)(hv:rats h b 0 6=[.int .i64 x,.int .i64 y,.str n,.nils,.int .i64 z,.int .i64 w]):(jY γ 29 (.ptr b 0) (.agg [.int .i64 x,.int .i64 y,.str n,.nils,.int .i64 z,.int .i64 w]) h=true)=True:=eq_true (Y5 jaQ jaP dc ho hv rfl)
section
variable {P:Program} {st:St} {K Kp:AV->St->Prop}
theorem Qm {f:FuncId}{vs:List AV}(h:st.fr=[(f,vs)])(res:List RV)(v:AV)(L:Sl):V5 P base res K Kp v L st=DX P base f vs (.pan v) st.bare λm' st'=>(match m' with
  |.calm=>yF P res L st'.bare λvs=>K (zM vs) st'.bare
  |.pan v=>Kp v st'.bare
  |.done=>yF P res L st'.bare λvs=>K (zM vs) st'.bare):=by
 have:V5 P base res K Kp v L st=yW P base res K Kp [(f,vs)] L st.bare (.pan v):=by show yW P base res K Kp st.fr L st.bare (.pan v)=_;rw[h]
 rw[this,jbT];rfl
theorem JJ {f:FuncId}{vs:List AV}(h:st.fr=[(f,vs)])(res:List RV)(L:Sl):Hj P base res K Kp (.rt L st)=DX P base f vs .calm st.bare λm' st'=>(match m' with
  |.calm=>yF P res L st'.bare λvs=>K (zM vs) st'.bare
  |.pan v=>Kp v st'.bare
  |.done=>yF P res L st'.bare λvs=>K (zM vs) st'.bare):=by
 have:Hj P base res K Kp (.rt L st)=yW P base res K Kp [(f,vs)] L st.bare .calm:=by show yW P base res K Kp st.fr L st.bare .calm=_;rw[h]
 rw[this,jbT];rfl
theorem YC (h:st.fr=[])(res:List RV)(L:Sl):Hj P base res K Kp (.rt L st)=yF P res L st.bare λvs=>K (zM vs) st.bare:=by
 show yW P base res K Kp st.fr L st.bare .calm=_;rw[h];rfl
end
theorem jr2 {s:St}{x:Ex}{q:Nat×Nat×Nat}{cs ds:List AV}(h:cs=eE x)(h2:ds=zO q):G0 (.tup [.agg (eE x),.agg (zO q)]) (.tup [.agg cs,.agg ds]) s:=by
 subst h h2;exact FzD.tup (.cons (.agg (.pc (q9 x))) (.cons (.agg (.pc (by rfl))) .nil))
theorem jdc {s:St}{q:Nat×Nat×Nat}{ds:List AV}(h2:ds=zO q):G0 (.tup [.agg (eE (.mk 0 0 [] [] 0 0)),.agg (zO q)]) (.tup [.agg [.int .i64 0,.int .i64 0,.str [],.nils,.int .i64 0,.int .i64 0],.agg ds]) s:=by
 subst h2;exact FzD.tup (.cons YI (.cons (.agg (.pc (by rfl))) .nil))
def ex0:Ex:=.mk 0 0 [] [] 0 0
def yn (l:List Nat):Ex×(Nat×Nat×Nat):=
 if(qr l).2.1≠0 then(ex0,(qr l).2) else match yx (qr l).1 0 with
  |.er t=>(ex0,(151,t.line,t.col))
  |.ok x j=>if(tk (qr l).1 j).kind=5 then(x,(0,0,0)) else(ex0,(151,(tk (qr l).1 j).line,(tk (qr l).1 j).col))
theorem yj {ts:List Tk}(W:Wds ts){i j:Nat}{x:Ex}(hi:i<ts.length)(h:yx ts i=.ok x j):i+1<=j/\j<ts.length/\x.ev (atW ts)/\ze 60 x=true:=by
 obtain⟨r,hg,hr⟩:=evR W hi;rw[VD hr] at h;unfold VA at h;cases r with
 |er t=>cases h
 |ok y k=>
  dsimp only at h;by_cases c:ze 60 y=true
  ·rw[if_pos c] at h;cases h;exact⟨hg.1,hg.2.1,hg.2.2,c⟩
  ·rw[if_neg c] at h;cases h
set_option maxHeartbeats 4000000 in
theorem jsS (hb:NB base)(hP:PI base)(l:List Nat)(hl:l.length<=9223372036854775807)(hW:(qr l).2.1=0->Wds (qr l).1/\(qr l).1≠[]/\(qr l).2=(0,0,0)) :
  Tot base 54 [.str l] (.tup [.agg (eE (yn l).1),.agg (zO (yn l).2)]):=by
 refine hb.tot ?_ rfl rfl;refine WU x15 (hb.pur 54 1 dc) ?_;simp only[y15,jr,κ,μ,ν,ξ];rw[(by unfold z15;simp only[qq];rfl:z15=_)];have hC:=jn0 hb hP l hl;have f0:(zO (qr l).2)=[.int .i64 ((qr l).2.1:Int),.int .i64 ((qr l).2.2.1:Int),.int .i64 ((qr l).2.2.2:Int)]:=rfl;by_cases he:(qr l).2.1=0
 ·obtain⟨W,hne,hz⟩:=hW he;have hi:0<(qr l).1.length:=QbE.2 hne;have A:=UJ hb W hi;unfold yn;rw[if_neg (by simp[he])];rw[hz] at hC;generalize (qr l).1=ts at *;have fz:zO (0,0,0)=[.int .i64 0,.int .i64 0,.int .i64 0]:=rfl;rw[fz] at hC;cases hr:yx ts 0 with
  |er t=>
   rw[hr] at A;obtain⟨i',d',A⟩:=A;have E:∀ st p,Cl st p [.lst ts.length (fl Tk.cells ts),.int .i64 0,.int .i64 0]->∀ K Kp,XB γ base 72 [.ptr p 0] st K Kp=_:=λst p C K Kp=>A.xb C rfl (λst=>hb.no 72 dc _ _) K Kp;unfold pC at *;repeat'(first|apply jb<;>intro _|simp(disch:=first|exact dzD|fail) only[hC,E,ww,Qm (f:=65) (vs:=[.ptr 1 0]),JJ (f:=65) (vs:=[.ptr 1 0]),YC,vZ,WX,r6,δ,ε,ζ,η,θ])
   exact jdc rfl
  |ok x j=>
   rw[hr] at A;have A:PM _ _ _ _ _ _ _:=A;have hj:j<ts.length:=(yj W hi hr).2.1;have hN:=λst p=>@Za base hb ts j 0 hj st p;have E:∀ st p,Cl st p [.lst ts.length (fl Tk.cells ts),.int .i64 0,.int .i64 0]->∀ K Kp,XB γ base 72 [.ptr p 0] st K Kp=_:=λst p C K Kp=>A.xb C rfl (λst=>hb.no 72 dc _ _) K Kp;dsimp only;by_cases k5:(tk ts j).kind=5
   ·rw[if_pos k5];have k5':((tk ts j).kind:Int)=5:=om
    unfold pC at *
    (have zz:=@Q8;(repeat'(first|apply jb<;>intro _|simp(disch:=first|exact qU|fail) only[hC,E,hN,k5',ww,Qm (f:=65) (vs:=[.ptr 1 0]),JJ (f:=65) (vs:=[.ptr 1 0]),YC,vZ,WX,Q6,ud,Y3,<-qJ,Q8,r6,δ,ε,ζ,η,θ]));all_goals clear zz)
    exact jr2 rfl rfl
   ·rw[if_neg k5];have k5':¬ ((tk ts j).kind:Int)=5:=om
    unfold pC at *;repeat'(first|apply jb<;>intro _|simp(disch:=first|exact dzD|fail) only[hC,E,hN,k5',Qv hb,ww,Qm (f:=65) (vs:=[.ptr 1 0]),JJ (f:=65) (vs:=[.ptr 1 0]),YC,vZ,WX,Q6,ud,Y3,r6,δ,ε,ζ,η,θ])
    exact jdc rfl
 ·have he':¬ ((qr l).2.1:Int)=0:=om
  unfold yn;rw[if_pos he];rw[f0] at hC;generalize (qr l).1=ts at *;repeat'(first|apply jb<;>intro _|simp(disch:=first|exact dzD|fail) only[hC,he',ww,Qm (f:=65) (vs:=[.ptr 1 0]),JJ (f:=65) (vs:=[.ptr 1 0]),YC,vZ,WX,Q6,ud,Y3,r6,δ,ε,ζ,η,θ])
  exact jdc rfl
inductive SR (α:Type) where
 |ok (x:α) (j:Nat)
 |er (t:Tk)
def Nbs (ts:List Tk):Prop:=∀ i,(tk ts i).num<=1000000
def AnS {α:Type}(base:Bs)(f:FuncId)(c xs:List AV)(ts:List Tk)(d:Nat)(enc:α->AV):SR α->Prop
 |.ok x j=>PM γ base f c xs (.ok (enc x)) (pC ts j d)
 |.er t=>∃ i' d',PM γ base f c xs (.pn (er t)) (pC ts i' d')
def SK {α:Type}(ts:List Tk)(d:Nat)(enc:α->AV)(r:SR α)(v:AV)(s:St):Prop:=match r with | .ok y j=>G1 3 (pC ts j d) (enc y) v s | .er _=>False
def SP {α:Type}(ts:List Tk)(r:SR α)(v:AV)(s:St):Prop:=match r with | .ok _ _=>False | .er t=>∃ i' d',G1 3 (pC ts i' d') (er t) v s
theorem jaW {α:Type}(ts:List Tk)(d:Nat)(enc:α->AV)(y:α)(j:Nat)(v:AV)(s:St):SK ts d enc (.ok y j) v s=G1 3 (pC ts j d) (enc y) v s:=nr rfl
theorem zK {α:Type}(ts:List Tk)(t:Tk)(v:AV)(s:St):SP (α:=α) ts (.er t) v s = ∃ i' d',G1 3 (pC ts i' d') (er t) v s:=nr rfl
theorem v8 {α:Type}{f:FuncId}{F:XF}(hl:jy γ f=some F)(hnd:F.body.nd=true)(hm:base.pur f=3){xs:List AV}{ts:List Tk}{i d:Nat}{enc:α->AV}{r:SR α}
  (h:xC γ base F.body (jr F.ps (.ptr 0 0 :: xs)) (nw st0 (pC ts i d)) (Xw γ F.res (SK ts d enc r)) λv _ s=>SP ts r v s.bare):AnS base f (pC ts i d) xs ts d enc r:=by
 rw[<-GV] at h;obtain⟨q,he,hq⟩:=YJ (st:=ZD (pC ts i d)) (K:=SK ts d enc r) (Kp:=SP ts r) hl hnd h;cases r with
 |ok y j=>
  refine PM.of hm rfl ⟨q,he,?_⟩;cases q<;>first|exact hq|exact hq.elim
 |er t=>
  cases q with
  |no=>exact hq.elim
  |ok v s=>exact(hq:False).elim
  |pn v s=>
   obtain⟨i',d',hq⟩:=(hq:∃ i' d',G1 3 (pC ts i' d') (er t) v s);exact⟨i',d',PM.of hm rfl ⟨_,he,hq⟩⟩
def Y9 (ts:List Tk)(i:Nat):SR Int:=
 if isM (tk ts i) [[45]]=true then(if(tk ts (i+1)).kind=2 then .ok (-((tk ts (i+1)).num:Int)) (i+2) else .er (tk ts (i+1)))
 else(if(tk ts i).kind=2 then .ok ((tk ts i).num:Int) (i+1) else .er (tk ts i))
theorem jcC (hb:NB base){ts:List Tk}(W:Wds ts)(N:Nbs ts){i d:Nat}(hi:i<ts.length):AnS base 122 (pC ts i d) [] ts d (λn=>.int .i64 n) (Y9 ts i):=by
 have wl:=W.len;have T:=Y0 hb hi (d:=d) om [[45]] (cs:=[.str [45]]) (n:=1) rfl rfl dc;unfold Y9;by_cases c1:isM (tk ts i) [[45]]=true
 ·rw[if_pos c1];have hi1:=W.isM hi c1;have hN:=λst p=>@Za base hb ts (i+1) d hi1 st p;have hn:=N (i+1);by_cases k2:(tk ts (i+1)).kind=2
  ·rw[if_pos k2];have k2':((tk ts (i+1)).kind:Int)=2:=om
   show PM _ _ _ _ _ _ _;unfold pC at *;refine qd jfO (by rfl) (hb.pur 122 3 dc) rfl ?_;simp only[jbP,jr,κ,μ,ν,ξ];rw[(by unfold Wz;simp only[qq];rfl:Wz=_)];repeat'(first|apply jb<;>intro _|simp(disch:=first|exact dzD|fail) only[T,c1,hN,k2',r6,δ,ε,ζ,η,θ])
   (refine G1.done ?_ (by rfl) (by rfl) ?_;(· (first|exact cyD|fail));(· first|exact vyD|skip))
  ·rw[if_neg k2];have k2':¬ ((tk ts (i+1)).kind:Int)=2:=om
   refine⟨i+1,d,?_⟩;unfold pC at *;refine qd jfO (by rfl) (hb.pur 122 3 dc) rfl ?_;simp only[jbP,jr,κ,μ,ν,ξ];rw[(by unfold Wz;simp only[qq];rfl:Wz=_)];repeat'(first|apply jb<;>intro _|simp(disch:=first|exact dzD|fail) only[T,c1,hN,k2',Qv hb,r6,δ,ε,ζ,η,θ])
   (refine G1.done ?_ (by rfl) (by rfl) ?_;(· (first|exact cyD|fail));(· first|exact vyD|skip))
 ·rw[if_neg c1];have hN:=λst p=>@Za base hb ts i d hi st p;have hn:=N i;by_cases k2:(tk ts i).kind=2
  ·rw[if_pos k2];have k2':((tk ts i).kind:Int)=2:=om
   show PM _ _ _ _ _ _ _;unfold pC at *;refine qd jfO (by rfl) (hb.pur 122 3 dc) rfl ?_;simp only[jbP,jr,κ,μ,ν,ξ];rw[(by unfold Wz;simp only[qq];rfl:Wz=_)];repeat'(first|apply jb<;>intro _|simp(disch:=first|exact dzD|fail) only[T,c1,hN,k2',r6,δ,ε,ζ,η,θ])
   (refine G1.done ?_ (by rfl) (by rfl) ?_;(· (first|exact cyD|fail));(· first|exact vyD|skip))
  ·rw[if_neg k2];have k2':¬ ((tk ts i).kind:Int)=2:=om
   refine⟨i,d,?_⟩;unfold pC at *;refine qd jfO (by rfl) (hb.pur 122 3 dc) rfl ?_;simp only[jbP,jr,κ,μ,ν,ξ];rw[(by unfold Wz;simp only[qq];rfl:Wz=_)];repeat'(first|apply jb<;>intro _|simp(disch:=first|exact dzD|fail) only[T,c1,hN,k2',Qv hb,r6,δ,ε,ζ,η,θ])
   (refine G1.done ?_ (by rfl) (by rfl) ?_;(· (first|exact cyD|fail));(· first|exact vyD|skip))
structure EnumT where
 name:List Nat
 vals:List (List Nat)
 line:Int
 col:Int
def enE (e:EnumT):List AV:=[.str e.name,.lst e.vals.length (e.vals.map .str),.int .i64 (e.line:Int),.int .i64 (e.col:Int)]
def XA (ts:List Tk):Nat->Nat->List (List Nat)->SR (List (List Nat))
 |0,i,_=>.er (tk ts i)
 |n+1,i,vs=>if(tk ts i).kind=1 then
   (if 32<=vs.length then .er (tk ts i)
    else if isM (tk ts (i+1)) [[44]]=true then XA ts n (i+2) (vs ++ [(tk ts i).text])
    else if isM (tk ts (i+1)) [[125]]=true then .ok (vs ++ [(tk ts i).text]) (i+2)
    else .er (tk ts (i+1)))
  else .er (tk ts i)
def Yz (ts:List Tk)(i:Nat):SR EnumT:=
 if(tk ts i).kind=1 then
  (if isM (tk ts (i+1)) [[123]]=true then(match XA ts ts.length (i+2) [] with
    |.ok vs j=>.ok ⟨(tk ts i).text,vs,(tk ts i).line,(tk ts i).col⟩ j
    |.er t=>.er t)
   else .er (tk ts (i+1)))
 else .er (tk ts i)
theorem w7 (hb:NB base){n:Nat}(h:n<32)(t:Tk):Tot base 87 [.int .i64 (n:Int),.agg t.cells] (.tup []):=by
 have:=jh9 hb n t;rw[if_neg om] at this;exact this
theorem w8 (hb:NB base){n:Nat}(h:32<=n)(t:Tk):Ret base 87 [.int .i64 (n:Int),.agg t.cells] (.pn (er t)):=by
 have:=jh9 hb n t;rw[if_pos h] at this;exact this
theorem js6:Go.Ev.isAgg γ 106=some false:=by kernel_rfl
theorem js5:Go.Ev.sizeOf γ 106=some 1:=by kernel_rfl
theorem GJ {b o:Nat}{v:AV}{h:T AO}(ho:o<qv h b)(hv:rat h b o=v)(hc:eqs v=true):(jY γ 106 (.ptr b o) v h=true)=True:=eq_true (QW js6 js5 ho hv hc)
theorem Lv.eqs {lo hi n z:Nat}{s:St}{v:AV}{cs:List AV}(h:Lv lo hi s v n cs z):Go.Sy.eqs v=true:=by
 rcases h with ⟨rfl,_⟩|⟨b,rfl,_⟩<;>rfl
theorem Lv.cell {lo hi n z:Nat}{s:St}{v:AV}{cs:List AV}(h:Lv lo hi s v n cs z):v.cell=true:=by
 rcases h with ⟨rfl,_⟩|⟨b,rfl,_⟩<;>rfl
theorem Lv.cells {lo hi n z:Nat}{s:St}{v:AV}{cs:List AV}(h:Lv lo hi s v n cs z):v.cells=[v]:=by
 rcases h with ⟨rfl,_⟩|⟨b,rfl,_⟩<;>rfl
theorem Lv.plain {lo hi n z:Nat}{s:St}{v:AV}{cs:List AV}(h:Lv lo hi s v n cs z):v.plain=true:=by
 rcases h with ⟨rfl,_⟩|⟨b,rfl,_⟩<;>rfl
theorem Lv.len {lo hi n z:Nat}{s:St}{v:AV}{cs:List AV}(h:Lv lo hi s v n cs z)(st:St)(K:AV->St->Prop):jh (lenV v st) K=K (.int .i64 (n:Int)) st:=by
 rcases h with ⟨rfl,rfl,_⟩|⟨b,rfl,_⟩
 ·exact jb6
 ·exact jfR ..
theorem jC (z:Nat)(v:AV)(s:St):(apv z v s).cells=[apv z v s]:=by unfold apv;split<;>rfl
theorem jI (z:Nat)(v:AV)(s:St):(apv z v s).plain=true:=by unfold apv;split<;>rfl
theorem jM (z:Nat)(v:AV)(s:St)(l:List AV):lall AV.cell (apv z v s :: l)=lall AV.cell l:=by unfold apv;split<;>rfl
set_option maxHeartbeats 4000000 in
theorem jr7 (hb:NB base){ts:List Tk}(W:Wds ts){i d:Nat}(hi:i<ts.length):AnS base 88 (pC ts i d) [] ts d (λe=>.agg (enE e)) (Yz ts i):=by
 have wl:=W.len;have N:=λst p=>@Wl base hb ts i d hi om st p;unfold Yz;by_cases k1:(tk ts i).kind=1
 ·rw[if_pos k1];have hi1:i+1<ts.length:=W.next i hi om
  have M:=λst p=>@QZ base hb ts (i+1) d hi1 om [123] st p;by_cases c1:isM (tk ts (i+1)) [[123]]=true
  ·rw[if_pos c1];have hi2:=W.isM hi1 c1;suffices h:∀ r:SR EnumT,(match XA ts ts.length (i+2) [] with
    |.ok vs j=>SR.ok ⟨(tk ts i).text,vs,(tk ts i).line,(tk ts i).col⟩ j
    |.er t=>.er t:SR EnumT)=r->AnS base 88 (pC ts i d) [] ts d (λe=>.agg (enE e)) r from h _ rfl
   intro r hr;refine v8 x78 (by rfl) (hb.pur 88 3 dc) ?_;simp only[y78,jr,κ,μ,ν,ξ];rw[(by unfold z78;simp only[qq];rfl:z78=_)];unfold pC at *;repeat'(first|apply jb<;>intro _|simp(disch:=first|exact dzD|fail) only[N,k1,M,c1,r6,δ,ε,ζ,η,θ])
   refine Wb λu hu=>?_;have n0:u.nx=4:=by rw[hu];rfl
   have C0:Cl u 0 (pC ts (i+2) d):=by
    rw[hu];unfold pC
    (first|exact cyD|fail)
   have C1:Cl u 1 [.str [],.nils,.int .i64 0,.int .i64 0]:=by
    rw[hu]
    (first|exact cyD|fail)
   have C3:Cl u 3 [.str (tk ts i).text,.nils,.int .i64 ((tk ts i).line:Int),.int .i64 ((tk ts i).col:Int)]:=by
    rw[hu]
    (first|exact cyD|fail)
   clear hu N M;generalize (tk ts i).text=nm at *;generalize (tk ts i).line=ln at *;generalize (tk ts i).col=co at *;refine zb (λmm L s=>∃ (m i':Nat) (vs:List (List Nat)) (v:AV),mm=m/\ts.length<=i'+m/\i'<ts.length/\(match XA ts m i' vs with | .ok vs j=>SR.ok ⟨nm,vs,ln,co⟩ j | .er t=>.er t:SR EnumT)=r/\4<=s.nx/\Cl s 0 (pC ts i' d)/\Cl s 1 [.str [],.nils,.int .i64 0,.int .i64 0]/\Cl s 3 [.str nm,v,.int .i64 (ln:Int),.int .i64 (co:Int)]/\Lv 4 s.nx s v vs.length (vs.map .str) 1/\Has L 0 (.ptr 0 0)/\Has L 2 (.ptr 1 0)/\Has L 4 (.ptr 3 0)) ?_ ts.length ?_
   ·rintro m L s ⟨_,i',vs,v,rfl,hm,hi',hl,n0,C0,C1,C3,V,i0,i2,i4⟩;clear hr;cases m with
    |zero=>omega
    |succ m=>
    unfold XA at hl;obtain⟨q,hq⟩:∃ q,q=s.nx:=⟨_,rfl⟩;rw[<-hq] at V;have hq':q<=s.nx:=QaO hq;have hN:=λst p=>@Za base hb ts i' d hi' st p;have hM:=λst p=>@Wl base hb ts i' d hi' om st p;have L0:=C0.lt;have L1:=C1.lt;have L3:=C3.lt;have ve:=V.eqs;have g3:rat s.h 3 1=v:=C3.cell 1 (QbD (QaY 2));have vl:=V.len;by_cases k1:(tk ts i').kind=1
    ·rw[if_pos k1] at hl;have k1':((tk ts i').kind:Int)=1:=om
     have hi1:i'+1<ts.length:=W.next i' hi' om
     by_cases h32:32<=vs.length
     ·rw[if_pos h32] at hl;subst hl;have R:=w8 hb h32 (tk ts i');unfold pC at *
      (have zz:=a4 @g3 C0.r C1.r C3.r;(repeat'(first|apply jb<;>intro _|simp(disch:=first|exact qU|fail) only[ja i0,ja i2,ja i4,hN,k1',vl,R,GJ,ve,zK,C0.q,C1.q,C3.q,g3,C0.r,C1.r,C3.r,r6,δ,ε,ζ,η,θ]));all_goals clear zz)
      refine⟨i',d,?_⟩;unfold pC
      (refine G1.done ?_ (by rfl) (by rfl) ?_;(· (have zz:=a4 C0.q C1.q C3.q (aI C0.r (aI C1.r C3.r));first|exact qp|fail));(· first|exact vyD|skip))
     ·rw[if_neg h32] at hl;have R:=w7 hb (show vs.length<32 by omega) (tk ts i');have T:=Y0 hb hi1 (d:=d) om [[44]] (cs:=[.str [44]]) (n:=1) rfl rfl dc;have M:=λst p=>@QZ base hb ts (i'+1) d hi1 om [125] st p;have A:=λst bv xc xx K h hv=>@JT 4 q vs.length 1 st v (vs.map .str) K 16 bv xc xx h dc om om hv;have V2:∀ st m',Lv 4 q st v vs.length (vs.map .str) 1->4<=st.nx->m'=st.nx+1->Lv 4 m' (aps v st [.str (tk ts i').text]) (apv 1 v st) (vs ++ [(tk ts i').text]).length ((vs ++ [(tk ts i').text]).map .str) 1:=λst m' h h2 h3=>by
       rw[υ,Qba];exact h.put rfl h2 h3
      unfold pC at *
      (have zz:=a8 @g3 V.ln V.rts @jA @jE @jJ @V (a4 @ve @jC @jI (a4 @jM C0.r C1.r C3.r));(repeat'(first|apply jb<;>intro _|simp(disch:=first|exact qU|fail) only[ja i0,ja i2,ja i4,hN,hM,k1,k1',vl,R,GJ,ve,A,V.at,jC,C0.q,C1.q,C3.q,g3,V.ln,V.rts,jA,jE,jJ,V,ve,jC,jI,jM,C0.r,C1.r,C3.r,r6,δ,ε,ζ,η,θ]));all_goals clear zz)
      rw[T _ 0 (s.nx+1+1) 1 true (by(have zz:=a8 C0.q C1.q C3.q @g3 V.ln V.rts C0.r (aI C1.r C3.r);first|exact qp|fail)) (by(have zz:=a8 C0.q C1.q C3.q @g3 V.ln V.rts C0.r (aI C1.r C3.r);first|exact qp|fail)) om]
      (have zz:=a8 @g3 V.ln V.rts @jC @jI @jM C0.r (aI C1.r C3.r);(repeat'(first|apply jb<;>intro _|simp(disch:=first|exact qU|fail) only[ja i0,ja i2,ja i4,M,V.at,jC,jaW,zK,C0.q,C1.q,C3.q,g3,V.ln,V.rts,jC,jI,jM,C0.r,C1.r,C3.r,r6,δ,ε,ζ,η,θ]));all_goals clear zz)
      ·rename_i c;rw[if_pos c] at hl;have hi2:=W.isM hi1 c;refine⟨m,om,m,i'+1+1,vs ++ [(tk ts i').text],?v,rfl,om,hi2,hl,om,?c0,?c1,?c3,?lv,?has⟩;case lv=>
        refine Lv.up (hi:=s.nx+2) ?_ om;simp(disch:=first|omega|(simp only[jg,jj,jq,jt];omega)) only[jA,jE,jJ];refine V2 _ _ ?_ ?_ ?_;all_goals first|(simp only[jg,jj];done)|(simp only[jg,jj];omega)|(simp(disch:=first|omega|(simp only[jg,jj];omega)) only[jA,jE];exact V)
       case c0=>(have zz:=a8 C0.q C1.q C3.q @g3 V.ln V.rts @jC (a4 @jI @jM C0.r (aI C1.r C3.r));first|exact qp|fail)
       case c1=>(have zz:=a8 C0.q C1.q C3.q @g3 V.ln V.rts @jC (a4 @jI @jM C0.r (aI C1.r C3.r));first|exact qp|fail)
       case c3=>(have zz:=a8 C0.q C1.q C3.q @g3 V.ln V.rts @jC (a4 @jI @jM C0.r (aI C1.r C3.r));first|exact qp|fail)
       case has=>simp(disch:=decide) only[h12,i0,i2,i4]
      ·rename_i c c2;rw[if_neg c,if_pos c2] at hl;have hl:SR.ok (⟨nm,vs ++ [(tk ts i').text],ln,co⟩:EnumT) (i'+2)=r:=hl;subst hl;show G1 3 (pC ts (i'+2) d) (.agg (enE ⟨nm,vs ++ [(tk ts i').text],ln,co⟩)) _ _;refine G1.done ?_ (by rfl) (by rfl) (FzD.agg (.cons (.pc rfl) (.cons (Lv.fz (lo:=4) (hi:=s.nx+2) (z:=1) ?_ dc (Wf _)) (.cons (.pc rfl) (.cons (.pc rfl) .nil)))))
       ·unfold pC
        (have zz:=a8 C0.q C1.q C3.q @g3 V.ln V.rts @jC (a4 @jI @jM C0.r (aI C1.r C3.r));first|exact qp|fail)
       ·simp(disch:=first|omega|(simp only[jg,jj,jq,jt];omega)) only[jH,jA,jE,jJ];refine V2 _ _ ?_ ?_ ?_;all_goals first|(simp only[jg,jj];done)|(simp only[jg,jj];omega)|(simp(disch:=first|omega|(simp only[jg,jj];omega)) only[jA,jE];exact V)
      ·rename_i c c2;rw[if_neg c,if_neg c2] at hl;have hl:SR.er (tk ts (i'+1))=r:=hl;subst hl;refine⟨i'+1,d,?_⟩;unfold pC
       (refine G1.done ?_ (by rfl) (by rfl) ?_;(· (have zz:=a8 C0.q C1.q C3.q @g3 V.ln V.rts @jC (a4 @jI @jM C0.r (aI C1.r C3.r));first|exact qp|fail));(· first|exact vyD|skip))
    ·rw[if_neg k1] at hl;have k1':¬ ((tk ts i').kind:Int)=1:=om
     subst hl;unfold pC at *
     (have zz:=a4 @g3 C0.r C1.r C3.r;(repeat'(first|apply jb<;>intro _|simp(disch:=first|exact qU|fail) only[ja i0,ja i2,ja i4,hN,hM,k1,k1',GJ,ve,zK,C0.q,C1.q,C3.q,g3,C0.r,C1.r,C3.r,r6,δ,ε,ζ,η,θ]));all_goals clear zz)
     refine⟨i',d,?_⟩;unfold pC
     (refine G1.done ?_ (by rfl) (by rfl) ?_;(· (have zz:=a4 C0.q C1.q C3.q (aI C0.r (aI C1.r C3.r));first|exact qp|fail));(· first|exact vyD|skip))
   ·refine⟨ts.length,i+2,[],.nils,rfl,om,hi2,hr,om,C0,C1,C3,Lv.nil,?_⟩;simp(disch:=decide) only[h12]
  ·rw[if_neg c1];refine⟨i+1,d,?_⟩;unfold pC at *;refine qd x78 (by rfl) (hb.pur 88 3 dc) rfl ?_;simp only[y78,jr,κ,μ,ν,ξ];rw[(by unfold z78;simp only[qq];rfl:z78=_)];repeat'(first|apply jb<;>intro _|simp(disch:=first|exact dzD|fail) only[N,k1,M,c1,r6,δ,ε,ζ,η,θ])
   (refine G1.done ?_ (by rfl) (by rfl) ?_;(· (first|exact cyD|fail));(· first|exact vyD|skip))
 ·rw[if_neg k1];refine⟨i,d,?_⟩;unfold pC at *;refine qd x78 (by rfl) (hb.pur 88 3 dc) rfl ?_;simp only[y78,jr,κ,μ,ν,ξ];rw[(by unfold z78;simp only[qq];rfl:z78=_)];repeat'(first|apply jb<;>intro _|simp(disch:=first|exact dzD|fail) only[N,k1,r6,δ,ε,ζ,η,θ])
  (refine G1.done ?_ (by rfl) (by rfl) ?_;(· (first|exact cyD|fail));(· first|exact vyD|skip))
structure DeclT where
 name:List Nat
 ty:List Nat
 lo:Int
 hi:Int
 begins:List Ex
 line:Int
 col:Int
def qm (d:DeclT):List AV:=[.str d.name,.str d.ty,.int .i64 d.lo,.int .i64 d.hi,.lst d.begins.length (fl eE d.begins),.int .i64 (d.line:Int),.int .i64 (d.col:Int)]
def WI (ts:List Tk)(i:Nat):SR (List Nat×Int×Int):=
 if isM (tk ts i) [[98,111,111,108]]=true then .ok ([98,111,111,108],0,0) (i+1)
 else if(tk ts i).kind=1 then .ok ((tk ts i).text,0,0) (i+1)
 else match Y9 ts i with
  |.er t=>.er t
  |.ok lo j=>if isM (tk ts j) [[46,46]]=true then(match Y9 ts (j+1) with
   |.er t=>.er t
   |.ok hi k=>.ok ([],lo,hi) k) else .er (tk ts j)
def wo (ts:List Tk)(i:Nat):SR (List Ex):=
 if isM (tk ts i) [[61]]=true then(match yx ts (i+1) with
  |.er t=>.er t
  |.ok x j=>if isM (tk ts j) [[59]]=true then .ok [x] (j+1) else .er (tk ts j))
 else if isM (tk ts i) [[59]]=true then .ok [] (i+1) else .er (tk ts i)
def YA (ts:List Tk)(i:Nat):SR DeclT:=
 if(tk ts i).kind=1 then
  (if isM (tk ts (i+1)) [[58]]=true then(match WI ts (i+2) with
    |.er t=>.er t
    |.ok y j=>(match wo ts j with
     |.er t=>.er t
     |.ok bs k=>.ok ⟨(tk ts i).text,y.1,y.2.1,y.2.2,bs,(tk ts i).line,(tk ts i).col⟩ k))
   else .er (tk ts (i+1)))
 else .er (tk ts i)
def zD:List AV:=[.str [],.str [],.int .i64 0,.int .i64 0,.nils,.int .i64 0,.int .i64 0]
theorem jtw {m d b cap:Nat}{s:St}{ks:List Ex}{ex:Bool}{cs:List AV}(C:Cl s b cs)(hc:cs=fl eE ks)(hm:m<=b):FzD m (d+3) s (.slice b 0 ks.length cap 6 ex) (.lst ks.length (fl eE ks)):=by
 subst hc;have hl:=Jk Jl ks;refine FzD.slice C.rw_ (QaO hl.symm) hm ?_;rw[<-hl,Qaf];exact .pc (y7 q9 ks)
set_option maxHeartbeats 4000000 in
theorem jgO (hb:NB base){ts:List Tk}(W:Wds ts){j:Nat}(hj:j<ts.length){nm ty:List Nat}{lo hi:Int}{ln co:Nat}{r:SR DeclT}
  (hr:(match wo ts j with | .er t=>SR.er t | .ok bs k=>.ok ⟨nm,ty,lo,hi,bs,ln,co⟩ k)=r) {L:Sl} {s:St} (n0:4<=s.nx) (C0:Cl s 0 (pC ts j 0)) (C1:Cl s 1 zD)
  (C3:Cl s 3 [.str nm,.str ty,.int .i64 lo,.int .i64 hi,.nils,.int .i64 (ln:Int),.int .i64 (co:Int)]) (i0:Has L 0 (.ptr 0 0)) (i2:Has L 2 (.ptr 1 0)) (i4:Has L 4 (.ptr 3 0)) :
  xC γ base jfy L s (Xw γ y79.res (SK ts 0 (λd=>.agg (qm d)) r)) λv _ s=>SP ts r v s.bare:=by
 have wl:=W.len;have L0:=C0.lt;have L1:=C1.lt;have L3:=C3.lt;have T:=Y0 hb hj (d:=0) om [[61]] (cs:=[.str [61]]) (n:=1) rfl rfl dc;unfold wo at hr;unfold zD pC at *;rw[(by unfold jfy;simp only[qq];rfl:jfy=_)];simp only[y79];by_cases c1:isM (tk ts j) [[61]]=true
 ·rw[if_pos c1] at hr;have hj1:=W.isM hj c1;have A:=UJ hb W hj1;cases hw:yx ts (j+1) with
  |er t=>
   rw[hw] at hr A;have hr:SR.er t=r:=hr;subst hr;obtain⟨i',d',A⟩:=A;have E:∀ st p,Cl st p (pC ts (j+1) 0)->∀ K Kp,XB γ base 72 [.ptr p 0] st K Kp=_:=λst p C K Kp=>A.xb C rfl (λst=>hb.no 72 dc _ _) K Kp;unfold pC at *
   (have zz:=aI C0.r (aI C1.r C3.r);(repeat'(first|apply jb<;>intro _|simp(disch:=first|exact qU|fail) only[ja i0,ja i2,ja i4,T,c1,E,zK,C0.q,C1.q,C3.q,C0.r,C1.r,C3.r,r6,δ,ε,ζ,η,θ]));all_goals clear zz)
   refine⟨i',d',?_⟩;unfold pC
   (refine G1.done ?_ (by rfl) (by rfl) ?_;(· (have zz:=a4 C0.q C1.q C3.q (aI C0.r (aI C1.r C3.r));first|exact qp|fail));(· first|exact vyD|skip))
  |ok x q=>
   rw[hw] at hr A;have A:PM _ _ _ _ _ _ _:=A;have E:∀ st p,Cl st p (pC ts (j+1) 0)->∀ K Kp,XB γ base 72 [.ptr p 0] st K Kp=_:=λst p C K Kp=>A.xb C rfl (λst=>hb.no 72 dc _ _) K Kp;have hq:q<ts.length:=(yj W hj1 hw).2.1;have M:=λst p=>@QZ base hb ts q 0 hq om [59] st p;unfold pC at *
   (have zz:=aI C0.r (aI C1.r C3.r);(repeat'(first|apply jb<;>intro _|simp(disch:=first|exact qU|fail) only[ja i0,ja i2,ja i4,T,c1,E,M,zK,jaW,C0.q,C1.q,C3.q,C0.r,C1.r,C3.r,r6,δ,ε,ζ,η,θ]));all_goals clear zz)
   ·rename_i c2;dsimp only at hr;rw[if_pos c2] at hr;have hr:SR.ok (⟨nm,ty,lo,hi,[x],ln,co⟩:DeclT) (q+1)=r:=hr;subst hr;show G1 3 (pC ts (q+1) 0) (.agg (qm ⟨nm,ty,lo,hi,[x],ln,co⟩)) _ _;refine G1.done ?_ (by rfl) (by rfl) (FzD.agg (.cons (.pc rfl) (.cons (.pc rfl) (.cons (.pc rfl) (.cons (.pc rfl) (.cons (jtw (ks:=[x]) (cs:=eE x) ?_ (by rw[J5]) om) (.pc rfl)))))))
    ·unfold pC
     (have zz:=a4 C0.q C1.q C3.q (aI C0.r (aI C1.r C3.r));first|exact qp|fail)
    ·(have zz:=a4 C0.q C1.q C3.q (aI C0.r (aI C1.r C3.r));first|exact qp|fail)
   ·rename_i c2;dsimp only at hr;rw[if_neg c2] at hr;have hr:SR.er (tk ts q)=r:=hr;subst hr;refine⟨q,0,?_⟩;unfold pC
    (refine G1.done ?_ (by rfl) (by rfl) ?_;(· (have zz:=a4 C0.q C1.q C3.q (aI C0.r (aI C1.r C3.r));first|exact qp|fail));(· first|exact vyD|skip))
 ·rw[if_neg c1] at hr;have M:=λst p=>@QZ base hb ts j 0 hj om [59] st p;unfold pC at *
  (have zz:=aI C0.r (aI C1.r C3.r);(repeat'(first|apply jb<;>intro _|simp(disch:=first|exact qU|fail) only[ja i0,ja i2,ja i4,T,c1,M,zK,jaW,C0.q,C1.q,C3.q,C0.r,C1.r,C3.r,r6,δ,ε,ζ,η,θ]));all_goals clear zz)
  ·rename_i c2;rw[if_pos c2] at hr;have hr:SR.ok (⟨nm,ty,lo,hi,[],ln,co⟩:DeclT) (j+1)=r:=hr;subst hr;show G1 3 (pC ts (j+1) 0) (.agg (qm ⟨nm,ty,lo,hi,[],ln,co⟩)) _ _;refine G1.done ?_ (by rfl) (by rfl) (FzD.agg (.cons (.pc rfl) (.cons (.pc rfl) (.cons (.pc rfl) (.cons (.pc rfl) (.cons .nils (.pc rfl)))))));unfold pC
   (have zz:=a4 C0.q C1.q C3.q (aI C0.r (aI C1.r C3.r));first|exact qp|fail)
  ·rename_i c2;rw[if_neg c2] at hr;have hr:SR.er (tk ts j)=r:=hr;subst hr;refine⟨j,0,?_⟩;unfold pC
   (refine G1.done ?_ (by rfl) (by rfl) ?_;(· (have zz:=a4 C0.q C1.q C3.q (aI C0.r (aI C1.r C3.r));first|exact qp|fail));(· first|exact vyD|skip))
end Go.Sy
end
