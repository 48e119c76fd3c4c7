import Derived.Test.YtndojkghlhllpaaGreatDoorSqSyB
import Derived.Test.YtndojkghlhllpaaGreatDoorProg
import Derived.KernelRfl
set_option linter.unusedVariables false
set_option linter.unusedSimpArgs false
theorem Qa0 {p:Prop}(h:p:=by kernel_rfl):p:=h
set_option maxHeartbeats 8000000
open Go.Proofs.Tryz renaming prog -> γ
open Nat renaming reduceAdd -> δ, reduceSub -> ε, le_refl -> μ, le_trans -> ψ, zero_le -> Qaa, zero_add -> Qaj, le_max_left -> Qap, le_max_right -> Qaq, not_lt_zero -> Qas, lt_or_ge -> Qat, lt_of_lt_of_le -> Qau, mul_le_mul_right -> Qav, mul_one -> QaG, add_mul -> QaI, sub_zero -> QaL, le_of_eq -> QaM, zero_mul -> QaP, succ_mul -> QaR, succ_pos -> QaW, lt_succ_self -> Qbf, ne_of_lt -> Qbg, add_assoc -> Qbt, add_zero -> Qby, mod_eq_of_lt -> QbA, one_mul -> QbD, add_comm -> QbE, succ_lt_succ -> QbI, sub_self -> QbU, le_of_lt -> QbV, beq -> Qcy, succ -> Qcz, ble -> QcA, add -> QcB, mul -> QcC, sub -> QcD
open List renaming map_cons -> ζ, map_nil -> η, getD_cons_zero -> θ, getD_cons_succ -> κ, length_append -> ν, length_cons -> ξ, length_nil -> φ, getElem_mem -> ω, take_length -> Qab, getD -> Qac, length_map -> Qad, range -> Qae, getElem?_eq_getElem -> Qaf, cons_append -> Qag, all_eq_true -> Qai, getD_eq_getElem?_getD -> Qak, length_take -> Qal, nil_append -> Qam, length_drop -> QaB, all_cons -> QaD, take_zero -> QaH, mem_cons -> QaJ, append_nil -> QaO, map_congr_left -> QaS, map_append -> QaU, eq_nil_of_length_eq_zero -> QaX, all_append -> QaY, foldl_append -> Qba, length_singleton -> Qbb, drop_zero -> Qbd, map_map -> Qbh, ext_getElem -> Qbm, getElem?_append_left -> Qbq, take_append_drop -> Qbr, length_pos_iff -> Qbv, drop_drop -> Qbz, getElem_cons_zero -> QbG, getElem?_take -> QbK, getElem?_drop -> QbL, getElem?_map -> QbO, take_add_one -> QbQ, getElem_map -> QbR, drop_eq_getElem_cons -> QbW, getElem_cons_succ -> QbX, getElem?_append_right -> Qcf, mem_cons_of_mem -> Qci, take_of_length_le -> Qcj, take_succ_cons -> Qcr
open Int renaming natCast_zero -> τ, zero_add -> υ, eq_ofNat_of_zero_le -> QbF, toNat_natCast -> Qcl
open Bool renaming and_eq_true -> χ, eq_iff_iff -> QaA, or_eq_true -> QaC, not_eq_true' -> QaQ, false_eq_true -> QaT, true_eq_false -> QbH
noncomputable section
namespace Go.Sy
open Go.Ev Go.RowKit
variable {s:St}{cs vs:List AV}{b o c i:Nat}{p a:Prop}
section
variable {P:Program} {base:Bs} {st:St} {K:AV->St->Prop} {e:En}
theorem jqV {b o k:Nat}(hpos:0<k)(h:o+k<=qp st.h b):jq (Q4 k (.ptr b o) st) K=K (.agg ((Qae k).map λi=>rat st.h b (o+i))) st:=by
 obtain⟨n,zl,z,cs,hg⟩:=QU (h:=st.h) (b:=b) om;rw[yB hg] at h;have e1:QcA (QcB o k) n=true:=qw h;simp only[Q4,yi,hg,yh,e1,cond_true,jq,Jt hg,qi]
theorem js8 {l:Lt}{n:Nat}(h:n<=l.length)(k:IntKind):jq (JV (.str l) (some (.int k (n:Int))) none st) K=K (.str (l.drop n)) st:=by
 have e:qD (.int k (n:Int))=λF=>F n:=by funext F;show(force n F)=F n;rw[jF]
 have e1:QcA n l.length=true:=qw h;have e2:QcA l.length l.length=true:=qw (μ _);simp only[JV,Jl,optA,e,jM,jF,e1,e2,cond_true,jq,qN,yR];rw[show QcD l.length n=(l.drop n).length by rw[QaB];rfl,Qab]
theorem js7 {l:Lt}{n:Nat}(h:n<=l.length)(k:IntKind):jq (JV (.str l) none (some (.int k (n:Int))) st) K=K (.str (l.take n)) st:=by
 have e:qD (.int k (n:Int))=λF=>F n:=by funext F;show(force n F)=F n;rw[jF]
 have e1:QcA n l.length=true:=qw h;have e2:QcA 0 n=true:=qw (Qaa _);simp only[JV,Jl,optA,e,jM,jF,e1,e2,cond_true,jq,qN,yR];rfl
theorem js6 {l:Lt}{a n:Nat}(h:a<=n)(h2:n<=l.length)(k k':IntKind):jq (JV (.str l) (some (.int k (a:Int))) (some (.int k' (n:Int))) st) K=K (.str ((l.drop a).take (n - a))) st:=by
 have e:∀ (k:IntKind) (n:Nat),qD (.int k (n:Int))=λF=>F n:=λk n=>by funext F;show(force n F)=F n;rw[jF]
 have e1:QcA n l.length=true:=qw h2;have e2:QcA a n=true:=qw h;simp only[JV,Jl,optA,e,jM,jF,e1,e2,cond_true,jq,qN,yR];rfl
end
def nw (s:St)(cs:List AV):St:=⟨s.nx+1,(qh (jO s.nx)).run (.row cs.length cs.length cs .e) s.h,s.dirty,s.fr⟩
def jgC (x:Option AO)(o:Nat)(vs:List AV):AO:=match x with|some (.row n zl z cs)=>.row n zl z (qx vs cs o)|_=>.row 0 1 [] (qx vs .e o)
def wr (s:St)(b o:Nat)(vs:List AV):St:=⟨s.nx,(qh (jO b)).run (jgC (jv s.h b) o vs) s.h,min s.dirty b,s.fr⟩
def apO (x:Option AO)(vs:List AV):AO:=match x with|some (.row n zl z cs)=>.row (n+vs.length) zl z (qx vs cs n)|_=>.row vs.length 1 [] (qx vs .e 0)
def ap (s:St)(b:Nat)(vs:List AV):St:=⟨s.nx+1,(qh (jO s.nx)).run (apO (jv s.h b) vs) ((qh (jO b)).run .dead s.h),min s.dirty b,s.fr⟩
theorem jg (s:St)(cs:List AV):(nw s cs).nx=s.nx+1:=nr rfl
theorem jn (s:St)(b o:Nat)(vs:List AV):(wr s b o vs).nx=s.nx:=nr rfl
theorem jo (s:St):s.bare.nx=s.nx:=nr rfl
theorem WV (s:St):s.bare.h=s.h:=nr rfl
theorem VQ (s:St)(cs:List AV):(nw s cs).fr=s.fr:=nr rfl
theorem jbT (s:St)(b o:Nat)(vs:List AV):(wr s b o vs).fr=s.fr:=nr rfl
theorem jfw (s:St):s.bare.fr=[]:=nr rfl
theorem q8 (h:b≠s.nx):jv (nw s cs).h b=jv s.h b:=by unfold nw;rw[qd,if_neg h]
theorem zN (h:c≠b):jv (wr s b o vs).h c=jv s.h c:=by unfold wr;rw[qd,if_neg h]
theorem WX (h:c≠s.nx)(h2:c≠b):jv (ap s b vs).h c=jv s.h c:=by unfold ap;rw[qd,if_neg h,qd,if_neg h2]
theorem ji4 (s:St)(cs:List AV):qp (nw s cs).h s.nx=cs.length:=by unfold nw;rw[jlM,if_pos rfl]
theorem Ya (h:b≠s.nx):qp (nw s cs).h b=qp s.h b:=yU (q8 h)
theorem jhx (h:i<cs.length):rat (nw s cs).h s.nx i=cs.getD i .bad:=by unfold nw;rw[joG,if_pos rfl,zB,YN,QbA h];rfl
theorem uF (h:b≠s.nx):rat (nw s cs).h b i=rat s.h b i:=yK (q8 h) i
theorem vS (h:b=s.nx):qp (nw s cs).h b=cs.length:=by rw[h,ji4]
theorem GX (h:b=s.nx)(hi:i<cs.length):rat (nw s cs).h b i=cs.getD i .bad:=by rw[h,jhx hi]
theorem XG (s:St)(b o:Nat)(vs:List AV)(c:Nat):qp (wr s b o vs).h c=qp s.h c:=by
 by_cases h:c=b
 .subst h;unfold wr jgC qp;rw[qd,if_pos rfl];cases jv s.h c with
  |none=>rfl
  |some x=>cases x<;>rfl
 .exact yU (zN h)
theorem kj (s:St)(b o:Nat)(vs:List AV)(i:Nat):rat (wr s b o vs).h b i=if o<=i/\i<o+vs.length then vs.getD (i - o) .bad else rat s.h b i:=by
 unfold wr rat;rw[qd,if_pos rfl];unfold jgC;cases jv s.h b with
 |none=>simp only[zd];congr 1;rw[zB,YN];rfl
 |some x=>cases x<;>simp only[zd]<;>(congr 1;rw[zB,YN];rfl)
theorem Ki (h1:o<=i)(h2:i<o+vs.length):rat (wr s b o vs).h b i=vs.getD (i - o) .bad:=by rw[kj,if_pos ⟨h1,h2⟩]
theorem GU (h:i<o):rat (wr s b o vs).h b i=rat s.h b i:=by rw[kj,if_neg om]
theorem GV (h:o+vs.length<=i):rat (wr s b o vs).h b i=rat s.h b i:=by rw[kj,if_neg om]
theorem wL (h:c≠b):rat (wr s b o vs).h c i=rat s.h c i:=yK (zN h) i
theorem jmh (h:Wm s.h c):Wm (wr s b o vs).h c:=by
 by_cases hc:c=b
 .subst hc;unfold Wm wr;rw[qd,if_pos rfl];obtain⟨n,zl,z,cs,e⟩:=h;rw[e];exact⟨_,_,_,_,rfl⟩
 .exact JI (zN hc) h
structure Cl (s:St)(b:Nat)(cs:List AV):Prop where
 lt:b<s.nx
 row:Wm s.h b
 len:qp s.h b=cs.length
 cell:∀ i,i<cs.length->rat s.h b i=cs.getD i .bad
theorem Cl.keep {s':St}(h:Cl s b cs)(hn:s.nx<=s'.nx)(k:jv s'.h b=jv s.h b):Cl s' b cs:=
 ⟨Qau h.lt hn,JI k h.row,(yU k).trans h.len,λi hi=>(yK k i).trans (h.cell i hi)⟩
theorem Cl.new (s:St)(cs:List AV):Cl (nw s cs) s.nx cs:=
 ⟨Qbf _,⟨_,_,_,_,by unfold nw;rw[qd,if_pos rfl]⟩,ji4 s cs,λi hi=>jhx hi⟩
theorem Cl.nw (h:Cl s b cs)(ds:List AV):Cl (nw s ds) b cs:=h.keep (Nat.le_succ _) (q8 (Qbg h.lt))
theorem Cl.wrO (h:Cl s b cs)(hc:b≠c)(o:Nat)(vs:List AV):Cl (wr s c o vs) b cs:=h.keep (μ _) (zN hc)
def upd:List AV->Nat->List AV->List AV
 |[],_,_=>[]
 |c :: cs,0,[]=>c :: cs
 |c :: cs,0,v :: vs=>v :: upd cs 0 vs
 |c :: cs,o+1,vs=>c :: upd cs o vs
theorem WE:∀ (cs:List AV) (o:Nat) (vs:List AV),(upd cs o vs).length=cs.length
 |[],_,_=>rfl
 |c :: cs,0,[]=>rfl
 |c :: cs,0,v :: vs=>by show(upd cs 0 vs).length+1=_;rw[WE cs 0 vs];rfl
 |c :: cs,o+1,vs=>by show(upd cs o vs).length+1=_;rw[WE cs o vs];rfl
theorem kF:∀ (cs:List AV) (o:Nat) (vs:List AV) (i:Nat),i<cs.length->(upd cs o vs).getD i .bad=if o<=i/\i<o+vs.length then vs.getD (i - o) .bad else cs.getD i .bad
 |[],_,_,_,h=>by simp at h
 |c :: cs,0,[],i,h=>by rw[if_neg hac];rfl
 |c :: cs,0,v :: vs,0,h=>by rw[if_pos hac];rfl
 |c :: cs,0,v :: vs,i+1,h=>by
  show(upd cs 0 vs).getD i .bad=_;rw[kF cs 0 vs i (by simpa using h)];by_cases hi:i<vs.length
  .rw[if_pos om,if_pos hae];rfl
  .rw[if_neg om,if_neg hae];rfl
 |c :: cs,o+1,vs,0,h=>by rw[if_neg om];rfl
 |c :: cs,o+1,vs,i+1,h=>by
  show(upd cs o vs).getD i .bad=_;rw[kF cs o vs i (by simpa using h)];by_cases hi:o<=i/\i<o+vs.length
  .rw[if_pos hi,if_pos om,Nat.add_sub_add_right]
  .rw[if_neg hi,if_neg om];rfl
theorem Cl.wr (h:Cl s b cs)(o:Nat)(vs:List AV):Cl (wr s b o vs) b (upd cs o vs):=
 ⟨h.lt,jmh h.row,by rw[XG,h.len,WE],λi hi=>by
  rw[WE] at hi;rw[kj,kF _ _ _ _ hi,h.cell i hi]⟩
theorem Cl.ap (h:Cl s b cs)(vs:List AV):Cl (ap s b vs) s.nx (cs ++ vs):=by
 obtain⟨n,zl,z,ks,e⟩:=h.row;have hl:=h.len;rw[yB e] at hl;have eo:jv (Go.Sy.ap s b vs).h s.nx=some (.row (n+vs.length) zl z (qx vs ks n)):=by unfold Go.Sy.ap;rw[qd,if_pos rfl,e];rfl
 refine⟨Qbf _,⟨_,_,_,_,eo⟩,by rw[yB eo,ν,hl],λi hi=>?_⟩;rw[Jt eo,zd];rw[ν] at hi;by_cases hc:n<=i/\i<n+vs.length
 .rw[if_pos hc,Qak,Qak,Qcf om,hl]
 .have hi':i<cs.length:=om
  rw[if_neg hc,<-Jt e,h.cell i hi',Qak,Qak,Qbq hi']
theorem Zd (cs:List AV):(AV.agg cs).cells=cs:=nr rfl
theorem Wg (k:IntKind)(n:Int):(AV.int k n).cells=[.int k n]:=nr rfl
theorem Wc (l:Lt):(AV.str l).cells=[.str l]:=nr rfl
theorem vH (b:Bool):(AV.bool b).cells=[.bool b]:=nr rfl
theorem wy (b o n c z:Nat)(x:Bool):(AV.slice b o n c z x).cells=[.slice b o n c z x]:=nr rfl
theorem vG:AV.nils.cells=[.nils]:=nr rfl
theorem We (b o:Nat):(AV.ptr b o).cells=[.ptr b o]:=nr rfl
theorem jdl:lall AV.cell []=true:=nr rfl
theorem jdn (k:IntKind)(n:Int)(l:List AV):lall AV.cell (.int k n :: l)=lall AV.cell l:=nr rfl
theorem jdj (x:Lt)(l:List AV):lall AV.cell (.str x :: l)=lall AV.cell l:=nr rfl
theorem jaL (x:Bool)(l:List AV):lall AV.cell (.bool x :: l)=lall AV.cell l:=nr rfl
theorem Gm (b o n c z:Nat)(x:Bool)(l:List AV):lall AV.cell (.slice b o n c z x :: l)=lall AV.cell l:=nr rfl
theorem jaK (l:List AV):lall AV.cell (.nils :: l)=lall AV.cell l:=nr rfl
theorem jdk (b o:Nat)(l:List AV):lall AV.cell (.ptr b o :: l)=lall AV.cell l:=nr rfl
theorem jl6 (a b:List AV)(h:lall AV.cell a=true):lall AV.cell (a ++ b)=lall AV.cell b:=by
 induction a with
 |nil=>rfl
 |cons c a ih=>
  have h':cond c.cell (lall AV.cell a) false=true:=h;cases hc:c.cell with
  |false=>rw[hc] at h';cases h'
  |true=>
   rw[hc] at h';show cond c.cell (lall AV.cell (a ++ b)) false=_;rw[hc];exact ih h'
section
variable {P:Program} {base:Bs} {st:St} {K:AV->St->Prop} {e:En}
theorem jhA (cs:List AV):jq (Ev.newRow st cs) K=K (.ptr st.nx 0) (nw st cs):=by
 simp only[Ev.newRow,jF,jM,St.alloc_eq,jq];rfl
theorem jn0 {v:AV}(h:lall AV.cell v.cells=true):jq (jmA v st) K=K (.ptr st.nx 0) (nw st v.cells):=by
 simp only[jmA,h,cond_true];exact jhA _
theorem jsN {k b o:Nat}{v:AV}(hk:0<k)(hc:v.cells.length=k)(hl:lall AV.cell v.cells=true)(ho:o+k<=qp st.h b):jq (stV k (.ptr b o) v st) K=K qm (wr st b o v.cells):=by
 obtain⟨n,zl,z,cs,hg⟩:=QU (h:=st.h) (b:=b) om;rw[yB hg] at ho;have e1:Qcy (jQ v.cells) k=true:=YT (by rw[jM];exact hc);have e2:QcA (QcB o k) n=true:=qw ho;simp only[stV,yi,hg,yh,e1,e2,hl,cond_true,St.put_eq,jq];unfold wr jgC;rw[hg]
def rats (h:T AO)(b o:Nat):Nat->List AV
 |0=>[]
 |k+1=>rat h b o :: rats h b (o+1) k
theorem JQ (h:T AO)(b:Nat):∀ (k o:Nat),rats h b o k=(Qae k).map λi=>rat h b (o+i)
 |0,o=>rfl
 |k+1,o=>by
  rw[List.range_succ_eq_map,ζ,Qbh];show rat h b o :: rats h b (o+1) k=_;rw[JQ h b k (o+1)]
  congr 1
  refine QaS λi _=>?_;show rat h b (o+1+i)=rat h b (o+(i+1));rw[Qbt,QbE 1 i]
theorem jhB {k b o:Nat}(hk:0<k)(h:o+k<=qp st.h b):jq (Q4 k (.ptr b o) st) K=K (.agg (rats st.h b o k)) st:=by rw[JQ];exact jqV hk h
theorem rats0 (h:T AO)(b o:Nat):rats h b o 0=[]:=nr rfl
theorem jbz (h:T AO)(b o k:Nat):rats h b o (k+1)=rat h b o :: rats h b (o+1) k:=nr rfl
theorem Cl.ratsP {s:St}{b:Nat}{cs:List AV}(h:Cl s b cs):∀ k o,o+k<=cs.length->rats s.h b o k=(cs.drop o).take k
 |0,o,_=>rfl
 |k+1,o,hk=>by
  show rat s.h b o :: Go.Sy.rats s.h b (o+1) k=_;rw[h.ratsP k (o+1) om,h.cell o om,QbW (show o<cs.length by omega),Qcr,Qak,Qaf om];rfl
theorem wD {h h':T AO}{b:Nat}(e:jv h' b=jv h b):∀ k o,rats h' b o k=rats h b o k
 |0,_=>rfl
 |k+1,o=>by rw[jbz,jbz,yK e,wD e k]
theorem Qn (h:T AO)(b:Nat):∀ k o,(rats h b o k).length=k
 |0,_=>rfl
 |k+1,o=>by rw[jbz,ξ,Qn h b k]
theorem ZV {h:T AO}{b:Nat}:∀ {k o:Nat} {cs:List AV},cs.length=k->(∀ i,i<k->rat h b (o+i)=cs.getD i .bad)->rats h b o k=cs
 |0,o,[],_,_=>rfl
 |k+1,o,c :: cs,hl,h=>by
  rw[jbz,ZV (cs:=cs) (by simpa using hl) (λi hi=>by
   have:=h (i+1) om;rw[show o+1+i=o+(i+1) by omega,this];rfl)]
  have:=h 0 om;rw[Qby] at this;rw[this];rfl
theorem joF {s:St}{cs:List AV}{k:Nat}(h:cs.length=k):rats (nw s cs).h s.nx 0 k=cs:=ZV h λi hi=>by rw[Qaj];exact jhx om
theorem ZU {s:St}{cs:List AV}{b k:Nat}(hb:b=s.nx)(h:cs.length=k):rats (nw s cs).h b 0 k=cs:=by rw[hb,joF h]
theorem ZT {s:St}{cs:List AV}{b o k:Nat}(h:b≠s.nx):rats (nw s cs).h b o k=rats s.h b o k:=wD (q8 h) _ _
theorem vP {s:St}{b o k:Nat}{vs:List AV}(h:vs.length=k):rats (wr s b o vs).h b o k=vs:=ZV h λi hi=>by
 rw[Ki om om,Nat.add_sub_cancel_left]
theorem ZR {s:St}{b c o o' k:Nat}{vs:List AV}(h:b≠c):rats (wr s c o' vs).h b o k=rats s.h b o k:=wD (zN h) _ _
theorem ZS {s:St}{b o k:Nat}{vs:List AV}:rats (wr s b o vs).h b 0 k=upd (rats s.h b 0 k) o vs:=by
 refine ZV (by rw[WE,Qn]) λi hi=>?_;rw[Qaj,kj,kF _ _ _ _ (by rw[Qn];exact hi),JQ]
 congr 1
 simp[Qak,QbO,hi]
theorem ZN (o:Nat)(vs:List AV):upd [] o vs=[]:=nr (by cases o<;>rfl)
theorem Zi (c:AV)(cs:List AV):upd (c :: cs) 0 []=c :: cs:=nr rfl
theorem Zj (c:AV)(cs:List AV)(v:AV)(vs:List AV):upd (c :: cs) 0 (v :: vs)=v :: upd cs 0 vs:=nr rfl
theorem Z5 (c:AV)(cs:List AV)(o:Nat)(vs:List AV):upd (c :: cs) (o+1) vs=c :: upd cs o vs:=nr rfl
theorem Z4:∀ (cs:List AV) ,upd cs 0 []=cs
 |[]=>rfl
 |c :: cs=>rfl
theorem Cl.of_rats {s:St}{b k:Nat}{cs:List AV}(h1:b<s.nx)(h2:qp s.h b=k)(h3:cs.length=k)(h4:0<k)(h5:Go.Sy.rats s.h b 0 k=cs):Cl s b cs:=by
 refine⟨h1,QU om,om,λi hi=>?_⟩;have:=congrArg (λl=>l.getD i .bad) h5;rw[JQ] at this;have hi':i<k:=om
 simpa[Qak,QbO,hi'] using this
theorem Cl.rats0 {s:St}{b k:Nat}{cs:List AV}(h:Cl s b cs)(hk:cs.length=k):Go.Sy.rats s.h b 0 k=cs:=ZV hk λi hi=>by rw[Qaj];exact h.cell i om
theorem Cl.ldA {s:St}{b k o:Nat}{cs:List AV}(h:Cl s b cs)(hk:0<k)(ho:o+k<=cs.length)(K:AV->St->Prop):jq (Q4 k (.ptr b o) s) K=K (.agg ((cs.drop o).take k)) s:=by
 rw[jhB hk (by rw[h.len];exact ho),h.ratsP k o ho]
end
section
variable {P:Program} {base:Bs} {st:St} {K:AV->St->Prop} {e:En}
theorem WG:∀ (z:List AV) (off:Nat) (vs:List AV),off+vs.length<=z.length->z.take off ++ (vs ++ z.drop (off+vs.length))=upd z off vs
 |[],off,vs,h=>by
  have hv:vs=[]:=QaX (by have h':off+vs.length<=0:=h;omega);subst hv;simp[upd]
 |c :: z,0,[],_=>rfl
 |c :: z,0,v :: vs,h=>by
  show v :: (vs ++ (c :: z).drop (0+(vs.length+1)))=v :: upd z 0 vs;rw[<-WG z 0 vs (by simp at h ⊢;omega)];simp
 |c :: z,off+1,vs,h=>by
  show c :: z.take off ++ (vs ++ (c :: z).drop (off+1+vs.length))=c :: upd z off vs;rw[<-WG z off vs (by simp at h;omega),show off+1+vs.length=(off+vs.length)+1 by omega];rfl
theorem jaZ {z:List AV}{off size:Nat}{v:AV}{ps:List ((Nat×Nat)×AV)}(h1:v.plain=true)(h2:v.cells.length=size)(h3:off+size<=z.length):YP z (((off,size),v) :: ps)=YP (upd z off v.cells) ps:=by
 have e1:Qcy (jQ v.cells) size=true:=YT (by rw[jM];exact h2);have e2:QcA (QcB off size) (jQ z)=true:=qw (by rw[jM];exact h3);have e3:yS (yj z off) (yS v.cells (zr z (QcB off size)))=upd z off v.cells:=by
  rw[yz,yz,qN,yR,<-WG z off v.cells om,h2];rfl
 show cond v.plain (cond (Qcy (jQ v.cells) size) (cond (QcA (QcB off size) (jQ z)) (YP (yS (yj z off) (yS v.cells (zr z (QcB off size)))) ps) none) none) none=_;rw[h1,e1,e2,e3];rfl
theorem jeh (z:List AV):jq (kd z [] st) K=K (.agg z) st:=nr rfl
theorem jeg {z:List AV}{off size:Nat}{v:AV}{ps:List ((Nat×Nat)×AV)}(h1:v.plain=true)(h2:v.cells.length=size)(h3:off+size<=z.length):jq (kd z (((off,size),v) :: ps) st) K=jq (kd (upd z off v.cells) ps st) K:=by
 unfold kd;rw[jaZ h1 h2 h3]
def bSV (len s:Nat)(z:List AV)(ps:List ((Nat×Nat)×AV))(st:St):ER:=jT (YP z ps) λcells=>
 cond (lall AV.cell cells) (force (jQ cells) λn=>st.alloc (.row n n cells .e) λb st=>.ok (.slice b 0 len len s true) st) .no
theorem jmM (len s:Nat)(z:List AV)(ps:List ((Nat×Nat)×AV)):jq (H7 len s z ps st) K=jq (bSV len s (zh z len) ps st) K:=nr rfl
theorem jhC {len s:Nat}{z:List AV}(h:lall AV.cell z=true):jq (bSV len s z [] st) K=K (.slice st.nx 0 len len s true) (nw st z):=by
 have e:YP z []=some z:=rfl;simp only[bSV,e,jT,h,cond_true,jF,jM,St.alloc_eq,jq];rfl
theorem jb5 {len s:Nat}{z:List AV}{off size:Nat}{v:AV}{ps:List ((Nat×Nat)×AV)}(h1:v.plain=true)(h2:v.cells.length=size)(h3:off+size<=z.length):jq (bSV len s z (((off,size),v) :: ps) st) K=jq (bSV len s (upd z off v.cells) ps st) K:=by
 unfold bSV;rw[jaZ h1 h2 h3]
theorem gR (z:List AV):zh z 0=[]:=nr rfl
theorem kN (z:List AV)(n:Nat):zh z (n+1)=z ++ zh z n:=nr (by first|rfl|(unfold zh;simp[yz]))
def Vv (e:En):List ((Nat×Nat)×A)->(F:List ((Nat×Nat)×AV)->Prop)->Res F
 |[],F=>F []
 |(p,a) :: l,F=>on1 e a λv=>Vv e l λvs=>F ((p,v) :: vs)
theorem Hv (e:En):∀ (l:List ((Nat×Nat)×A)) (F:List ((Nat×Nat)×AV)->Prop),Vv e l F=((l.map (·.2)).all (okA e)=true/\F (l.map λp=>(p.1,vl e p.2)))
 |[],F=>by simp[Vv]
 |(p,a) :: l,F=>by simp[Vv,Hv e l,on1,and_assoc]
theorem jdy (z:List AV)(ps:List ((Nat×Nat)×A)):wK P base (.i (.build z ps)) e st K=Vv e ps λvs=>jq (kd z vs st) K:=by
 rw[Hv];rfl
theorem jaU (len s:Nat)(z:List AV)(ps:List ((Nat×Nat)×A)):wK P base (.i (.buildS len s z ps)) e st K=Vv e ps λvs=>jq (H7 len s z vs st) K:=by
 rw[Hv];rfl
theorem jnJ (f:FuncId)(l:List A):wK P base (.i (.fn f l)) e st K=uf e l λvs=>K (.fn f vs) st:=by
 rw[WO];rfl
theorem jns (F:List ((Nat×Nat)×AV)->Prop):Vv e [] F=F []:=nr rfl
theorem jnr (p:Nat×Nat)(a:A)(l:List ((Nat×Nat)×A))(F:List ((Nat×Nat)×AV)->Prop):Vv e ((p,a) :: l) F=on1 e a λv=>Vv e l λvs=>F ((p,v) :: vs):=nr rfl
theorem jas (k:IntKind)(n:Int):(AV.int k n).plain=true:=nr rfl
theorem jap (l:Lt):(AV.str l).plain=true:=nr rfl
theorem gX (b:Bool):(AV.bool b).plain=true:=nr rfl
theorem Kr (b o n c z:Nat)(x:Bool):(AV.slice b o n c z x).plain=true:=nr rfl
theorem gV:AV.nils.plain=true:=nr rfl
theorem jaq (b o:Nat):(AV.ptr b o).plain=true:=nr rfl
theorem jat (cs:List AV):(AV.agg cs).plain=true:=nr rfl
theorem jeN (t:TypeId)(x:A):wK P base (.i (.iface t x)) e st K=on1 e x λv=>K (.iface t v) st:=k_1 (V:=λv st=>.ok (.iface t v) st) rfl (λ_=>rfl) K
end
def eqs:AV->Bool
 |.bool _=>true | .int _ _=>true | .str _=>true | .ptr _ _=>true | .nilp=>true | .slice _ _ _ _ _ _=>true | .nils=>true | .map _=>true | .nilm=>true | .nilf=>true | .nilif=>true | .lst _ _=>true | .xlst _ _=>true | .lptr _ _=>true
 |_=>false
theorem jmr (a:Int):eqI a a=true:=by cases a<;>simp[eqI]
theorem J1 (a:Nat):Qcy a a=true:=by rw[qP]
theorem UW (l:List AV):Wv l l=true:=by unfold Wv;exact @decide_eq_true _ (_) rfl
theorem UY {v:AV}(h:eqs v=true):Z0 v v=true:=by
 cases v<;>first|(cases h;done)|rfl|skip
 case bool b=>cases b<;>rfl
 case int k n=>show cond (eqK k k) (eqI n n) false=true;rw[XP,jmr];rfl
 case str s=>show Z7 s s=true;rw[Ql];simp
 case ptr b o=>show cond (Qcy b b) (Qcy o o) false=true;rw[J1,J1];rfl
 case slice b o n c z ex=>
  show cond (Qcy b b) (cond (Qcy o o) (cond (Qcy n n) (cond (Qcy c c) (cond (Qcy z z) (cond ex ex (cond ex false true)) false) false) false) false) false=true;rw[J1,J1,J1,J1,J1];cases ex<;>rfl
 case map r=>show Qcy r r=true;exact J1 r
 case lst n cs=>show cond (Qcy n n) (Wv cs cs) false=true;rw[J1,UW];rfl
 case xlst n cs=>show cond (Qcy n n) (Wv cs cs) false=true;rw[J1,UW];rfl
 case lptr cs n=>show cond (Qcy n n) (Wv cs cs) false=true;rw[J1,UW];rfl
theorem UX:∀ {l:List AV},l.all eqs=true->W0 l l=true
 |[],_=>rfl
 |v :: l,h=>by
  simp only[QaD,χ] at h;show cond (Z0 v v) (W0 l l) false=true;rw[UY h.1,UX h.2];rfl
theorem jjL {v:AV}(h:eqs v=true):jhe v v=true:=by
 cases v<;>first|(cases h;done)|exact UY h
section
variable {P:Program}
theorem Qz {t:TypeId}{b o:Nat}{v:AV}{h:T AO}(h1:Go.Ev.isAgg P t=some false)(h2:Go.Ev.sizeOf P t=some 1)(ho:o<qp h b)(hv:rat h b o=v)(hc:eqs v=true):qb P t (.ptr b o) v h=true:=by
 obtain⟨n,zl,z,cs,hg⟩:=QU (h:=h) (b:=b) om;rw[yB hg] at ho;rw[Jt hg] at hv;have e3:QcA (Qcz o) n=true:=qw ho;have e:(qZ P t).run (.ptr b o) h=some v:=by simp only[qZ,h1,h2,hg,e3,cond_true,hv]
 unfold qb;dsimp only;rw[e];exact jjL hc
theorem Zq {t:TypeId}{b o k:Nat}{cs:List AV}{h:T AO}(h1:Go.Ev.isAgg P t=some true)(h2:Go.Ev.sizeOf P t=some k)(hk:0<k)(ho:o+k<=qp h b)(hv:rats h b o k=cs)(hc:cs.all eqs=true):qb P t (.ptr b o) (.agg cs) h=true:=by
 obtain⟨n,zl,z,cs',hg⟩:=QU (h:=h) (b:=b) om;rw[yB hg] at ho;have e3:QcA (QcB o k) n=true:=qw ho;have e:(qZ P t).run (.ptr b o) h=some (.agg cs):=by
  simp only[qZ,h1,h2,hg,e3,cond_true];rw[<-hv,JQ,qi]
  congr 2
  refine QaS λi _=>?_;rw[Jt hg]
 unfold qb;dsimp only;rw[e];exact UX hc
def YM (P:Program)(t u:TypeId)(x y:TE):Bool:=
 match x,y with
 |.rd a v,.wr pre post=>qb P t a v pre && qb P t a v post
 |.rd _ _,.rd _ _=>false
 |.wr pre post,.rd a v=>qb P u a v pre && qb P u a v post
 |.wr _ _,.wr _ _=>false
 |_,_=>true
theorem h_0 (t:TypeId)(x:TE)(tb:List TE):(held P t x tb []=true)=True:=by simp[held]
theorem h_1 (t:TypeId)(x:TE)(tb:List TE)(k:Nat)(u:TypeId)(l:List (Nat×TypeId)):(held P t x tb ((k,u) :: l)=true)=(YM P t u x (yH .none tb k)=true/\held P t x tb l=true):=by
 have e:held P t x tb ((k,u) :: l)=cond (YM P t u x (yH .none tb k)) (held P t x tb l) false:=by
  show cond _ _ false=cond _ _ false
  congr 1
  unfold YM;cases x<;>cases yH TE.none tb k<;>first|rfl|(simp only[Bool.cond_eq_ite];split<;>simp[*])
 rw[e];cases YM P t u x (yH .none tb k)<;>simp
theorem jrZ (t u:TypeId)(a v:AV)(pre post:T AO):(YM P t u (.rd a v) (.wr pre post)=true)=(qb P t a v pre=true/\qb P t a v post=true):=by simp[YM]
theorem jrY (t u:TypeId)(a v:AV)(pre post:T AO):(YM P t u (.wr pre post) (.rd a v)=true)=(qb P u a v pre=true/\qb P u a v post=true):=by simp[YM]
theorem jr1 (t u:TypeId)(y:TE):(YM P t u .none y=true)=True:=by simp[YM]
theorem jr0 (t u:TypeId)(x:TE):(YM P t u x .none=true)=True:=by cases x<;>simp[YM]
theorem jrL (d x:TE)(l:List TE):yH d (x :: l) 0=x:=nr rfl
theorem jrK (d x:TE)(l:List TE)(n:Nat):yH d (x :: l) (n+1)=yH d l n:=nr rfl
theorem jq8 (e:En)(v:AV)(st st':St):teW none e v st st'=.none:=nr rfl
theorem jq7 (e:En)(v:AV)(st st':St):teW (some none) e v st st'=.wr st.h st'.h:=nr rfl
theorem jq6 (a:A)(e:En)(v:AV)(st st':St):teW (some (some a)) e v st st'=.rd (vl e a) v:=nr rfl
theorem jqR (e:En)(v:AV):vl e (.c v)=v:=nr rfl
theorem jqP (x:Nat)(v:AV)(l g:Sl):vl ⟨(x,v) :: l,g⟩ (.t x)=v:=by simp[vl,En.look,zk,En.has,Jf]
theorem jm3 {k x:Nat}(h:k≠x)(v:AV)(l g:Sl):vl ⟨(k,v) :: l,g⟩ (.t x)=vl ⟨l,g⟩ (.t x):=by simp[vl,En.look,zk,En.has,Jf,h]
theorem jqQ (x:Nat)(v:AV)(g:Sl):vl ⟨[],(x,v) :: g⟩ (.t x)=v:=by simp[vl,En.look,zk,En.has,Jf,has]
theorem jm4 {k x:Nat}(h:k≠x)(v:AV)(g:Sl):vl ⟨[],(k,v) :: g⟩ (.t x)=vl ⟨[],g⟩ (.t x):=by simp[vl,En.look,zk,En.has,Jf,has,h]
theorem He {L:Sl}{x:Nat}{v:AV}(h:Has L x v):vl ⟨[],L⟩ (.t x)=v:=by
 obtain⟨h1,h2⟩:=h;simp[vl,En.has,En.look,has,h2]
end
section
variable {P:Program} {base:Bs} {st:St} {K:AV->St->Prop} {e:En}
def Wp (sz:Nat)(v:AV)(lo hi:Option AV)(st:St):ER:=match v with
 |.nils=>optA lo 0 λl=>optA hi 0 λh=>cond (Qcy l 0) (cond (Qcy h 0) (.ok .nils st) .no) .no
 |.slice b o len cap sz' ex=>optA lo 0 λl=>optA hi len λh=>
  cond (Qcy sz' sz) (cond (QcA l h) (cond (QcA h cap) (force (QcD h l) λk=>force (QcB o (QcC l sz)) λo=>force (QcD cap l) λc=>.ok (.slice b o k c sz ex) st) .no) .no) .no
 |.lst n cs=>optA lo 0 λl=>optA hi n λh=>
  cond (QcA l h) (cond (QcA h n) (cond (QcA (QcC h sz) (jQ cs)) (.ok (.lst (QcD h l) (yj (zr cs (QcC l sz)) (QcC (QcD h l) sz))) st) .no) .no) .no
 |_=>.no
theorem jjd (sz:Nat)(x lo:A):wK P base (.i (.slS sz x (some lo) none)) e st K=on1 e x λv=>on1 e lo λl=>jq (Wp sz v (some l) none st) K:=k_2 (V:=λv l st=>Wp sz v (some l) none st) rfl (λ_=>rfl) K
theorem jjc (sz:Nat)(x hi:A):wK P base (.i (.slS sz x none (some hi))) e st K=on1 e x λv=>on1 e hi λh=>jq (Wp sz v none (some h) st) K:=k_2 (V:=λv h st=>Wp sz v none (some h) st) rfl (λ_=>rfl) K
theorem jjb (sz:Nat)(x lo hi:A):wK P base (.i (.slS sz x (some lo) (some hi))) e st K=on1 e x λv=>on1 e lo λl=>on1 e hi λh=>jq (Wp sz v (some l) (some h) st) K:=k_3 (V:=λv l h st=>Wp sz v (some l) (some h) st) rfl (λ_=>rfl) K
end
def ifW (p:Prop)(a b:Prop):Res (a,b):=(p->a)/\(¬ p->b)
theorem jb {b:Prop}(h1:p->a)(h2:¬ p->b):ifW p a b:=⟨h1,h2⟩
theorem Gx {b:Prop}(h:p):ifW p a b=a:=propext ⟨λk=>k.1 h,λk=>⟨λ_=>k,λn=>absurd h n⟩⟩
theorem Gy {b:Prop}(h:¬ p):ifW p a b=b:=propext ⟨λk=>k.2 h,λk=>⟨λn=>absurd n h,λ_=>k⟩⟩
section
variable {P:Program} {base:Bs} {st:St} {K Kp:AV->St->Prop} {e:En}
theorem jfM (q:Bool)(a b:Prop):Wb (.bool q) a b=ifW (q=true) a b:=by cases q<;>simp[Wb,ifW]
theorem jsE (q:Bool)(a b:Prop):onG (.bool q) true a b=ifW (q=true) a b:=by cases q<;>simp[onG,ifW]
theorem jsF (q:Bool)(a b:Prop):onG (.bool q) false a b=ifW (q=true) b a:=by cases q<;>simp[onG,ifW]
theorem jjY (q:Bool)(a b:AV):jq (jgE (.bool q) a b st) K=ifW (q=true) (K a st) (K b st):=by cases q<;>simp[jgE,wE,jq,ifW]
theorem jcw (a b:Lt):jq (KH .neq (.str a) (.str b) st) K=K (.bool (decide (a≠b))) st:=by
 simp only[KH,uJ,jT,jq,Ql];by_cases h:a=b
 .simp[h]
 .simp[h]
theorem jcx {a b:Lt}(h:a.length+b.length<=9223372036854775807):jq (KH .add (.str a) (.str b) st) K=K (.str (a ++ b)) st:=by
 have e1:QcA (QcB (jQ a) (jQ b)) 9223372036854775807=true:=by rw[qv,jM,jM];exact h
 simp only[KH,uJ,jT,jq,e1,cond_true,yz]
theorem XN {x:Int}(h1 : -9223372036854775808<=x)(h2:x<=9223372036854775807):qQ .i64 x=x:=by
 rw[JU];exact IntWalk.i64_in x ⟨h1,om⟩
theorem jib {a b:Int}(h1 : -9223372036854775808<=a+b)(h2:a+b<=9223372036854775807):jq (JC .add (.int .i64 a) (.int .i64 b) st) K=K (.int .i64 (a+b)) st:=by
 have:(Yy .add).run .i64 a b=some (.int .i64 (a+b)):=by show some (AV.int .i64 (qQ .i64 (a+b)))=_;rw[XN h1 h2]
 simp only[JC,XP,cond_true,this,jT,jq]
theorem jhP {a b:Int}(h1 : -9223372036854775808<=a - b)(h2:a - b<=9223372036854775807):jq (JC .sub (.int .i64 a) (.int .i64 b) st) K=K (.int .i64 (a - b)) st:=by
 have:(Yy .sub).run .i64 a b=some (.int .i64 (a - b)):=by show some (AV.int .i64 (qQ .i64 (a - b)))=_;rw[XN h1 h2]
 simp only[JC,XP,cond_true,this,jT,jq]
theorem jhY {a b:Int}(h1 : -9223372036854775808<=a * b)(h2:a * b<=9223372036854775807):jq (JC .mul (.int .i64 a) (.int .i64 b) st) K=K (.int .i64 (a * b)) st:=by
 have:(Yy .mul).run .i64 a b=some (.int .i64 (a * b)):=by show some (AV.int .i64 (qQ .i64 (a * b)))=_;rw[XN h1 h2]
 simp only[JC,XP,cond_true,this,jT,jq]
theorem jhX {a:Int}(h1 : -9223372036854775808<=-a)(h2 : -a<=9223372036854775807):jq (unV .neg (.int .i64 a) st) K=K (.int .i64 (-a)) st:=by
 have e:IntKind.i64.wrap (0 - a)=-a:=by rw[<-JU,XN om om];omega
 simp only[unV,YC,O,e,jq]
def biV (P:Program)(b:Builtin)(ts:Array TypeId)(l:List AV)(st:St):ER:=(qJ P b ts (l.map λv=>O v)).run E0 st
theorem jnO (b:Builtin)(ts:Array TypeId)(l:List A):wK P base (.i (.bi b ts l)) e st K=uf e l λvs=>jq (biV P b ts vs st) K:=by
 rw[WO];simp only[wK,wI,wR,jX,biV,Qbh];rfl
theorem jh1 (ts:Array TypeId)(k:IntKind)(a b:Int):jq (biV P .max ts [.int k a,.int k b] st) K=K (.int k (max a b)) st:=by
 have:(qJ P .max ts [O (.int k a),O (.int k b)]).run E0 st=jT (max2 (.int k a) (.int k b)) λv=>.ok v st:=by
  show jT (Xs max2 (.int k a) [.int k b]) _=_;unfold Xs;cases max2 (.int k a) (.int k b)<;>rfl
 show jq ((qJ P .max ts [O (.int k a),O (.int k b)]).run E0 st) K=_;rw[this];simp only[max2,XP,cond_true,jT,jq]
 congr 2
 rw[Yu];by_cases h:a<b
 .rw[decide_eq_true h,Int.max_eq_right om];rfl
 .rw[decide_eq_false h,Int.max_eq_left om];rfl
theorem jh0 (ts:Array TypeId)(k:IntKind)(a b:Int):jq (biV P .min ts [.int k a,.int k b] st) K=K (.int k (min a b)) st:=by
 have:(qJ P .min ts [O (.int k a),O (.int k b)]).run E0 st=jT (min2 (.int k a) (.int k b)) λv=>.ok v st:=by
  show jT (Xs min2 (.int k a) [.int k b]) _=_;unfold Xs;cases min2 (.int k a) (.int k b)<;>rfl
 show jq ((qJ P .min ts [O (.int k a),O (.int k b)]).run E0 st) K=_;rw[this];simp only[min2,XP,cond_true,jT,jq]
 congr 2
 rw[Yu];by_cases h:b<a
 .rw[decide_eq_true h,Int.min_eq_right om];rfl
 .rw[decide_eq_false h,Int.min_eq_left om];rfl
theorem jh3 (n:Nat)(cs:List AV):jq (lenV (.lst n cs) st) K=K (.int .i64 (n:Int)) st:=nr rfl
theorem jfa {k:IntKind}{i:Int}(h:0<=i)(F:Nat->ER):qD (.int k i) F=F i.toNat:=by
 obtain⟨n,rfl⟩:=QbF h;exact Hw
theorem jh5 {n:Nat}{cs:List AV}{i:Int}(h0:0<=i)(h:i<n)(s:Nat)(k:IntKind):jq (Ka s (.lst n cs) (.int k i) st) K=K (.lptr cs (i.toNat * s)) st:=by
 simp only[Ka,jfa h0];have:QcA (Qcz i.toNat) n=true:=by rw[qv];omega
 rw[this];rfl
theorem jh4 {b o n c z:Nat}{x:Bool}{i:Int}(h0:0<=i)(h:i<n)(s:Nat)(k:IntKind):jq (Ka s (.slice b o n c z x) (.int k i) st) K=K (.ptr b (o+i.toNat * s)) st:=by
 obtain⟨m,rfl⟩:=QbF h0;exact jqX om s k
theorem jnb {s:Lt}{i:Int}(h0:0<=i)(h:i<s.length)(k:IntKind):jq (Gv (.str s) (.int k i) st) K=K (.int .u8 ((s.getD i.toNat 0:Nat):Int)) st:=by
 obtain⟨m,rfl⟩:=QbF h0;exact joi om k
theorem jqW {k o:Nat}{cs:List AV}(h:o+k<=cs.length):jq (Q4 k (.lptr cs o) st) K=K (.agg ((cs.drop o).take k)) st:=by
 have:QcA (QcB o k) (jQ cs)=true:=by rw[qv,jM];exact h
 simp only[Q4,this,cond_true,jq,qN,yR]
theorem JD {o:Nat}{cs:List AV}(h:o<cs.length):jq (Xl (.lptr cs o) st) K=K (cs.getD o .bad) st:=by
 have:QcA (Qcz o) (jQ cs)=true:=by rw[qv,jM];exact h
 simp only[Xl,this,cond_true,jq,Jb]
theorem jh7 (off o:Nat)(cs:List AV):jq (jg3 off (.lptr cs o) st) K=K (.lptr cs (o+off)) st:=nr rfl
theorem jeM (o:Nat)(cs:List AV):jq (jgJ (.lptr cs o) st) K=K (.lptr cs o) st:=nr rfl
def fl {α:Type}(enc:α->List AV)(xs:List α):List AV:=xs.flatMap enc
theorem Xh {α:Type}(enc:α->List AV)(x:α)(xs:List α):fl enc (x :: xs)=enc x ++ fl enc xs:=rfl
theorem QH {α:Type}(enc:α->List AV)(xs ys:List α):fl enc (xs ++ ys)=fl enc xs ++ fl enc ys:=by simp[fl]
theorem Qf {α:Type}(enc:α->List AV)(x:α):fl enc [x]=enc x:=by simp[fl]
theorem zH {α:Type}{enc:α->List AV}{z:Nat}(hz:∀ x,(enc x).length=z):∀ xs:List α,(fl enc xs).length=xs.length * z
 |[]=>by simp[fl]
 |x :: xs=>by rw[Xh,ν,hz,zH hz xs,ξ,QaR,QbE]
theorem za {α:Type}{enc:α->List AV}(hp:∀ x,(enc x).all pc=true):∀ xs:List α,(fl enc xs).all pc=true
 |[]=>rfl
 |x :: xs=>by rw[Xh,QaY,hp,za hp xs];rfl
theorem HM {α:Type}{enc:α->List AV}{z:Nat}(hz:∀ x,(enc x).length=z):∀ (xs:List α) (i:Nat),(fl enc xs).drop (i * z)=fl enc (xs.drop i)
 |xs,0=>by simp
 |[],i+1=>by simp[fl]
 |x :: xs,i+1=>by
  rw[Xh,QaR,QbE,List.drop_append,List.drop_eq_nil_of_le (by rw[hz];omega),hz,Nat.add_sub_cancel_left,HM hz xs i];rfl
theorem jfx {α:Type}{enc:α->List AV}{z:Nat}(hz:∀ x,(enc x).length=z):∀ (xs:List α) (i:Nat),(fl enc xs).take (i * z)=fl enc (xs.take i)
 |xs,0=>by simp[fl]
 |[],i+1=>by simp[fl]
 |x :: xs,i+1=>by
  rw[Xh,QaR,QbE,List.take_append,Qcj (by rw[hz];omega),hz,Nat.add_sub_cancel_left,jfx hz xs i];rfl
theorem jgZ {α:Type}{enc:α->List AV}{z:Nat}(hz:∀ x,(enc x).length=z){xs:List α}{i:Nat}(h:i<xs.length):((fl enc xs).drop (i * z)).take z=enc xs[i]:=by
 rw[HM hz,QbW h,Xh,List.take_append,Qcj (by rw[hz];omega),hz,QbU,QaH,QaO]
theorem ur {α:Type}{enc:α->List AV}{z:Nat}(hz:∀ x,(enc x).length=z){xs:List α}{i:Nat}(h:i<xs.length){k:Nat}(hk:k<z):(fl enc xs).getD (i * z+k) .bad=(enc xs[i]).getD k .bad:=by
 rw[<-jgZ hz h];simp only[Qac,QbK,hk,if_true,QbL]
theorem gy {α:Type}{enc:α->List AV}{z:Nat}(hz:∀ x,(enc x).length=z){xs:List α}{i:Nat}(h:i<xs.length):jq (Q4 z (.lptr (fl enc xs) (i * z)) st) K=K (.agg (enc xs[i])) st:=by
 have:(i+1) * z<=xs.length * z:=Qav z h;rw[QaR] at this;rw[jqW (by rw[zH hz];omega),jgZ hz h]
theorem jcz {α:Type}{enc:α->List AV}{z:Nat}(hz:∀ x,(enc x).length=z){xs:List α}{i:Nat}(h:i<xs.length){k:Nat}(hk:k<z):jq (Xl (.lptr (fl enc xs) (i * z+k)) st) K=K ((enc xs[i]).getD k .bad) st:=by
 have:(i+1) * z<=xs.length * z:=Qav z h;rw[QaR] at this;rw[JD (by rw[zH hz];omega),ur hz h hk]
theorem jh6 {k:Nat}{cs:List AV}(h:k<cs.length):jq (jgY k (.agg cs) st) K=K (cs.getD k .bad) st:=by
 have:QcA (Qcz k) (jQ cs)=true:=by rw[qv,jM];exact h
 simp only[jgY,Q2,this,cond_true,jq,Jb]
theorem jeP (k n:Nat)(cs:List AV):jq (jgX k n (.agg cs) st) K=K (.agg ((cs.drop k).take n)) st:=by
 simp only[jgX,Q2,jq,qN,yR]
theorem Hk (l:List AV):l.take 0=[]:=rfl
theorem Hj (a:AV)(l:List AV)(n:Nat):(a :: l).take (n+1)=a :: l.take n:=rfl
theorem HX (l:List AV):l.drop 0=l:=rfl
theorem jsj (a:AV)(l:List AV)(n:Nat):(a :: l).drop (n+1)=l.drop n:=rfl
theorem Cl.rw_ {b:Nat}{cs:List AV}(C:Cl st b cs):Rw st.h b cs:=by
 obtain⟨n,zl,z,c,hg⟩:=C.row;have hl:=C.len;rw[yB hg] at hl;refine⟨n,zl,z,c,hg,?_⟩;rw[qi];apply Qbm
 .simp[hl]
 .intro i h1 h2;have:=C.cell i h2;rw[Jt hg] at this;simp only[QbR,List.getElem_range,Qaj,this];simp[Qac,Qaf h2]
end
section
variable {P:Program} {base:Bs}
theorem Hy (cs:List AV):ZX cs=nw st0 cs:=by unfold ZX nw;rw[jM];rfl
def G0 (u v:AV)(s:St):Prop:=FzD 0 9 s v u
def G1 (n:Nat)(c':List AV)(u v:AV)(s:St):Prop:=FzD 1 9 s v u/\∃ c2,Rw s.h 0 c2/\c2.length=n/\FzsD 1 9 s c2 c'
theorem jE {f:FuncId}{F:XF}(hl:jy P f=some F)(hnd:F.body.nd=true)(hm:base.pur f=1){aZ:List AV}{o:Oc}
  (h:xC P base F.body (jr F.ps aZ) st0 (XQ P F.res (Yg G0 o)) λv _ s=>X8 G0 o v s.bare):PX P base f aZ o:=
 PX.of hm (Y2 hl hnd h)
theorem qe {f:FuncId}{F:XF}(hl:jy P f=some F)(hnd:F.body.nd=true)(hm:base.pur f=3){c aZ:List AV}(hc:c.all pc=true){o:Oc}{c':List AV}
  (h:xC P base F.body (jr F.ps (.ptr 0 0 :: aZ)) (nw st0 c) (XQ P F.res (Yg (G1 c.length c') o)) λv _ s=>X8 (G1 c.length c') o v s.bare):PM P base f c aZ o c':=by
 rw[<-Hy] at h;exact PM.of hm hc (Y2 hl hnd h)
theorem PM.xbk {f:FuncId}{c aZ aZ':List AV}{ks:Lt}{o:Oc}{c':List AV}(h:PM P base f c aZ o c'){st:St}{p:Nat}(C:Cl (kills ks st) p c)(hf:fzs (fz 9 st.h) aZ'=some (aZ,ks))(hp:aZ.all pa=true)(hb:∀ st,base.run f (.ptr p 0 :: aZ') st=.no)(K Kp:AV->St->Prop) :
  XB P base f (.ptr p 0 :: aZ') st K Kp=YZ o K Kp (wr (kills ks st) p 0 c'):=by
 obtain⟨N,D,h⟩:=h;have e0:∀ n,N<=n->∀ d,D<=d->evC P base n d f (.ptr p 0 :: aZ') st=o.er (wr (kills ks st) p 0 c'):=λn hn d hd=>by
  rw[h n hn d hd st p aZ' ks C.rw_ hf hp hb]
  congr 1
 refine propext ⟨λ⟨r,⟨N2,D2,h2⟩,h3⟩=>?_,λh3=>⟨_,⟨N,D,e0⟩,?_⟩⟩
 .have e1:=e0 (max N N2) (Qap ..) (max D D2) (Qap ..);have e2:=h2 (max N N2) (Qaq ..) (max D D2) (Qaq ..);rw[e1] at e2;rw[<-e2] at h3;cases o<;>exact h3
 .cases o<;>exact h3
theorem PM.xb {f:FuncId}{c aZ:List AV}{o:Oc}{c':List AV}(h:PM P base f c aZ o c'){st:St}{p:Nat}(C:Cl st p c)(hp:aZ.all pa=true)(hb:∀ st,base.run f (.ptr p 0 :: aZ) st=.no)(K Kp:AV->St->Prop) :
 XB P base f (.ptr p 0 :: aZ) st K Kp=YZ o K Kp (wr st p 0 c'):=h.xbk (ks:=[]) C (GB (d:=7) hp) hp hb K Kp
theorem JH (v:AV)(K Kp:AV->St->Prop)(st:St):YZ (.ok v) K Kp st=K v st:=nr rfl
theorem jgH (v:AV)(K Kp:AV->St->Prop)(st:St):YZ (.pn v) K Kp st=Kp v st:=nr rfl
theorem jjN (G:AV->AV->St->Prop)(u v:AV)(s:St):Yg G (.ok u) v s=G u v s:=nr rfl
theorem jiP (G:AV->AV->St->Prop)(u v:AV)(s:St):X8 G (.pn u) v s=G u v s:=nr rfl
def jgu (b b2:Nat)(J:Sl->St->Prop)(Q:Out->Prop):Out->Res (J,Q)
 |.go L s=>J L s
 |.ex i L s=>cond (Qcy i b2) (J L s) (cond (Qcy i b) (Q (.go L s)) (Q (.ex i L s)))
 |.rt L s=>Q (.rt L s)
theorem jrw (b b2:Nat)(J:Sl->St->Prop)(Q:Out->Prop)(L:Sl)(s:St):jgu b b2 J Q (.go L s)=J L s:=nr rfl
theorem jrv (b b2:Nat)(J:Sl->St->Prop)(Q:Out->Prop)(L:Sl)(s:St):jgu b b2 J Q (.rt L s)=Q (.rt L s):=nr rfl
theorem jlQ (b b2:Nat)(J:Sl->St->Prop)(Q:Out->Prop)(i:Nat)(L:Sl)(s:St):jgu b b2 J Q (.ex i L s)=cond (Qcy i b2) (J L s) (cond (Qcy i b) (Q (.go L s)) (Q (.ex i L s))):=nr rfl
theorem hsX {p:Prop}(h:p:=by first|assumption|(simp(disch:=decide) only[jm,ju];done)|(simp(disch:=decide) only[jm];assumption)):p:=h
theorem jV {b b2 i n c d:Nat}{body:XC}{L:Sl}{st:St}{Q:Out->Prop}{Kp:AV->Sl->St->Prop}(N:Nat)(I:Nat->Sl->St->Prop)(h0:I 0 L st)
  (step:∀ k L s,k<N->I k L s->Has L i (.int .i64 (k:Int))->Has L n (.int .i64 (N:Int))->WB (xC P base body L s (jgu b b2 (λL' s'=>I (k+1) L' s'/\Has L' i (.int .i64 (k:Int))/\Has L' n (.int .i64 (N:Int))) Q) Kp))
  (fin:∀ L s,I N L s->WB (Q (.go L s))) (hN:N<=4611686018427387904:=by first|assumption|omega) (hne:c≠i/\c≠n/\i≠n/\d≠i/\b≠b2:=by decide)
  (hi:Has L i (.int .i64 0):=by exact hsX) (hn:Has L n (.int .i64 (N:Int)):=by exact hsX) (hc:∀ k L s v,I k L s->I k ((c,v) :: L) s:=by intro k L s v h;simp(disch:=decide) only[jm];exact h) (hI:∀ k L s v,I k L s->I k ((i,v) :: L) s:=by intro k L s v h;simp(disch:=decide) only[jm];exact h) :
  xC P base (.loop (.seq (.ops [⟨some c,true,none,.i (.bin .lss (.t i) (.t n))⟩]) (.seq (.cond (.t c) .skip (.exit b)) (.seq (.block b2 body) (.ops [⟨some d,false,none,.i (.bin .add (.t i) (.c (.int .i64 1)))⟩,⟨some i,true,none,.i (.mv (.t d))⟩]))))) L st (yM b Q) Kp:=by
 obtain⟨n1,n2,n3,n4,n5⟩:=hne;refine yA (λm L s=>∃ k,k<=N/\m=N - k/\I k L s/\Has L i (.int .i64 (k:Int))/\Has L n (.int .i64 (N:Int))) ?_ N ⟨0,Qaa _,rfl,h0,hi,hn⟩;rintro m L s ⟨k,hk,rfl,hk',h1,h2⟩;unfold WB;simp only[jbj,jbk,kB,x_i,jbP,ja h1,ja h2,jgl,jbl,kQ,vR,jcp,jgA];by_cases hlt:k<N
 .rw[decide_eq_true om,joH,jck,vR,jbj,kC];refine jeJ _ _ _ _ _ (step k ((c,.bool true) :: L) s hlt (hc k L s _ hk') (by rw[jm n1];exact h1) (by rw[jm n2];exact h2)) λo ho=>?_;have go:∀ L' s',(I (k+1) L' s'/\Has L' i (.int .i64 (k:Int))/\Has L' n (.int .i64 (N:Int)))->xO P base [⟨some d,false,none,.i (.bin .add (.t i) (.c (.int .i64 1)))⟩,⟨some i,true,none,.i (.mv (.t d))⟩] ⟨[],L'⟩ s' (λe st'=>Yk (λL' st'=>∃ k',k'<N - k/\∃ k,k<=N/\k'=N - k/\I k L' st'/\Has L' i (.int .i64 (k:Int))/\Has L' n (.int .i64 (N:Int))) (yM b Q) (.go e.g st')) Kp:=by
   intro L' s' ⟨h3,h4,h5⟩;simp only[kB,x_i,jbP,ja h4,jgB,jqY (show k+1<=9223372036854775807 by omega),Hs,jmj,jgz,jbl,kQ,vR];refine⟨N - (k+1),om,k+1,om,rfl,hI _ _ _ _ h3,Has.here _ _ _,by rw[jm n3];exact h5⟩
  cases o with
  |go L' s'=>exact go L' s' ho
  |rt L' s'=>exact ho
  |ex q L' s'=>
   rw[jlQ] at ho;cases hq:Qcy q b2
   .rw[hq] at ho;have e1:yM b2 (Yk (λL' st'=>xC P base (.ops [⟨some d,false,none,.i (.bin .add (.t i) (.c (.int .i64 1)))⟩,⟨some i,true,none,.i (.mv (.t d))⟩]) L' st' (Yk (λL' st'=>∃ k',k'<N - k/\∃ k,k<=N/\k'=N - k/\I k L' st'/\Has L' i (.int .i64 (k:Int))/\Has L' n (.int .i64 (N:Int))) (yM b Q)) Kp) (Yk (λL' st'=>∃ k',k'<N - k/\∃ k,k<=N/\k'=N - k/\I k L' st'/\Has L' i (.int .i64 (k:Int))/\Has L' n (.int .i64 (N:Int))) (yM b Q))) (.ex q L' s')=yM b Q (.ex q L' s'):=by
     simp only[yM,hq,cond_false,Yk]
    show yM b2 _ _;rw[e1];exact ho
   .rw[hq] at ho;have:=go L' s' ho;show yM b2 _ _;simp only[yM,hq,cond_true,vR,jbk];exact this
 .have hkN:k=N:=om
  rw[decide_eq_false om,joI,jcm,kP,kP];subst hkN;show yM b Q (.ex b _ s);rw[Uw];exact fin _ _ (hc _ _ _ _ hk')
theorem Wf (n:Nat)(cs:List AV):(AV.lst n cs).cells=[.lst n cs]:=nr rfl
theorem jdm (n:Nat)(cs l:List AV):lall AV.cell (.lst n cs :: l)=lall AV.cell l:=nr rfl
theorem jar (n:Nat)(cs:List AV):(AV.lst n cs).plain=true:=nr rfl
theorem yu:st0.nx=0:=nr rfl
theorem jiu (P:Program)(t:TypeId)(cs:List AV)(o:Nat)(v:AV)(h:T AO):(qb P t (.lptr cs o) v h=true)=True:=by simp[qb]
theorem G0.v {u v:AV}{s:St}(h:v=u)(hp:pa v=true):G0 u v s:=by subst h;exact FzD.pa hp
theorem jfr (p:Prop):WB p=p:=nr rfl
theorem jiL:zU []=.tup []:=nr rfl
theorem Hg:∀ {c c':List AV},c'.length=c.length->upd c 0 c'=c'
 |[],[],_=>rfl
 |[],_ :: _,h=>by simp at h
 |_ :: _,[],h=>by simp at h
 |_ :: c,v :: c',h=>by rw[Zj,Hg (by simpa using h)]
theorem ZO {c c':List AV}(h:c'.length=c.length):upd c 0 c'=c':=Hg h
theorem Cl.wr0 {s:St}{b:Nat}{c c':List AV}(C:Cl s b c)(h:c'.length=c.length):Cl (Go.Sy.wr s b 0 c') b c':=by
 have:=C.wr 0 c';rwa [Hg h] at this
theorem G1.done {s:St}{n:Nat}{c':List AV}{u v:AV}(C:Cl s 0 c')(hl:c'.length=n)(hp:c'.all pc=true)(hv:FzD 1 9 s v u):G1 n c' u v s:=
 ⟨hv,c',C.rw_,hl,FzsD.pc hp⟩
theorem FzD.u {m d:Nat}{s:St}:FzD m (d+1) s (.tup []) (.tup []):=FzD.tup FzsD.nil
abbrev Met (P:Program)(base:Bs)(f:FuncId)(c xs:List AV)(o:Oc)(c':List AV):Prop:=∀ {st:St} {p:Nat},Cl st p c->∀ K Kp,XB P base f (.ptr p 0 :: xs) st K Kp=YZ o K Kp (wr st p 0 c')
theorem PM.met {f:FuncId}{c xs:List AV}{o:Oc}{c':List AV}(h:PM P base f c xs o c')(hp:xs.all pa=true)(hb:∀ p st,base.run f (.ptr p 0 :: xs) st=.no):Met P base f c xs o c':=λC K Kp=>h.xb C hp (hb _) K Kp
theorem WC {f:FuncId}{xs:List AV}{st:St}{v:AV}{st':St}(h:base.run f xs st=.ok v st')(K Kp:AV->St->Prop):XB P base f xs st K Kp=K v (back st st'):=by
 have e0:∀ n,0<=n->∀ d,1<=d->evC P base n d f xs st=.ok v st':=λn _ d hd=>by
  obtain⟨d',rfl⟩:∃ d',d=d'+1:=⟨d - 1,om⟩;simp only[evC,h]
 refine propext ⟨λ⟨r,⟨N2,D2,h2⟩,h3⟩=>?_,λh3=>⟨_,⟨0,1,e0⟩,h3⟩⟩;have e1:=e0 N2 (Qaa _) (max 1 D2) (Qap ..);have e2:=h2 N2 (μ _) (max 1 D2) (Qaq ..);rw[e1] at e2;rw[<-e2] at h3;exact h3
def cvV (P:Program)(s d:TypeId)(v:AV)(st:St):ER:=(Qo P s d (O v)).run E0 st
theorem jjn {e:En}{st:St}{K:AV->St->Prop}(s d:TypeId)(x:A):wK P base (.i (.conv s d x)) e st K=on1 e x λv=>jq (cvV P s d v st) K:=k_1 rfl (λ_=>rfl) K
theorem jpm {st:St}{K:AV->St->Prop}{s d e:TypeId}(h1:P.underlying s=some .string)(h2:P.underlying d=some (.slice e))(h3:P.underlying e=some (.int .u8))(l:Lt) :
  jq (cvV P s d (.str l) st) K=K (.slice st.nx 0 l.length l.length 1 false) (nw st (l.map λ(c:Nat)=>.int .u8 (c:Int))):=by
 simp only[cvV,Qo,h1,h2,h3,O,Jl,jM,jF,St.alloc_eq,jq];unfold nw;rw[Qad,yV];rfl
theorem jiD {st:St}(x k:Nat)(l:List RV)(L:Sl)(F:List AV->Prop):yJ P (.cA x k :: l) L st F=on1 ⟨[],L⟩ (.t x) λv=>jq (Q4 k v st) λu _=>yJ P l L st λvs=>F (u :: vs):=by
 simp only[yJ,jcP,on1,okA,vl,En.has,En.look,has,cond_false];rfl
theorem je3 {st:St}(x:Nat)(l:List RV)(L:Sl)(F:List AV->Prop):yJ P (.c1 x :: l) L st F=on1 ⟨[],L⟩ (.t x) λv=>jq (Xl v st) λu _=>yJ P l L st λvs=>F (u :: vs):=by
 simp only[yJ,jcP,on1,okA,vl,En.has,En.look,has,cond_false];rfl
def jbt (n sz:Nat)(v:AV)(st:St):ER:=yi v λb o=>optA none 0 λl=>optA none n λh=>
 cond (QcA l h) (cond (QcA h n)
  (force (QcD h l) λk=>force (QcB o (QcC l sz)) λo=>force (QcD n l) λc=>.ok (.slice b o k c sz true) st) .no) .no
theorem jje {e:En}{st:St}{K:AV->St->Prop}(n sz:Nat)(x:A):wK P base (.i (.slA n sz x none none)) e st K=on1 e x λv=>jq (jbt n sz v st) K:=k_1 (V:=λv st=>jbt n sz v st) rfl (λ_=>rfl) K
theorem jhV {st:St}{K:AV->St->Prop}(b n sz:Nat):jq (jbt n sz (.ptr b 0) st) K=K (.slice b 0 n n sz true) st:=by
 have e1:QcA 0 n=true:=qw (Qaa _);have e2:QcA n n=true:=qw (μ _);have e3:QcB 0 (QcC 0 sz)=0:=by show 0+0 * sz=0;omega
 have e4:QcD n 0=n:=rfl;simp only[jbt,yi,optA,e1,e2,e3,e4,cond_true,jF,jq]
theorem jeO {st:St}{K:AV->St->Prop}{b n s:Nat}{i:Int}(h0:0<=i)(h:i<n)(k:IntKind):jq (jgS n s (.ptr b 0) (.int k i) st) K=K (.ptr b (i.toNat * s)) st:=by
 have e1:QcA (Qcz i.toNat) n=true:=qw om;have e2:QcB 0 (QcC i.toNat s)=i.toNat * s:=Qaj _;simp only[jgS,yi,jfa h0,e1,e2,cond_true,jF,jq]
theorem jhU {st:St}{K:AV->St->Prop}{l:Lt}{i:Int}(h0:0<=i)(h:i<=l.length)(k:IntKind):jq (JV (.str l) (some (.int k i)) none st) K=K (.str (l.drop i.toNat)) st:=by
 obtain⟨m,rfl⟩:=QbF h0;exact js8 om k
theorem jhT {st:St}{K:AV->St->Prop}{l:Lt}{i:Int}(h0:0<=i)(h:i<=l.length)(k:IntKind):jq (JV (.str l) none (some (.int k i)) st) K=K (.str (l.take i.toNat)) st:=by
 obtain⟨m,rfl⟩:=QbF h0;exact js7 om k
theorem jhS {st:St}{K:AV->St->Prop}{l:Lt}{i j:Int}(h0:0<=i)(h1:i<=j)(h:j<=l.length)(k k':IntKind):jq (JV (.str l) (some (.int k i)) (some (.int k' j)) st) K=K (.str ((l.drop i.toNat).take (j - i).toNat)) st:=by
 obtain⟨m,rfl⟩:=QbF h0;obtain⟨n,rfl⟩:=QbF (show 0<=j by omega);rw[js6 om om]
 congr 3
 omega
theorem jgf {f:FuncId}{xs:List AV}{st s:St}{v:AV}(h:∀ K Kp,K v s->XB P base f xs st K Kp)(K Kp:AV->St->Prop):XB P base f xs st K Kp=K v s:=by
 refine propext ⟨λ⟨r2,⟨N2,D2,h2⟩,h3⟩=>?_,h K Kp⟩;obtain⟨r,⟨N,D,h1⟩,h4⟩:=h (λv' s'=>v'=v/\s'=s) (λ_ _=>False) ⟨rfl,rfl⟩;have e1:=h1 (max N N2) (Qap ..) (max D D2) (Qap ..);have e2:=h2 (max N N2) (Qaq ..) (max D D2) (Qaq ..);rw[e1] at e2;subst e2;cases r with
 |no=>exact h4.elim
 |pn v s=>exact h4.elim
 |ok v' s'=>
  obtain⟨rfl,rfl⟩:=h4;exact h3
theorem jfN (st:St):bk st st.bare=st:=nr rfl
theorem jd9 (st:St):back st st.bare=st:=nr rfl
def fi {α:Type}(q:α->Bool):List α->Int
 |[]=>-1
 |x :: xs=>if q x=true then 0 else if fi q xs<0 then -1 else fi q xs+1
theorem u7 {α:Type}{q:α->Bool}:∀ {xs:List α} {k:Nat} (h:k<xs.length),(∀ j (hj:j<k),q (xs[j]'(om))=false)->q xs[k]=true->fi q xs=k
 |x :: xs,0,h,h0,hk=>by simp only[QbG] at hk;simp[fi,hk]
 |x :: xs,k+1,h,h0,hk=>by
  have:=u7 (xs:=xs) (k:=k) (by simpa using h) (λj hj=>by have:=h0 (j+1) om;simpa only[QbX] using this) (by simpa only[QbX] using hk);have h1:=h0 0 om;simp only[QbG] at h1;simp only[fi,h1,this];simp;omega
theorem u6 {α:Type}{q:α->Bool}:∀ {xs:List α},(∀ j (hj:j<xs.length),q xs[j]=false)->fi q xs=-1
 |[],_=>rfl
 |x :: xs,h=>by
  have h1:=h 0 hac;simp only[QbG] at h1;have:=u6 (xs:=xs) λj hj=>by have:=h (j+1) (by simpa using hj);simpa only[QbX] using this
  simp[fi,h1,this]
theorem Cl.cv {s:St}{b:Nat}{c c':List AV}(h:Cl s b c)(e:c=c'):Cl s b c':=e▸h
theorem jB {s:St}{b c o:Nat}{vs cs:List AV}(h:c≠b):Cl (wr s b o vs) c cs=Cl s c cs:=
 propext ⟨λC=>⟨C.lt,JI (zN h).symm C.row,(yU (zN h).symm).trans C.len,λi hi=>(yK (zN h).symm i).trans (C.cell i hi)⟩,λC=>C.wrO h o vs⟩
theorem jD {s:St}{c:Nat}{ds cs:List AV}(h:c<s.nx):Cl (nw s ds) c cs=Cl s c cs:=
 propext ⟨λC=>⟨h,JI (q8 (Qbg h)).symm C.row,(yU (q8 (Qbg h)).symm).trans C.len,λi hi=>(yK (q8 (Qbg h)).symm i).trans (C.cell i hi)⟩,λC=>C.nw ds⟩
theorem jz {s:St}{c:Nat}{cs:List AV}:Cl s.bare c cs=Cl s c cs:=propext ⟨λh=>⟨h.lt,h.row,h.len,h.cell⟩,λh=>⟨h.lt,h.row,h.len,h.cell⟩⟩
end
theorem gq {a b:List AV}(h:a=b)(k:Nat):a.getD k .bad=b.getD k .bad:=by rw[h]
theorem gd {a b:List AV}(h:a=b)(k:Nat):a.drop k=b.drop k:=by rw[h]
abbrev FR {α:Type}(enc:α->List AV)(z:Nat):Prop:=(∀ {st:St} {K:AV->St->Prop} {xs:List α} {i:Nat} (h:i<xs.length),jq (Q4 z (.lptr (fl enc xs) (i * z)) st) K=K (.agg (enc xs[i])) st)/\(∀ {st:St} {K:AV->St->Prop} {xs:List α} {i:Nat} (h:i<xs.length),jq (Xl (.lptr (fl enc xs) (i * z)) st) K=K ((enc xs[i]).getD 0 .bad) st)/\∀ {st:St} {K:AV->St->Prop} {xs:List α} {i:Nat} (h:i<xs.length) {k:Nat} (hk:k<z),jq (Xl (.lptr (fl enc xs) (i * z+k)) st) K=K ((enc xs[i]).getD k .bad) st
theorem frE {α:Type}{enc:α->List AV}{z:Nat}(hl:∀ x,(enc x).length=z)(hz:0<z:=by decide):FR enc z:=⟨λh=>gy hl h,λh=>jcz (k:=0) hl h hz,λh _ hk=>jcz hl h hk⟩
def Lv (lo hi:Nat)(s:St)(v:AV)(n:Nat)(cs:List AV)(z:Nat):Prop:=(v=.nils/\n=0/\cs=[])\/∃ b,v=.slice b 0 n n z false/\0<n/\cs.length=n * z/\Cl s b cs/\lo<=b/\b<hi
def aps (v:AV)(s:St)(news:List AV):St:=match v with | .slice b _ _ _ _ _=>ap s b news|_=>nw s news
def apv (z:Nat)(v:AV)(s:St):AV:=match v with | .slice _ _ n _ _ _=>.slice s.nx 0 (n+1) (n+1) z false|_=>.slice s.nx 0 1 1 z false
section
variable {lo hi n z:Nat} {s:St} {v:AV} {cs:List AV}
theorem Lv.nil:Lv lo hi s .nils 0 [] z:=.inl ⟨rfl,rfl,rfl⟩
theorem jA {b o:Nat}{vs:List AV}(h:b<lo\/hi<=b):Lv lo hi (wr s b o vs) v n cs z=Lv lo hi s v n cs z:=by
 unfold Lv;refine propext ⟨λk=>k.imp id λ⟨c,h1,h2,h3,h4,h5,h6⟩=>⟨c,h1,h2,h3,?_,h5,h6⟩,λk=>k.imp id λ⟨c,h1,h2,h3,h4,h5,h6⟩=>⟨c,h1,h2,h3,?_,h5,h6⟩⟩
 .rwa [jB om] at h4
 .rwa [jB om]
theorem jG {ds:List AV}(h:hi<=s.nx):Lv lo hi (nw s ds) v n cs z=Lv lo hi s v n cs z:=by
 unfold Lv;refine propext ⟨λk=>k.imp id λ⟨c,h1,h2,h3,h4,h5,h6⟩=>⟨c,h1,h2,h3,?_,h5,h6⟩,λk=>k.imp id λ⟨c,h1,h2,h3,h4,h5,h6⟩=>⟨c,h1,h2,h3,?_,h5,h6⟩⟩
 .rwa [jD om] at h4
 .rwa [jD om]
theorem jH:Lv lo hi s.bare v n cs z=Lv lo hi s v n cs z:=by unfold Lv;simp only[jz]
theorem Lv.up {hi':Nat}(h:Lv lo hi s v n cs z)(h2:hi<=hi'):Lv lo hi' s v n cs z:=h.imp id λ⟨c,h1,h2,h3,h4,h5,h6⟩=>⟨c,h1,h2,h3,h4,h5,om⟩
theorem jp (v:AV)(s:St)(news:List AV):(aps v s news).nx=s.nx+1:=by unfold aps;split<;>rfl
theorem Yw (v:AV)(s:St)(news:List AV):(aps v s news).fr=s.fr:=by unfold aps;split<;>rfl
theorem Lv.app {news:List AV}(h:Lv lo hi s v n cs z)(hl:news.length=z)(h1:lo<=s.nx):Lv lo (s.nx+1) (aps v s news) (apv z v s) (n+1) (cs ++ news) z:=by
 rcases h with ⟨rfl,rfl,rfl⟩|⟨b,rfl,h2,h3,h4,h5,h6⟩
 .exact .inr ⟨s.nx,rfl,om,by simp[hl],Cl.new s news,h1,om⟩
 .exact .inr ⟨s.nx,rfl,om,by rw[ν,h3,hl,QaR],h4.ap news,h1,om⟩
theorem Cl.apO {s:St}{b c:Nat}{cs vs:List AV}(h:Cl s c cs)(hb:c≠b):Cl (Go.Sy.ap s b vs) c cs:=
 have e:jv (Go.Sy.ap s b vs).h c=jv s.h c:=WX (Qbg h.lt) hb
 ⟨Nat.lt_succ_of_lt h.lt,JI e h.row,(yU e).trans h.len,λi hi=>(yK e i).trans (h.cell i hi)⟩
theorem Cl.aps {c:Nat}{ds news:List AV}(C:Cl s c ds)(h:Lv lo hi s v n cs z)(hc:c<lo\/hi<=c):Cl (Go.Sy.aps v s news) c ds:=by
 rcases h with ⟨rfl,rfl,rfl⟩|⟨b,rfl,h2,h3,h4,h5,h6⟩
 .exact C.nw news
 .exact C.apO (b:=b) om
theorem Lv.aps {lo' hi' n' z':Nat}{v':AV}{cs' news:List AV}(V:Lv lo' hi' s v' n' cs' z')(h:Lv lo hi s v n cs z)(hc:hi'<=lo\/hi<=lo'):Lv lo' hi' (Go.Sy.aps v s news) v' n' cs' z':=
 V.imp id λ⟨c,h1,h2,h3,h4,h5,h6⟩=>⟨c,h1,h2,h3,h4.aps h om,h5,h6⟩
theorem Lv.fz {m d:Nat}(h:Lv lo hi s v n cs z)(hm:m<=lo)(hp:cs.all pc=true):FzD m (d+2) s v (.lst n cs):=by
 rcases h with ⟨rfl,rfl,rfl⟩|⟨b,rfl,h2,h3,h4,h5,h6⟩
 .exact FzD.nils
 .refine FzD.slice h4.rw_ (QaM h3.symm) om ?_;rw[<-h3,Qab];exact FzsD.pc hp
variable {K:AV->St->Prop}
theorem JK {bytes bv xc:Nat}{xx:Bool}(h:Lv lo hi s v n cs z)(hz:0<z)(hby:(n+1) * bytes<=140737488355328)(h63:n+1<=9223372036854775807)(hv:z<=qp s.h bv) :
  jq (zJ z bytes v (.slice bv 0 1 xc z xx) s) K=K (apv z v s) (aps v s (rats s.h bv 0 z)):=by
 obtain⟨m,zl,zz,ks,hg⟩:=QU (h:=s.h) (b:=bv) om;rw[yB hg] at hv;have e0:QcC 1 z=z:=QbD z;have e1:QcA (QcB 0 z) m=true:=qw (by show 0+z<=m;omega);have er:jP zl zz ks z 0=rats s.h bv 0 z:=by
  rw[JQ,qi];exact QaS λi _=>by rw[Jt hg]
 have el:(rats s.h bv 0 z).length=z:=Qn _ _ _ _;have e3:Qcy (jQ (rats s.h bv 0 z)) z=true:=YT (by rw[jM,el]);rcases h with ⟨rfl,rfl,rfl⟩|⟨b,rfl,h2,h3,h4,h5,h6⟩
 .have e4:Qcy 1 0=false:=rfl;have e5:QcA (QcC 1 bytes) 140737488355328=true:=qw (by show 1 * bytes<=_;omega);have e6:QcA 1 9223372036854775807=true:=qw dc;simp only[zJ,zF,firstCells,hg,yh,jF,e0,e1,cond_true,er,q7,e3,e4,cond_false,e5,e6,St.alloc_eq,jq];unfold apv Go.Sy.aps nw;rw[el]
 .obtain⟨m',zl',zz',ks',hg'⟩:=h4.row;have h4l:=h4.len;rw[yB hg'] at h4l;have e4:QcA (QcB n 1) n=false:=jb2 (Qbf _);have e5:QcA (QcC (QcB n 1) bytes) 140737488355328=true:=qw hby;have e6:QcA (QcB n 1) 9223372036854775807=true:=qw h63;have e7:Qcy z z=true:=YT rfl;have e8:Qcy 0 0=true:=rfl;have e9:Qcy (QcC n z) m'=true:=YT (by rw[h4l,h3];rfl);simp only[zJ,zF,firstCells,hg,yh,jF,e0,e1,cond_true,er,q7,e3,hg',e4,cond_false,e5,e6,e7,e8,e9,St.put_eq,St.alloc_eq,jq];have e10:QcC (QcB n 1) z=m'+(rats s.h bv 0 z).length:=by rw[el,h4l,h3];exact QaR n z
  rw[e10];have ea:ap s b (rats s.h bv 0 z)=⟨s.nx+1,(qh (jO s.nx)).run (.row (m'+(rats s.h bv 0 z).length) zl' zz' (qx (rats s.h bv 0 z) ks' m')) ((qh (jO b)).run .dead s.h),min s.dirty b,s.fr⟩:=by
   unfold ap apO;rw[hg']
  show _=K (.slice s.nx 0 (n+1) (n+1) z false) (ap s b (rats s.h bv 0 z));rw[ea]
theorem Lv.get (h:Lv lo hi s v n cs z)(st:St)(news:List AV)(c:Nat)(hc:c<lo\/hi<=c)(hn:c<st.nx):jv (Go.Sy.aps v st news).h c=jv st.h c:=by
 rcases h with ⟨rfl,rfl,rfl⟩|⟨b,rfl,h2,h3,h4,h5,h6⟩
 .exact q8 (Qbg hn)
 .exact WX (Qbg hn) om
theorem Lv.at (h:Lv lo hi s v n cs z)(st:St)(news:List AV)(c i:Nat)(hc:c<lo\/hi<=c)(hn:c<st.nx):rat (Go.Sy.aps v st news).h c i=rat st.h c i:=yK (h.get st news c hc hn) i
theorem Lv.ln (h:Lv lo hi s v n cs z)(st:St)(news:List AV)(c:Nat)(hc:c<lo\/hi<=c)(hn:c<st.nx):qp (Go.Sy.aps v st news).h c=qp st.h c:=yU (h.get st news c hc hn)
theorem Lv.rts (h:Lv lo hi s v n cs z)(st:St)(news:List AV)(c o k:Nat)(hc:c<lo\/hi<=c)(hn:c<st.nx):rats (Go.Sy.aps v st news).h c o k=rats st.h c o k:=wD (h.get st news c hc hn) k o
theorem Lv.cl (h:Lv lo hi s v n cs z)(st:St)(news ds:List AV)(c:Nat)(hc:c<lo\/hi<=c)(hn:c<st.nx):Cl (Go.Sy.aps v st news) c ds=Cl st c ds:=
 propext ⟨λC=>have e:=h.get st news c hc hn;⟨hn,JI e.symm C.row,(yU e.symm).trans C.len,λi hi=>(yK e.symm i).trans (C.cell i hi)⟩,λC=>have e:=h.get st news c hc hn;⟨by rw[jp];exact Nat.lt_succ_of_lt hn,JI e C.row,(yU e).trans C.len,λi hi=>(yK e i).trans (C.cell i hi)⟩⟩
theorem Lv.put {news:List AV}(h:Lv lo hi s v n cs z)(hl:news.length=z)(h1:lo<=s.nx){m:Nat}(hm:m=s.nx+1):Lv lo m (Go.Sy.aps v s news) (apv z v s) (n+1) (cs ++ news) z:=by rw[hm];exact h.app hl h1
end
def kl (b:Nat)(s:St):St:=kills [b] s
section
variable {lo hi n z b c:Nat} {s:St} {v:AV} {cs:List AV}
theorem jt (b:Nat)(s:St):(kl b s).nx=s.nx:=nr rfl
theorem jbU (b:Nat)(s:St):(kl b s).fr=s.fr:=nr rfl
theorem um (h:c≠b):jv (kl b s).h c=jv s.h c:=by
 show jv ((qh (jO b)).run .dead s.h) c=_;rw[qd,if_neg h]
theorem jb3 {i:Nat}(h:c≠b):rat (kl b s).h c i=rat s.h c i:=yK (um h) i
theorem WT (h:c≠b):qp (kl b s).h c=qp s.h c:=yU (um h)
theorem vQ {o k:Nat}(h:c≠b):rats (kl b s).h c o k=rats s.h c o k:=wD (um h) _ _
theorem jU (h:c≠b):Cl (kl b s) c cs=Cl s c cs:=
 propext ⟨λC=>have e:=um (s:=s) h;⟨C.lt,JI e.symm C.row,(yU e.symm).trans C.len,λi hi=>(yK e.symm i).trans (C.cell i hi)⟩,λC=>have e:=um (s:=s) h;⟨C.lt,JI e C.row,(yU e).trans C.len,λi hi=>(yK e i).trans (C.cell i hi)⟩⟩
theorem jK (h:b<lo\/hi<=b):Lv lo hi (kl b s) v n cs z=Lv lo hi s v n cs z:=by
 unfold Lv;refine propext ⟨λk=>k.imp id λ⟨c,h1,h2,h3,h4,h5,h6⟩=>⟨c,h1,h2,h3,?_,h5,h6⟩,λk=>k.imp id λ⟨c,h1,h2,h3,h4,h5,h6⟩=>⟨c,h1,h2,h3,?_,h5,h6⟩⟩
 .rwa [jU om] at h4
 .rwa [jU om]
theorem Qu (h0:0<cs.length)(h1:b<s.nx)(h2:qp s.h b=cs.length)(h3:rats s.h b 0 cs.length=cs):Cl s b cs:=Cl.of_rats h1 h2 rfl h0 h3
def df (x:FuncId×List AV)(s:St):St:=⟨s.nx,s.h,s.dirty,x :: s.fr⟩
theorem uR (x:FuncId×List AV)(s:St):(df x s).nx=s.nx:=nr rfl
theorem HH (x:FuncId×List AV)(s:St):(df x s).h=s.h:=nr rfl
theorem jbV (x:FuncId×List AV)(s:St):(df x s).fr=x :: s.fr:=nr rfl
theorem w4 (f:FuncId)(caps vs:List AV){K:AV->St->Prop}:U3 (.fn f caps) vs s K=K qm (df (f,vs ++ caps) s):=nr rfl
theorem jjt:st0.fr=[]:=nr rfl
theorem jdz {m k:Nat}{x:Bool}{d:Nat}(C:Cl s b cs)(hl:n * z=cs.length)(hp:cs.all pc=true):fz (d+2) s.h (.slice b 0 n m z x)=some (.lst n cs,[b]):=by
 obtain⟨q,zl,zz,ct,h1,h2,h3⟩:=C.rw_.len;show(match jv s.h b with
  |some (.row n' zl z' cs)=>cond (QcA (QcB 0 (QcC n z)) n') ((fzs (fz (d+1) s.h) (jP zl z' cs (QcC n z) 0)).map λ(p:List AV×Lt)=>(AV.lst n p.1,b :: p.2)) none
  |_=>none)=_
 rw[h1];dsimp only;have e1:QcA (QcB 0 (QcC n z)) q=true:=by rw[qv];show 0+n * z<=q;omega
 have e2:jP zl zz ct (QcC n z) 0=cs:=by
  rw[show QcC n z=q by show n * z=q;omega];exact h2
 rw[e1,e2,UJ hp];rfl
def Fza (s:St)(aZ' aZ:List AV)(ks:Lt):Prop:=fzs (fz 9 s.h) aZ'=some (aZ,ks)
theorem Fza.nil:Fza s [] [] []:=rfl
theorem Fza.pa {aZ' aZ:List AV}{ks:Lt}(hv:pa v=true)(h:Fza s aZ' aZ ks):Fza s (v :: aZ') (v :: aZ) ks:=by
 unfold Fza at *;simp only[fzs];rw[jbS (d:=7) hv,h];rfl
theorem Fza.sl {aZ' aZ:List AV}{ks:Lt}{m:Nat}{x:Bool}(C:Cl s b cs)(hl:n * z=cs.length)(hp:cs.all pc=true)(h:Fza s aZ' aZ ks):Fza s (.slice b 0 n m z x :: aZ') (.lst n cs :: aZ) (b :: ks):=by
 unfold Fza at *;simp only[fzs];rw[jdz (d:=7) (k:=0) C hl hp,h];rfl
variable {P:Program} {base:Bs}
theorem Vo {f:FuncId}{F:XF}(hl:jy P f=some F)(hm:base.pur f=1){aZ:List AV}{o:Oc}
 (h:xC P base F.body (jr F.ps aZ) st0 (HW P base F.res (Yg G0 o) (X8 G0 o)) (Uz P base F.res (Yg G0 o) (X8 G0 o))):PX P base f aZ o:=PX.of hm (jmE hl h)
theorem PX.xf {f:FuncId}{aZ aZ':List AV}{ks:Lt}{o:Oc}(h:PX P base f aZ o){st:St}(hf:Fza st aZ' aZ ks)(hb:∀ st,base.run f aZ' st=.no)(K Kp:AV->St->Prop):XB P base f aZ' st K Kp=YZ o K Kp (kills ks st):=h.cxk hf hb K Kp
end
end Go.Sy
end
noncomputable section
namespace Go.Sy
open Go.Ev
theorem Cl.q {s:St}{b:Nat}{cs:List AV}(h:Cl s b cs):type_of% (aI h.len (aI h.cell h.ratsP)):=aI h.len (aI h.cell h.ratsP)
theorem Cl.r {s:St}{b:Nat}{cs:List AV}(h:Cl s b cs):type_of% (aI h.len h.ratsP):=aI h.len h.ratsP
theorem rzA:type_of% (a8 (@jfr) (@jck) (@jbk) (@jhJ) (@jhH) (@jbj) (@kC) (a8 (@jcm) (@jmX) (@jcp) (@jbl) (@kB) (@jeI) (@jhK) (a8 (@jcr) (@jcq) (@jhI) (@jco) (@jcn) (@jeG) (@x_i) (a8 (@jhL) (@jmY) (@jeH) (@jcj) (@jci) (@jhG) (@vR) (a8 (@kP) (@je2) (@jan) (@jal) (@Uw) (@jam) (@jru) (a8 (@jgB) (@jgz) (@jiG) (@jgA) (@jiH) (@je4) (@Hs) (a8 (@kQ) (@jnu) (@jnt) (@je5) (@je6) (@jiF) (@jiE) (a8 (@jiL) (@jiK) (@jiJ) (@jiI) (@jbb) (@Wk) (@jbc) (aI (@jfP) (@jfO)))))))))):=a8 (@jfr) (@jck) (@jbk) (@jhJ) (@jhH) (@jbj) (@kC) (a8 (@jcm) (@jmX) (@jcp) (@jbl) (@kB) (@jeI) (@jhK) (a8 (@jcr) (@jcq) (@jhI) (@jco) (@jcn) (@jeG) (@x_i) (a8 (@jhL) (@jmY) (@jeH) (@jcj) (@jci) (@jhG) (@vR) (a8 (@kP) (@je2) (@jan) (@jal) (@Uw) (@jam) (@jru) (a8 (@jgB) (@jgz) (@jiG) (@jgA) (@jiH) (@je4) (@Hs) (a8 (@kQ) (@jnu) (@jnt) (@je5) (@je6) (@jiF) (@jiE) (a8 (@jiL) (@jiK) (@jiJ) (@jiI) (@jbb) (@Wk) (@jbc) (aI (@jfP) (@jfO)))))))))
theorem rzB:type_of% (a8 (@jfN) (@jd9) (@jrw) (@jrv) (@jlQ) (@jmj) (@jjf) (a8 (@jnN) (@jnI) (@jnH) (@jrV) (@jjg) (@jbP) (@jnE) (a8 (@jja) (@jrU) (@jnM) (@jnK) (@jjm) (@jjl) (@jjk) (a8 (@jjj) (@jji) (@jfp) (@jnL) (@jnG) (@jjh) (@jdx) (a8 (@jdw) (@jdv) (@jjd) (@jjc) (@jjb) (@jdy) (@jaU) (a8 (@jnJ) (@jfq) (@jnO) (@jeN) (@jjn) (@jje) (@jbO) (a8 (@jnP) (@jqS) (@jm6) (@jgl) (@jnc) (@jm9) (@jnd) (a8 (@jnf) (@jm7) (@jeL) (@jcw) (@jcx) (@jib) (@jhP) (aI (@jhY) (@jhX)))))))))):=a8 (@jfN) (@jd9) (@jrw) (@jrv) (@jlQ) (@jmj) (@jjf) (a8 (@jnN) (@jnI) (@jnH) (@jrV) (@jjg) (@jbP) (@jnE) (a8 (@jja) (@jrU) (@jnM) (@jnK) (@jjm) (@jjl) (@jjk) (a8 (@jjj) (@jji) (@jfp) (@jnL) (@jnG) (@jjh) (@jdx) (a8 (@jdw) (@jdv) (@jjd) (@jjc) (@jjb) (@jdy) (@jaU) (a8 (@jnJ) (@jfq) (@jnO) (@jeN) (@jjn) (@jje) (@jbO) (a8 (@jnP) (@jqS) (@jm6) (@jgl) (@jnc) (@jm9) (@jnd) (a8 (@jnf) (@jm7) (@jeL) (@jcw) (@jcx) (@jib) (@jhP) (aI (@jhY) (@jhX)))))))))
theorem rzC:type_of% (a8 (@jh1) (@jh0) (@jh2) (@jgm) (@jcy) (@jh3) (@jh5) (a8 (@jh4) (@jnb) (@jh7) (@jeM) (@jhW) (@jne) (@jh6) (a8 (@jeP) (@jh9) (@jh8) (@jna) (@jhV) (@jeO) (@jhU) (a8 (@jhT) (@jhS) (@jfM) (@jsE) (@jsF) (@jjY) (@Gx) (a8 (@Gy) (@JH) (@jgH) (@jjN) (@jiP) (@jhA) (@jn0) (a8 (@jsN) (@jhB) (@ZU) (@ZT) (@vP) (@ZS) (@ZO) (a8 (@ZR) (@jb3) (@WT) (@vQ) (@uR) (@HH) (@jbV) (a8 (@jbU) (@Yw) (@jp) (@jt) (@ZN) (@Zi) (@Zj) (aI (@Z5) (@Z4)))))))))):=a8 (@jh1) (@jh0) (@jh2) (@jgm) (@jcy) (@jh3) (@jh5) (a8 (@jh4) (@jnb) (@jh7) (@jeM) (@jhW) (@jne) (@jh6) (a8 (@jeP) (@jh9) (@jh8) (@jna) (@jhV) (@jeO) (@jhU) (a8 (@jhT) (@jhS) (@jfM) (@jsE) (@jsF) (@jjY) (@Gx) (a8 (@Gy) (@JH) (@jgH) (@jjN) (@jiP) (@jhA) (@jn0) (a8 (@jsN) (@jhB) (@ZU) (@ZT) (@vP) (@ZS) (@ZO) (a8 (@ZR) (@jb3) (@WT) (@vQ) (@uR) (@HH) (@jbV) (a8 (@jbU) (@Yw) (@jp) (@jt) (@ZN) (@Zi) (@Zj) (aI (@Z5) (@Z4)))))))))
theorem rzD:type_of% (a8 (@jg) (@jn) (@jp) (@jo) (@WV) (@vS) (@Ya) (a8 (@XG) (@GX) (@uF) (@Ki) (@GU) (@GV) (@wL) (a8 (@Zd) (@Wg) (@Wc) (@vH) (@wy) (@vG) (@We) (a8 (@Wf) (@jeh) (@jeg) (@jmM) (@jhC) (@jb5) (@gR) (a8 (@kN) (@jns) (@jnr) (@VQ) (@jbT) (@jfw) (@yu) (a8 (@jiD) (@je3) (@h_0) (@h_1) (@jrZ) (@jrY) (@jr1) (a8 (@jr0) (@jrL) (@jrK) (@jq8) (@jq7) (@jq6) (@jqR) (a8 (@jqP) (@jm3) (@jqQ) (@jm4) (@jiu) (@Hk) (@Hj) (aI (@HX) (@jsj)))))))))):=a8 (@jg) (@jn) (@jp) (@jo) (@WV) (@vS) (@Ya) (a8 (@XG) (@GX) (@uF) (@Ki) (@GU) (@GV) (@wL) (a8 (@Zd) (@Wg) (@Wc) (@vH) (@wy) (@vG) (@We) (a8 (@Wf) (@jeh) (@jeg) (@jmM) (@jhC) (@jb5) (@gR) (a8 (@kN) (@jns) (@jnr) (@VQ) (@jbT) (@jfw) (@yu) (a8 (@jiD) (@je3) (@h_0) (@h_1) (@jrZ) (@jrY) (@jr1) (a8 (@jr0) (@jrL) (@jrK) (@jq8) (@jq7) (@jq6) (@jqR) (a8 (@jqP) (@jm3) (@jqQ) (@jm4) (@jiu) (@Hk) (@Hj) (aI (@HX) (@jsj)))))))))
theorem rzL:type_of% (a8 (@uR) (@HH) (@jg) (@jn) (@jp) (@jt) (@jo) (a8 (@WV) (@yu) (@WT) (@vS) (@Ya) (@XG) (@ZU) (a8 (@ZT) (@vP) (@ZS) (@ZO) (@ZR) (@vQ) (@ZN) (a4 (@Zi) (@Zj) (@Z5) (a4 (@Z4) (@HX) (@Hj) (@Hk)))))):=a8 (@uR) (@HH) (@jg) (@jn) (@jp) (@jt) (@jo) (a8 (@WV) (@yu) (@WT) (@vS) (@Ya) (@XG) (@ZU) (a8 (@ZT) (@vP) (@ZS) (@ZO) (@ZR) (@vQ) (@ZN) (a4 (@Zi) (@Zj) (@Z5) (a4 (@Z4) (@HX) (@Hj) (@Hk)))))
theorem rzN:type_of% (a8 (@jg) (@jn) (@jp) (@jt) (@jo) (@yu) (@uR) (a4 (@VQ) (@jbT) (@jbV) (aI (@jbU) (aI (@Yw) (@jjt))))):=a8 (@jg) (@jn) (@jp) (@jt) (@jo) (@yu) (@uR) (a4 (@VQ) (@jbT) (@jbV) (aI (@jbU) (aI (@Yw) (@jjt))))
theorem rzG:type_of% (a8 (@uR) (@HH) (@ZU) (@ZT) (@vP) (@ZS) (@ZO) (a8 (@ZR) (@vQ) (@HX) (@Hj) (@Hk) (@GX) (@uF) (a8 (@Ki) (@GU) (@GV) (@wL) (@jb3) (@jg) (@jn) (a8 (@jp) (@jt) (@WT) (@jo) (@WV) (@yu) (@vS) (a8 (@Ya) (@XG) (@Zd) (@Wg) (@Wc) (@vH) (@wy) (a8 (@vG) (@We) (@Wf) (@jdn) (@jdj) (@jaL) (@Gm) (a8 (@jaK) (@jdk) (@jdm) (@jdl) (@jas) (@jap) (@gX) (a8 (@Kr) (@gV) (@jaq) (@jar) (@jat) (@gR) (@kN) (a4 (@Zj) (@Z5) (@Zi) (@Z4)))))))))):=a8 (@uR) (@HH) (@ZU) (@ZT) (@vP) (@ZS) (@ZO) (a8 (@ZR) (@vQ) (@HX) (@Hj) (@Hk) (@GX) (@uF) (a8 (@Ki) (@GU) (@GV) (@wL) (@jb3) (@jg) (@jn) (a8 (@jp) (@jt) (@WT) (@jo) (@WV) (@yu) (@vS) (a8 (@Ya) (@XG) (@Zd) (@Wg) (@Wc) (@vH) (@wy) (a8 (@vG) (@We) (@Wf) (@jdn) (@jdj) (@jaL) (@Gm) (a8 (@jaK) (@jdk) (@jdm) (@jdl) (@jas) (@jap) (@gX) (a8 (@Kr) (@gV) (@jaq) (@jar) (@jat) (@gR) (@kN) (a4 (@Zj) (@Z5) (@Zi) (@Z4)))))))))
theorem rzP:type_of% (a8 (@Qaj) (@Qby) (@QaG) (@QaP) (@QbD) (@Qcl) (@Int.toNat_zero) (a8 (@Int.toNat_one) (@true_and) (@and_true) (@and_self) (@Bool.not_true) (@Bool.not_false) (@QaQ) (a4 (@QaT) (@decide_eq_true_eq) (@decide_eq_false_iff_not) (aI (@Nat.beq_eq) (@not_false_eq_true))))):=a8 (@Qaj) (@Qby) (@QaG) (@QaP) (@QbD) (@Qcl) (@Int.toNat_zero) (a8 (@Int.toNat_one) (@true_and) (@and_true) (@and_self) (@Bool.not_true) (@Bool.not_false) (@QaQ) (a4 (@QaT) (@decide_eq_true_eq) (@decide_eq_false_iff_not) (aI (@Nat.beq_eq) (@not_false_eq_true))))
theorem rzQ:type_of% (a8 (@eq_self.{1}) (@θ.{0}) (@κ.{0}) (@ξ.{0}) (@φ.{0}) (@Qag.{0}) (@Qam.{0}) (a4 (@QaO.{0}) (@cond_true.{1}) (@cond_false.{1}) (@ne_eq.{1}))):=a8 (@eq_self.{1}) (@θ.{0}) (@κ.{0}) (@ξ.{0}) (@φ.{0}) (@Qag.{0}) (@Qam.{0}) (a4 (@QaO.{0}) (@cond_true.{1}) (@cond_false.{1}) (@ne_eq.{1}))
theorem rzZ:type_of% (a4 (@rzA) (@rzB) (@rzC) (aI (@rzD) (aI (@rzP) (@rzQ)))):=a4 (@rzA) (@rzB) (@rzC) (aI (@rzD) (aI (@rzP) (@rzQ)))
instance iA (n:Nat):OfNat A n:=⟨.t n⟩
theorem nA (n:Nat):(@OfNat.ofNat A n (iA n))=A.t (@OfNat.ofNat Nat n _):=rfl
def oe(a:Nat)(b:Bool)(c:Option (Nat×Bool))(d:XK):XS:=⟨some a,b,c,d⟩
def oi(a:Nat)(b:Bool)(c:Option (Nat×Bool))(d:Ins):XS:=oe a b c (.i d)
def oj(a:Nat)(b:Bool)(c:Ins):XS:=oi a b none c
def ol(a:Nat)(b:Ins):XS:=oj a false b
def ou(a:Int):AV:=.int .i64 a
def ov(a:List XS)(b:XC):XC:=.seq (.ops a) b
def ow(a:Nat)(b:Ins):XS:=oj a true b
def oy(a:Nat)(b:A):XS:=ow a (.mv b)
def oz(a:Nat)(b:A):XS:=ol a (.mv b)
def oB:AV:=ou 0
def oD(a:Nat)(b:Bool)(c:Nat×Bool)(d:Ins):XS:=oi a b (some c) d
def oE(a:Nat)(b:Nat×Bool)(c:Ins):XS:=oD a false b c
def oF(a:Nat)(b:Nat)(c:A):XS:=ol a (.fad b c)
def oG(a:Bool):A:=.c (.bool a)
def oH(a:Nat)(b:Bool)(c:Option (Nat×Bool))(d:A)(e:List A):XS:=oe a b c (.call d e)
def oI(a:Nat)(b:A):XS:=ol a (.ld1 b)
def oJ(a:BinOp)(b:A)(c:AV):Ins:=.bin a b (.c c)
def oK:AV:=.str []
def oL(a:List XS)(b:A)(c:XC)(d:XC):XC:=ov a (.cond b c d)
def oM(a:XS)(b:Nat)(c:List (Nat×Nat)):XD:=⟨a,none,b,c⟩
def oQ(a:Option Nat)(b:Option (Nat×Bool))(c:XK):XS:=⟨a,false,b,c⟩
def oR(a:Nat)(b:List AV):A:=.c (.fn a b)
def oS(a:XS)(b:Option A)(c:Nat)(d:List (Nat×Nat)):XD:=⟨a,some b,c,d⟩
def oU(a:Nat)(b:Option (Nat×Bool))(c:A)(d:List A):XS:=oH a false b c d
def oV(a:Nat)(b:Nat)(c:A):XS:=ol a (.ldA b c)
def oW(a:Nat)(b:A)(c:A):XK:=.i (.st a b c)
def oX:A:=oG false
def oY(a:List XS)(b:XC)(c:XC):XC:=ov a (.seq b c)
def oZ(a:Nat)(b:Option (Nat×Bool))(c:Nat)(d:List AV)(e:List A):XS:=oU a b (oR c d) e
def o0(a:BinOp)(b:A)(c:Int):Ins:=oJ a b (ou c)
def o3(a:Option (Nat×Bool))(b:XK):XS:=oQ none a b
def o4(a:XK):XS:=o3 none a
def o5(a:List XS):XC:=ov a .ret
def o6(a:Nat)(b:A)(c:A):XS:=o4 (oW a b c)
def o7(a:Nat)(b:Nat)(c:List AV)(d:List A):XS:=oZ a none b c d
def o8(a:Lt):A:=.c (.str a)
def o9(a:Nat)(b:List AV):XS:=ow a (.alloc b)
def Ia(a:XS)(b:Nat):XD:=oM a b []
def Ib(a:Nat)(b:AV):XS:=oy a (.c b)
def Ic(a:Nat)(b:BinOp)(c:A)(d:Int):XS:=ol a (o0 b c d)
def Id(a:List XS)(b:A)(c:XC):XC:=oL a b c .skip
def Ie(a:Nat)(b:XC):XC:=.block a (.loop b)
def If(a:Nat)(b:Nat)(c:Bool)(d:Ins):XS:=oE a (b,c) d
def Ig(a:Nat)(b:Nat)(c:Ins):XS:=If a b false c
def Ih(a:Nat)(b:Nat)(c:Ins):XS:=If a b true c
def Ii:A:=oG true
def Ij(a:Nat)(b:A)(c:Nat):XS:=ol a (.ext b c)
def Ik(a:XS)(b:A)(c:Nat)(d:List (Nat×Nat)):XD:=oS a (some b) c d
def Il(a:Nat)(b:Nat)(c:A)(d:A):XS:=ol a (.idxS b c d)
def Im(a:Nat)(b:XC)(c:XC):XC:=.seq (.block a b) c
def Io(a:XD):XD×(Option (List XD)):=(a,none)
def Ip(a:XS)(b:Nat):XD×(Option (List XD)):=Io (Ia a b)
def Iq(a:Nat)(b:Nat)(c:List A):XS:=o7 a b [] c
def Ir:AV:=.tup []
def Is(a:Nat)(b:A)(c:A)(d:A):XS:=ol a (.pick b c d)
def Iu(a:Nat)(b:Nat)(c:Nat)(d:List AV)(e:List ((Nat×Nat)×A)):XS:=ol a (.buildS b c d e)
def Iv(a:A)(b:XC)(c:Nat):XC:=.cond a b (.exit c)
def Iw(a:Nat)(b:List AV)(c:List ((Nat×Nat)×A)):XS:=ol a (.build b c)
def Ix(a:Nat)(b:BinOp)(c:A)(d:A):XS:=ow a (.bin b c d)
def Iy(a:XS)(b:Nat)(c:List (Nat×Nat)):XD:=oS a none b c
def Iz(a:List XS)(b:A)(c:List XS):XC:=Id a b (o5 c)
def IA(a:Nat)(b:XC)(c:List XS):XC:=Im a b (.ops c)
def IB(a:A):Ins:=.un .not a
def ID(a:XS)(b:A)(c:Nat)(d:List (Nat×Nat)):XD×(Option (List XD)):=Io (Ik a b c d)
def IE(a:Nat)(b:A):XS:=ow a (.box b)
def IG(a:XS):XS×(Option (List XD)):=(a,none)
def IH(a:Nat)(b:BinOp)(c:A)(d:A):XS:=ol a (.strb b c d)
def II(a:Nat)(b:Nat)(c:A):XS:=Ig a b (.mv c)
def IJ:A:=.c Ir
def IK(a:Nat)(b:A)(c:Nat):XD:=Ia (oz a b) c
def IM(a:XS)(b:Nat)(c:A):List XS:=[a,oy b c]
def IO(a:Nat)(b:BinOp)(c:A)(d:Int)(e:Nat)(f:A):List XS:=IM (Ic a b c d) e f
def IP(a:XS):XD×(Option (List XD)):=Ip a 0
def IQ(a:Nat)(b:A):XS:=ow a (.len b)
def IR(a:Nat)(b:A):XS:=ol a (.nilc b)
def IT(a:Int):A:=.c (ou a)
def IU(a:A)(b:Nat):XC:=Iv a .skip b
def IV(a:List XS)(b:Nat)(c:XC):XC:=ov a (Ie b c)
def IW(a:Nat)(b:A)(c:Int)(d:Nat)(e:A):List XS:=IO a .eql b c d e
def IX(a:Nat)(b:BinOp)(c:A)(d:A):XS:=ol a (.bin b c d)
def IY(a:Nat)(b:Nat)(c:A):XD×(Option (List XD)):=IP (oF a b c)
def IZ(a:Nat):XS:=oz a 0
def I0(a:Nat)(b:Nat)(c:A):XS:=Ih a b (.mv c)
def I3(a:Nat):XS:=Ib a oB
def I4(a:XS)(b:Nat)(c:List (Nat×Nat)):XD×(Option (List XD)):=Io (Iy a b c)
def I5(a:Nat)(b:A):XS:=ol a (.len b)
def I6(a:Nat)(b:A)(c:A):XS:=Ix a .lss b c
def I7(a:Nat)(b:A)(c:A)(d:A):XS:=ow a (.pick b c d)
def I8(a:Nat)(b:A)(c:Int)(d:Nat)(e:A):List XS:=IO a .add b c d e
def I9(a:Nat)(b:XC)(c:Nat)(d:A)(e:Int)(f:Nat)(g:A):XC:=IA a b (I8 c d e f g)
def Oa(a:List XS)(b:A)(c:Nat)(d:XC):XC:=oY a (IU b c) d
def Ob(a:List XS)(b:A)(c:Nat)(d:Nat)(e:XC)(f:Nat)(g:A)(h:Int)(i:Nat)(j:A):XC:=Oa a b c (I9 d e f g h i j)
def Oe(a:List XS)(b:Nat)(c:List XS)(d:A)(e:Nat)(f:Nat)(g:XC)(h:Nat)(i:A)(j:Int)(k:Nat)(l:A):XC:=IV a b (Ob c d e f g h i j k l)
def Og(a:List XS)(b:List XS)(c:A)(d:List XS)(e:XC):XC:=oY a (Iz b c d) e
def Oh(a:Nat)(b:A)(c:A)(d:Nat)(e:List (Nat×Nat)):XD×(Option (List XD)):=I4 (o6 a b c) d e
def Oi(a:Nat)(b:A):XS:=ow a (.ld1 b)
def Oj(a:Nat)(b:A)(c:Int)(d:Nat)(e:A)(f:A)(g:XC)(h:XC):XC:=oL (IW a b c d e) f g h
def Ok(a:Nat)(b:Nat×Bool)(c:Nat)(d:List AV)(e:List A):XS:=oZ a (some b) c d e
def Ol(a:Nat)(b:Nat):XD:=IK a IJ b
def Om(a:Nat):XS:=oy a oX
def On(a:Nat)(b:A)(c:A)(d:Nat)(e:List (Nat×Nat)):XD×(Option (List XD)):=ID (oI a b) c d e
def Oo(a:List XS)(b:Nat)(c:List XS)(d:A)(e:Nat)(f:Nat)(g:List XS)(h:XC)(i:Nat)(j:A)(k:Int)(l:Nat)(m:A):XC:=Oe a b c d e f (ov g h) i j k l m
def Oq(a:Nat)(b:Nat)(c:Nat)(d:A):XS:=Ig a b (.fad c d)
def Or(a:Nat)(b:Nat)(c:Nat)(d:A)(e:A):XS:=ol a (.app b c d e)
def Os(a:List (XD×(Option (List XD))))(b:XC):XC:=.seq (.dops a) b
def Ot(a:Nat×Nat)(b:Lt):(Nat×Nat)×A:=(a,o8 b)
def Ou(a:Nat)(b:Nat)(c:Lt):(Nat×Nat)×A:=Ot (a,b) c
def Ov(a:Nat)(b:Lt):(Nat×Nat)×A:=Ou a 1 b
def Ow(a:Nat)(b:Nat)(c:A):XS:=Ig a b (.ld1 c)
def Ox(a:Nat)(b:Nat)(c:A):XS:=Ih a b (.ld1 c)
def Oy(a:Nat)(b:Nat)(c:A):XS:=Iq a b [c]
def Oz(a:Nat)(b:Nat)(c:Nat)(d:A):XS:=Ih a b (.fad c d)
def OA(a:List XS)(b:A)(c:List XS):XC:=Id a b (.ops c)
def OB(a:Nat)(b:Nat)(c:A)(d:A):XS:=Iq a b [c,d]
def OC(a:AV)(b:AV)(c:AV)(d:AV)(e:AV):List AV:=[a,b,c,.nils,d,e]
def OE(a:AV)(b:AV)(c:AV)(d:AV):List AV:=OC oB a b c d
def OG(a:AV)(b:AV)(c:AV):List AV:=OE oB a b c
def OH(a:AV)(b:AV):List AV:=OG oK a b
def OI(a:AV):List AV:=OH oB a
def OJ:List AV:=OI oB
def OK:Option (List XD):=some []
def OL(a:List XS)(b:List XS):XC:=ov a (o5 b)
def OM(a:Nat)(b:Nat)(c:Nat)(d:A)(e:A):XS:=ol a (.idxA b c d e)
def ON:A:=.c oB
def OO(a:Nat)(b:Nat)(c:A)(d:A)(e:Nat)(f:List (Nat×Nat)):XD×(Option (List XD)):=ID (oV a b c) d e f
def OP(a:Nat)(b:A):XS:=oF a 0 b
def OQ(a:Nat):XD:=Ol a 0
def OS(a:Nat)(b:A):XS×(Option (List XD)):=IG (oI a b)
def OT(a:Nat)(b:A)(c:A):XS:=IH a .add b c
def OU(a:Nat)(b:Nat):(Nat×Nat)×A:=Ov a [b]
def OV(a:List XS)(b:XC)(c:List XS):XC:=oY a b (o5 c)
def OW(a:Nat)(b:A):XS:=ow a (IB b)
def OY(a:XC)(b:List XS):XC:=.seq a (o5 b)
def OZ(a:Nat):XS:=oz a 1
def O0(a:Nat)(b:Int):XS:=Ib a (ou b)
def O1(a:Nat)(b:Nat)(c:Nat)(d:A):XS:=Ig a b (.ldA c d)
def O4(a:Nat)(b:BinOp)(c:A)(d:Int):XS:=ow a (o0 b c d)
def O5(a:List XS)(b:A)(c:XC):XC:=oL a b .skip c
def O6(a:Nat):XS:=Ib a .nils
def O7(a:Nat)(b:Nat)(c:BinOp)(d:A)(e:Int):XS:=Ig a b (o0 c d e)
def O8(a:BinOp)(b:A):Ins:=oJ a b oB
def O9(a:List XS)(b:List XS)(c:XC):XC:=ov a (ov b c)
def Ta(a:Nat)(b:A):XS:=oV a 6 b
def Tb(a:Nat):XS:=oy a Ii
def Tc(a:Nat)(b:A)(c:A):XS:=Is a b c oX
def Td(a:Nat)(b:A)(c:A):XS:=Is a b Ii c
def Te(a:Nat)(b:Nat)(c:BinOp)(d:A)(e:Int):XS:=Ih a b (o0 c d e)
def Tf(a:Nat)(b:A)(c:Int)(d:Nat)(e:A)(f:A)(g:List XS)(h:XC):XC:=Oj a b c d e f (o5 g) h
def Tg(a:Nat)(b:A)(c:Nat)(d:A):List XS:=IM (oz a b) c d
def Th:A:=IT 1
def Ti(a:Nat):List XS:=[Om a]
def Tj(a:A)(b:List XS)(c:XC):XC:=.cond a (o5 b) c
def Tl:AV:=.bool false
def Tm(a:Nat)(b:A):XS:=oF a 3 b
def Tn(a:Nat)(b:Nat×Bool)(c:Nat)(d:List A):XS:=Ok a b c [] d
def To(a:Nat)(b:A)(c:A):List XS:=[I6 a b c]
def Tp(a:List XS)(b:Nat)(c:Nat)(d:A)(e:A)(f:A)(g:Nat)(h:Nat)(i:List XS)(j:XC)(k:Nat)(l:A)(m:Int)(n:Nat)(p:A):XC:=Oo a b (To c d e) f g h i j k l m n p
def Tq(a:A):XS:=oy 2 a
def Tr(a:Nat)(b:A):XD×(Option (List XD)):=IP (oz a b)
def Ts(a:Nat)(b:A)(c:A):XS:=IH a .eql b c
def Tt(a:Nat)(b:A)(c:A)(d:Nat):XD×(Option (List XD)):=On a b c d []
def Tu(a:Nat)(b:A)(c:Int)(d:Nat)(e:A)(f:A)(g:XC):XC:=Oj a b c d e f .skip g
def Tv:List XS:=Ti 4
def Tw(a:Nat)(b:A):XS:=oF a 1 b
def Tx(a:Nat)(b:A):XS:=Ij a b 0
def Ty(a:Nat)(b:A):XS:=Ij a b 1
def Tz(a:Nat)(b:A)(c:A)(d:List (Nat×Nat)):XD×(Option (List XD)):=Oh a b c 0 d
def TA(a:Nat):XS:=o9 a OJ
def TB(a:Nat)(b:A)(c:Int):XS:=Ic a .add b c
def TC(a:Nat)(b:A):XS×(Option (List XD)):=IG (oz a b)
def TF(a:Int):AV:=.int .u8 a
def TG(a:Nat)(b:List AV)(c:List ((Nat×Nat)×A)):XD×(Option (List XD)):=IP (Iw a b c)
def TH(a:XS)(b:Nat):List XS:=IM a b oX
def TI(a:Nat)(b:Nat)(c:List AV)(d:List ((Nat×Nat)×A)):XS:=Iu a b 1 c d
def TJ(a:Nat)(b:Nat)(c:AV)(d:List ((Nat×Nat)×A)):XS:=TI a b [c] d
def TK(a:A):Ins:=O8 .eql a
def TM(a:A):XS:=oy 4 a
def TN(a:Nat)(b:A):XS:=ol a (IB b)
def TO(a:List (XS×(Option (List XD))))(b:XC):XC:=.seq (.cops a) b
def TQ(a:BinOp)(b:Nat)(c:A)(d:A):Ins:=.gen a b false c d
def TR(a:Nat)(b:Nat)(c:A):XS:=Ig a b (.len c)
def TS(a:Nat)(b:Nat)(c:A)(d:Nat)(e:List (Nat×Nat)):XD:=Iy (Oy a b c) d e
def TT(a:Nat)(b:Nat)(c:A):XS:=Ig a b (IB c)
def TU(a:Nat):XS:=IE a 0
def TV(a:Nat)(b:A)(c:A):XD×(Option (List XD)):=Tz a b c []
def TW(a:A)(b:A):XS:=o6 6 a b
def TZ(a:Nat):XS:=oz a 4
def T0(a:Nat):XS:=oz a 6
def T1(a:Nat)(b:A):XS:=oV a 3 b
def T4(a:Nat)(b:Nat):List XS:=TH (TU a) b
def T5(a:Nat)(b:Option (Nat×Bool))(c:A)(d:List A):XS:=oH a true b c d
def T6(a:Nat)(b:A)(c:List A):XS:=T5 a none b c
def T7(a:Nat)(b:A)(c:Lt):XS:=Ts a b (o8 c)
def T8(a:List XS)(b:Nat)(c:Nat)(d:A)(e:A)(f:A)(g:Nat)(h:Nat)(i:List XS)(j:XC)(k:Nat)(l:A)(m:Nat)(n:A):XC:=Tp a b c d e f g h i j k l 1 m n
def T9(a:List XS)(b:Nat)(c:XC):XC:=ov a (.block b c)
def La(a:Nat)(b:Nat)(c:A)(d:A)(e:Nat):XD×(Option (List XD)):=OO a b c d e []
def Lb(a:List XS)(b:A)(c:List XS)(d:XC):XC:=.seq (Iz a b c) d
def Lc(a:Nat):XS×(Option (List XD)):=IG (IZ a)
def Ld(a:Nat):XS:=oz a 5
def Lf(a:Nat)(b:A)(c:A):XS:=I7 a b Ii c
def Lg(a:Nat)(b:A):XS:=oF a 2 b
def Lh(a:Nat):Nat×Bool:=(a,false)
def Li(a:Nat)(b:Nat)(c:Nat)(d:List A):XS:=Tn a (Lh b) c d
def Lj(a:List (XD×(Option (List XD)))):XC:=Os a .ret
def Lk(a:Nat)(b:A)(c:A):XS:=Il a 1 b c
def Ll:List XS:=Ti 2
def Lm(a:Nat)(b:Nat)(c:A)(d:A)(e:A):XS:=Ig a b (.pick c d e)
def Ln(a:Nat)(b:Nat)(c:List ((Nat×Nat)×A)):XS:=TJ a b .nils c
def Lp(a:Nat)(b:A)(c:Lt)(d:Nat)(e:A):List XS:=IM (T7 a b c) d e
theorem qq:type_of% (a8 @nA @oe.eq_1 @oi.eq_1 @oj.eq_1 @ol.eq_1 @ou.eq_1 @ov.eq_1 (a8 @ow.eq_1 @oy.eq_1 @oz.eq_1 @oB.eq_1 @oD.eq_1 @oE.eq_1 @oF.eq_1 (a8 @oG.eq_1 @oH.eq_1 @oI.eq_1 @oJ.eq_1 @oK.eq_1 @oL.eq_1 @oM.eq_1 (a8 @oQ.eq_1 @oR.eq_1 @oS.eq_1 @oU.eq_1 @oV.eq_1 @oW.eq_1 @oX.eq_1 (a8 @oY.eq_1 @oZ.eq_1 @o0.eq_1 @o3.eq_1 @o4.eq_1 @o5.eq_1 @o6.eq_1 (a8 @o7.eq_1 @o8.eq_1 @o9.eq_1 @Ia.eq_1 @Ib.eq_1 @Ic.eq_1 @Id.eq_1 (a8 @Ie.eq_1 @If.eq_1 @Ig.eq_1 @Ih.eq_1 @Ii.eq_1 @Ij.eq_1 @Ik.eq_1 (a8 @Il.eq_1 @Im.eq_1 @Io.eq_1 @Ip.eq_1 @Iq.eq_1 @Ir.eq_1 @Is.eq_1 (a8 @Iu.eq_1 @Iv.eq_1 @Iw.eq_1 @Ix.eq_1 @Iy.eq_1 @Iz.eq_1 @IA.eq_1 (a8 @IB.eq_1 @ID.eq_1 @IE.eq_1 @IG.eq_1 @IH.eq_1 @II.eq_1 @IJ.eq_1 (a8 @IK.eq_1 @IM.eq_1 @IO.eq_1 @IP.eq_1 @IQ.eq_1 @IR.eq_1 @IT.eq_1 (a8 @IU.eq_1 @IV.eq_1 @IW.eq_1 @IX.eq_1 @IY.eq_1 @IZ.eq_1 @I0.eq_1 (a8 @I3.eq_1 @I4.eq_1 @I5.eq_1 @I6.eq_1 @I7.eq_1 @I8.eq_1 @I9.eq_1 (a8 @Oa.eq_1 @Ob.eq_1 @Oe.eq_1 @Og.eq_1 @Oh.eq_1 @Oi.eq_1 @Oj.eq_1 (a8 @Ok.eq_1 @Ol.eq_1 @Om.eq_1 @On.eq_1 @Oo.eq_1 @Oq.eq_1 @Or.eq_1 (a8 @Os.eq_1 @Ot.eq_1 @Ou.eq_1 @Ov.eq_1 @Ow.eq_1 @Ox.eq_1 @Oy.eq_1 (a8 @Oz.eq_1 @OA.eq_1 @OB.eq_1 @OC.eq_1 @OE.eq_1 @OG.eq_1 @OH.eq_1 (a8 @OI.eq_1 @OJ.eq_1 @OK.eq_1 @OL.eq_1 @OM.eq_1 @ON.eq_1 @OO.eq_1 (a8 @OP.eq_1 @OQ.eq_1 @OS.eq_1 @OT.eq_1 @OU.eq_1 @OV.eq_1 @OW.eq_1 (a8 @OY.eq_1 @OZ.eq_1 @O0.eq_1 @O1.eq_1 @O4.eq_1 @O5.eq_1 @O6.eq_1 (a8 @O7.eq_1 @O8.eq_1 @O9.eq_1 @Ta.eq_1 @Tb.eq_1 @Tc.eq_1 @Td.eq_1 (a8 @Te.eq_1 @Tf.eq_1 @Tg.eq_1 @Th.eq_1 @Ti.eq_1 @Tj.eq_1 @Tl.eq_1 (a8 @Tm.eq_1 @Tn.eq_1 @To.eq_1 @Tp.eq_1 @Tq.eq_1 @Tr.eq_1 @Ts.eq_1 (a8 @Tt.eq_1 @Tu.eq_1 @Tv.eq_1 @Tw.eq_1 @Tx.eq_1 @Ty.eq_1 @Tz.eq_1 (a8 @TA.eq_1 @TB.eq_1 @TC.eq_1 @TF.eq_1 @TG.eq_1 @TH.eq_1 @TI.eq_1 (a8 @TJ.eq_1 @TK.eq_1 @TM.eq_1 @TN.eq_1 @TO.eq_1 @TQ.eq_1 @TR.eq_1 (a8 @TS.eq_1 @TT.eq_1 @TU.eq_1 @TV.eq_1 @TW.eq_1 @TZ.eq_1 @T0.eq_1 (a8 @T1.eq_1 @T4.eq_1 @T5.eq_1 @T6.eq_1 @T7.eq_1 @T8.eq_1 @T9.eq_1 (a8 @La.eq_1 @Lb.eq_1 @Lc.eq_1 @Ld.eq_1 @Lf.eq_1 @Lg.eq_1 @Lh.eq_1 (a4 @Li.eq_1 @Lj.eq_1 @Lk.eq_1 (a4 @Ll.eq_1 @Lm.eq_1 @Ln.eq_1 @Lp.eq_1))))))))))))))))))))))))))))))):=a8 @nA @oe.eq_1 @oi.eq_1 @oj.eq_1 @ol.eq_1 @ou.eq_1 @ov.eq_1 (a8 @ow.eq_1 @oy.eq_1 @oz.eq_1 @oB.eq_1 @oD.eq_1 @oE.eq_1 @oF.eq_1 (a8 @oG.eq_1 @oH.eq_1 @oI.eq_1 @oJ.eq_1 @oK.eq_1 @oL.eq_1 @oM.eq_1 (a8 @oQ.eq_1 @oR.eq_1 @oS.eq_1 @oU.eq_1 @oV.eq_1 @oW.eq_1 @oX.eq_1 (a8 @oY.eq_1 @oZ.eq_1 @o0.eq_1 @o3.eq_1 @o4.eq_1 @o5.eq_1 @o6.eq_1 (a8 @o7.eq_1 @o8.eq_1 @o9.eq_1 @Ia.eq_1 @Ib.eq_1 @Ic.eq_1 @Id.eq_1 (a8 @Ie.eq_1 @If.eq_1 @Ig.eq_1 @Ih.eq_1 @Ii.eq_1 @Ij.eq_1 @Ik.eq_1 (a8 @Il.eq_1 @Im.eq_1 @Io.eq_1 @Ip.eq_1 @Iq.eq_1 @Ir.eq_1 @Is.eq_1 (a8 @Iu.eq_1 @Iv.eq_1 @Iw.eq_1 @Ix.eq_1 @Iy.eq_1 @Iz.eq_1 @IA.eq_1 (a8 @IB.eq_1 @ID.eq_1 @IE.eq_1 @IG.eq_1 @IH.eq_1 @II.eq_1 @IJ.eq_1 (a8 @IK.eq_1 @IM.eq_1 @IO.eq_1 @IP.eq_1 @IQ.eq_1 @IR.eq_1 @IT.eq_1 (a8 @IU.eq_1 @IV.eq_1 @IW.eq_1 @IX.eq_1 @IY.eq_1 @IZ.eq_1 @I0.eq_1 (a8 @I3.eq_1 @I4.eq_1 @I5.eq_1 @I6.eq_1 @I7.eq_1 @I8.eq_1 @I9.eq_1 (a8 @Oa.eq_1 @Ob.eq_1 @Oe.eq_1 @Og.eq_1 @Oh.eq_1 @Oi.eq_1 @Oj.eq_1 (a8 @Ok.eq_1 @Ol.eq_1 @Om.eq_1 @On.eq_1 @Oo.eq_1 @Oq.eq_1 @Or.eq_1 (a8 @Os.eq_1 @Ot.eq_1 @Ou.eq_1 @Ov.eq_1 @Ow.eq_1 @Ox.eq_1 @Oy.eq_1 (a8 @Oz.eq_1 @OA.eq_1 @OB.eq_1 @OC.eq_1 @OE.eq_1 @OG.eq_1 @OH.eq_1 (a8 @OI.eq_1 @OJ.eq_1 @OK.eq_1 @OL.eq_1 @OM.eq_1 @ON.eq_1 @OO.eq_1 (a8 @OP.eq_1 @OQ.eq_1 @OS.eq_1 @OT.eq_1 @OU.eq_1 @OV.eq_1 @OW.eq_1 (a8 @OY.eq_1 @OZ.eq_1 @O0.eq_1 @O1.eq_1 @O4.eq_1 @O5.eq_1 @O6.eq_1 (a8 @O7.eq_1 @O8.eq_1 @O9.eq_1 @Ta.eq_1 @Tb.eq_1 @Tc.eq_1 @Td.eq_1 (a8 @Te.eq_1 @Tf.eq_1 @Tg.eq_1 @Th.eq_1 @Ti.eq_1 @Tj.eq_1 @Tl.eq_1 (a8 @Tm.eq_1 @Tn.eq_1 @To.eq_1 @Tp.eq_1 @Tq.eq_1 @Tr.eq_1 @Ts.eq_1 (a8 @Tt.eq_1 @Tu.eq_1 @Tv.eq_1 @Tw.eq_1 @Tx.eq_1 @Ty.eq_1 @Tz.eq_1 (a8 @TA.eq_1 @TB.eq_1 @TC.eq_1 @TF.eq_1 @TG.eq_1 @TH.eq_1 @TI.eq_1 (a8 @TJ.eq_1 @TK.eq_1 @TM.eq_1 @TN.eq_1 @TO.eq_1 @TQ.eq_1 @TR.eq_1 (a8 @TS.eq_1 @TT.eq_1 @TU.eq_1 @TV.eq_1 @TW.eq_1 @TZ.eq_1 @T0.eq_1 (a8 @T1.eq_1 @T4.eq_1 @T5.eq_1 @T6.eq_1 @T7.eq_1 @T8.eq_1 @T9.eq_1 (a8 @La.eq_1 @Lb.eq_1 @Lc.eq_1 @Ld.eq_1 @Lf.eq_1 @Lg.eq_1 @Lh.eq_1 (a4 @Li.eq_1 @Lj.eq_1 @Lk.eq_1 (a4 @Ll.eq_1 @Lm.eq_1 @Ln.eq_1 @Lp.eq_1))))))))))))))))))))))))))))))
theorem dzA {p:Prop}(h:p:=by first|assumption|decide|omega|(simp only[rzN,ξ,φ];first|done|omega)|(apply Qu<;>first|omega|((simp(disch:=first|assumption|omega|(simp only[rzN,ξ,φ];first|done|omega)) only[rzL,ξ,φ,Qaj,δ ])<;>first|done|omega))|(simp(disch:=first|assumption|omega|(simp only[rzN,ξ,φ];first|done|omega)) only[rzG,θ,κ,ε,QaL,ξ,φ,Qag,Qam];first|done|omega|decide)):p:=h
theorem uw {p:Prop}(h:p:=by first|assumption|decide|omega|(simp only[zz,rzN,ξ,φ];first|done|omega)|(apply Qu<;>first|omega|((simp(disch:=first|assumption|omega|(simp only[zz,rzN,ξ,φ];first|done|omega)) only[rzL,ξ,φ,Qaj,δ,zz ])<;>first|done|omega))|(simp(disch:=first|assumption|omega|(simp only[zz,rzN,ξ,φ];first|done|omega)) only[zz,rzG,θ,κ,ε,QaL,ξ,φ,Qag,Qam];first|done|omega|decide)):p:=h
end Go.Sy
end
noncomputable section
namespace Go.Sy
open Go.Ev Go.Proofs
variable {base:Bs}
def jgD (f:FuncId):Nat:=if f∈[52,11,12,54,78,35,34,55,53,64,37,15,74,104,105,77,56,57,58,59,39,40,87,79,81,80,60,101,102,76,94,91,95,96,18,38,14,108,109,110,111,124,113,114,115,116,118,119,106,82,129,130,132,133,134,41,139,144,147,148,149,153,164,165,167,168,93,99,126,10,13,19,20,22,23,24,28,29,30,31,33,42,43,44,48,50,61,47,51] then 1
 else if f∈[66,72,73,86,88,89,90,100,120,121,122,123,128,145,146,84,85,112] then 3 else if f∈[36,97,131,125,92,127,98,152,46,63,25,32,16,17,26] then 5 else if f∈[103,75,45,27] then 2 else 0
def Vx (f:FuncId):Bool:=!(Qcy f 9) && !(Qcy f 117) && !(Qcy f 49) && !(Qcy f 44)
structure NB (base:Bs):Prop where
 nob:∀ f,Vx f=true->∀ args st,base.run f args st=.no
 purE:base.pur=jgD
theorem NB.pur (h:NB base)(f m:Nat)(e:jgD f=m):base.pur f=m:=by rw[h.purE];exact e
theorem NB.no (h:NB base)(f:FuncId)(e:Vx f=true)(args:List AV)(st:St):base.run f args st=.no:=h.nob f e args st
theorem NB.at0 (h:NB base)(f:FuncId)(e:Vx f=true)(e2:jgD f=0)(args:List AV)(st:St):base.at0 f args st:=⟨h.nob f e args st,h.pur f 0 e2⟩
abbrev Ret (base:Bs)(f:FuncId)(xs:List AV)(o:Oc):Prop:=∀ st K Kp,XB γ base f xs st K Kp=YZ o K Kp st
abbrev Tot (base:Bs)(f:FuncId)(xs:List AV)(v:AV):Prop:=∀ st K Kp,XB γ base f xs st K Kp=K v st
theorem NB.tot (hb:NB base){f:FuncId}{xs:List AV}{v:AV}(h:PX γ base f xs (.ok v))(hp:xs.all pa=true)(e:Vx f=true):Tot base f xs v:=λst K Kp=>h.xb hp (hb.no f e _) st K Kp
theorem NB.ret (hb:NB base){f:FuncId}{xs:List AV}{o:Oc}(h:PX γ base f xs o)(hp:xs.all pa=true)(e:Vx f=true):Ret base f xs o:=λst K Kp=>h.xb hp (hb.no f e _) st K Kp
inductive Ex where
 |mk (op num:Int) (name:Lt) (kids:List Ex) (line col:Int)
def Ex.op:Ex->Int | .mk o _ _ _ _ _=>o
def Ex.num:Ex->Int | .mk _ n _ _ _ _=>n
def Ex.name:Ex->Lt | .mk _ _ n _ _ _=>n
def Ex.kids:Ex->List Ex | .mk _ _ _ k _ _=>k
def Ex.line:Ex->Int | .mk _ _ _ _ l _=>l
def Ex.col:Ex->Int | .mk _ _ _ _ _ c=>c
theorem Ex.ind {p:Ex->Prop}(h:∀ op num name kids l c,(∀ k∈kids,p k)->p (.mk op num name kids l c)):∀ x,p x
 |.mk op num name kids l c=>h op num name kids l c (inds h kids)
where inds {p:Ex->Prop} (h:∀ op num name kids l c,(∀ k∈kids,p k)->p (.mk op num name kids l c)):∀ (xs:List Ex),∀ k∈xs,p k
 |[],k,hk=>by cases hk
 |x :: xs,k,hk=>by
  rcases QaJ.1 hk with e|e
  .exact e▸Ex.ind h x
  .exact inds h xs k e
theorem Ex.indk {p:Ex->Prop}(h:∀ x:Ex,(∀ k∈x.kids,p k)->p x):∀ x,p x:=Ex.ind λop num name ks l c ih=>h (.mk op num name ks l c) ih
mutual
def eE:Ex->List AV
 |.mk op num name kids l c=>[.int .i64 op,.int .i64 num,.str name,.lst kids.length (eEs kids),.int .i64 l,.int .i64 c]
def eEs:List Ex->List AV
 |[]=>[]
 |x :: xs=>eE x ++ eEs xs
end
theorem jjO:∀ xs,eEs xs=fl eE xs
 |[]=>rfl
 |x :: xs=>by rw[Xh,<-jjO xs];rfl
theorem qA (x:Ex):eE x=[.int .i64 x.op,.int .i64 x.num,.str x.name,.lst x.kids.length (fl eE x.kids),.int .i64 x.line,.int .i64 x.col]:=by
 cases x;simp only[eE,jjO];rfl
theorem zR (x:Ex):(eE x).length=6:=by rw[qA];rfl
theorem jsi (x:Ex)(k:Nat):(eE x).getD k .bad=([.int .i64 x.op,.int .i64 x.num,.str x.name,.lst x.kids.length (fl eE x.kids),.int .i64 x.line,.int .i64 x.col]:List AV).getD k .bad:=by rw[qA]
theorem ya (x:Ex):(eE x).all pc=true:=by rw[qA];rfl
theorem jhj (x:Ex):lall AV.cell (eE x)=true:=by rw[qA];rfl
theorem jmu {st:St}{K:AV->St->Prop}{xs:List Ex}{i:Nat}(h:i<xs.length):jq (Q4 6 (.lptr (fl eE xs) (i * 6)) st) K=K (.agg (eE xs[i])) st:=gy zR h
theorem jd:type_of% (a4 @zR (λx=>gq (qA x)) (λx=>gd (qA x)) (aI @jhj (frE zR))):=(a4 @zR (λx=>gq (qA x)) (λx=>gd (qA x)) (aI @jhj (frE zR)))
theorem qV:type_of% (aI @zR (aI @jhj (λx=>gq (qA x)))):=(aI @zR (aI @jhj (λx=>gq (qA x))))
theorem dzB {p:Prop}(h:p:=by first|assumption|decide|omega|(simp only[qV,rzN,ξ,φ];first|done|omega)|(apply Qu<;>first|omega|((simp(disch:=first|assumption|omega|(simp only[qV,rzN,ξ,φ];first|done|omega)) only[rzL,ξ,φ,Qaj,δ,qV ])<;>first|done|omega))|(simp(disch:=first|assumption|omega|(simp only[qV,rzN,ξ,φ];first|done|omega)) only[qV,rzG,θ,κ,ε,QaL,ξ,φ,Qag,Qam];first|done|omega|decide)):p:=h
theorem jdL {p:Prop}(h:p:=by first|assumption|decide|omega|(simp only[qV,zz,rzN,ξ,φ];first|done|omega)|(apply Qu<;>first|omega|((simp(disch:=first|assumption|omega|(simp only[qV,zz,rzN,ξ,φ];first|done|omega)) only[rzL,ξ,φ,Qaj,δ,qV,zz ])<;>first|done|omega))|(simp(disch:=first|assumption|omega|(simp only[qV,zz,rzN,ξ,φ];first|done|omega)) only[qV,zz,rzG,θ,κ,ε,QaL,ξ,φ,Qag,Qam];first|done|omega|decide)):p:=h
set_option maxRecDepth 100000
def z14:XC:=(ov [TU 1,I3 2] (OV [I3 3] (T8 [Tm 6 1,Oi 7 6,IQ 8 7,I3 9] 0 10 9 8 10 0 1 [Il 11 6 7 9,Ta 12 11,TA 5,TW 5 12] (.ops [oz 13 3,Ta 14 5,Oy 15 12 14,ol 16 (.bi .max #[3,3] [13,15]),oy 3 16]) 17 9 9 17) [oz 18 3,TB 19 18 1,Tq 19]))
def y14:XF:=⟨[0],z14,[(.t 2)]⟩
theorem x14:jy γ 12=some y14:=Qa0
def z47:XC:=(Og (T4 2 4) [OP 7 2,oI 8 7,OZ 9,Ix 10 .eql 8 9] 10 [Tb 4] (OY (T8 [Tm 11 2,Oi 12 11,IQ 13 12,I3 14] 0 15 14 13 15 0 1 [Il 16 6 12 14,Ta 17 16,TA 6,TW 6 17] (Iz [Ta 18 6,OZ 19,T6 20 (oR 15 []) [18,19]] 20 [Tb 4]) 21 14 14 21) Tv))
def y47:XF:=⟨[0,1],z47,[(.t 4)]⟩
theorem x47:jy γ 15=some y47:=Qa0
def jk1:XC:=(Og [I3 2] [IZ 3,Ic 4 .geq 3 1,TZ 5,I0 6 5 0,Te 7 5 .leq 6 4,I7 8 5 7 oX] 8 [I3 2] (Lb [IZ 9,Ic 10 .geq 9 5,oz 11 10,I0 12 11 0,Te 13 11 .leq 12 13,I7 14 11 13 oX] 14 [O0 2 1] (OY (Iz [IZ 15,Ic 16 .geq 15 14,oz 17 16,I0 18 17 0,Te 19 17 .leq 18 30,I7 20 17 19 oX] 20 [O0 2 2]) [O0 2 (-(0+1))])))
def jqm:XF:=⟨[0],jk1,[(.t 2)]⟩
theorem juM:jy γ 82=some jqm:=Qa0
def z52:XC:=(Og [Ib 2 oK] [IZ 3,Ic 4 .lss 3 5,TZ 5,II 6 5 0,O7 7 5 .gtr 6 30,Lf 8 5 7] 8 [Ib 2 oK] (o5 [TJ 9 26 oK [OU 0 45,OU 1 33,OU 2 88,OU 3 70,OU 4 71,OU 5 89,OU 6 90,OU 7 79,OU 8 72,OU 9 42,OU 10 43,OU 11 45,OU 12 61,Ov 13 [33,61],OU 14 60,Ov 15 [60,61],OU 16 62,Ov 17 [62,61],OU 18 85,OU 19 82,OU 20 83,OU 21 84,OU 22 38,OU 23 124,Ov 24 [45,62],Ov 25 [60,45,62]],IZ 10,Ic 11 .sub 10 5,Lk 12 9 11,oI 13 12,Tq 13]))
def y52:XF:=⟨[0],z52,[(.t 2)]⟩
theorem x52:jy γ 105=some y52:=Qa0
def z92:XC:=(oY (T4 1 2) (Os [IY 5 0 1,Tt 6 5 5 3,(TS 7 82 6 0 [],some [OQ 7,Ia (Tm 8 1) 0,Ik (oI 9 8) 8 27 [(1,0)],Ia (I5 10 9) 0,Ia (Ib 11 Ir) 0]),IY 8 3 1,On 9 8 8 27 [(1,0)],IP (I5 10 9),IP (Ix 11 .neq 7 10)] (Tj 11 Ll .skip)) (.seq (T8 [Tm 12 1,Oi 13 12,IQ 14 13,I3 15] 0 16 15 14 16 0 1 [Il 17 6 13 15,Ta 18 17,TA 4,TW 4 18] (Iz [Ta 19 4,Oy 20 60 19,OW 21 20] 21 Ll) 22 15 15 22) (Lb [OP 23 1,oI 24 23,Ic 25 .neq 24 3,oz 26 25,Oz 27 26 2 1,Ox 28 26 27,Ih 29 26 (.strb .neq 28 (.c oK)),I7 30 26 29 oX] 30 Ll (OY (T9 [OP 31 1,Oi 32 31] 2 (Tf 34 32 1 33 34 33 [Tw 35 1,oI 36 35,ol 37 (O8 .geq 36),oz 38 37,Oz 39 38 1 1,Ox 40 38 39,Te 41 38 .leq 40 1000000,Tc 42 38 41,Tq 42] (Tf 44 32 2 43 44 43 [Tw 45 1,oI 46 45,ol 47 (TK 46),oz 48 47,Oq 49 48 1 1,Ow 50 48 49,O7 51 48 .eql 50 1,Td 52 48 51,Tq 52] (Tf 54 32 3 53 54 53 [Tw 55 1,oI 56 55,ol 57 (TK 56),oz 58 57,Oz 59 58 2 1,Ox 60 58 59,Tn 61 (58,true) 58 [60],Tc 62 58 61,Tq 62] (Iz (IW 64 32 4 63 64) 63 [Tb 2]))))) [Tw 65 1,oI 66 65,ol 67 (TK 66),Tq 67]))))
def y92:XF:=⟨[0],z92,[(.t 2)]⟩
theorem x92:jy γ 60=some y92:=Qa0
def z46:XC:=(OL (T4 1 2) [Ta 3 1,Oy 4 12 3,Ic 5 .leq 4 60,Ld 6,Ih 7 6 (.ldA 6 1),Tn 8 (6,true) 60 [7],Tc 9 6 8,Tq 9])
def y46:XF:=⟨[0],z46,[(.t 2)]⟩
theorem x46:jy γ 37=some y46:=Qa0
def z12:XC:=(OL (T4 1 2) [Ta 3 1,Oy 4 37 3,TZ 5,Ih 6 5 (.ldA 6 1),Tn 7 (5,true) 15 [6,IT 4],Ih 8 5 (IB 7),Tc 9 5 8,Tq 9])
def y12:XF:=⟨[0],z12,[(.t 2)]⟩
theorem x12:jy γ 11=some y12:=Qa0
def z96:XC:=(OL Ll [IZ 3,Ic 4 .geq 3 (-(999999+1)),TZ 5,I0 6 5 0,Te 7 5 .leq 6 1000000,Tc 8 5 7,Tq 8])
def y96:XF:=⟨[0],z96,[(.t 2)]⟩
theorem x96:jy γ 76=some y96:=Qa0
variable {base:Bs}
def Qd (op:Int):Int:=if 1<=op/\op<=4 then 0 else if 5<=op/\op<=13 then 1 else if 14<=op/\op<=30 then 2 else -1
theorem r7:type_of%(aI @jd @rzZ):=aI @jd @rzZ
theorem jsV (hb:NB base)(op:Int):Tot base 82 [.int .i64 op] (.int .i64 (Qd op)):=by
 refine hb.tot ?_ rfl rfl;refine jE juM haa (hb.pur 82 1 dc) ?_;simp only[jqm,jr,ζ,η,θ,κ];rw[(by unfold jk1;simp only[qq];rfl:jk1=_)];repeat' first|apply jb<;>intro _|simp(disch:=try exact dzB) only[r7,δ,ε]
 all_goals(refine G0.v ?_ rfl;unfold Qd;repeat' split)<;>first|rfl|(exfalso;omega)|(simp_all;done)|(simp;omega)|(simp_all;omega)
theorem jeX (hb:NB base)(n:Int):Tot base 76 [.int .i64 n] (.bool (decide (-1000000<=n) && decide (n<=1000000))):=by
 refine hb.tot ?_ rfl rfl;refine jE x96 haa (hb.pur 76 1 dc) ?_;simp only[y96,jr,ζ,η,θ,κ];rw[(by unfold z96;simp only[qq];rfl:z96=_)];repeat' first|apply jb<;>intro _|simp(disch:=try exact dzB) only[r7,δ,ε]
 all_goals(refine G0.v ?_ rfl;repeat' split)<;>first|rfl|(exfalso;omega)|(simp_all;done)|(simp;omega)|(simp_all;omega)
mutual
def szE:Ex->Nat
 |.mk _ _ nm ks _ _=>yP ks+nm.length+1
def yP:List Ex->Nat
 |[]=>0
 |x :: xs=>szE x+yP xs
end
mutual
def vF:Ex->Nat
 |.mk _ _ _ ks _ _=>yE ks+1
def yE:List Ex->Nat
 |[]=>0
 |x :: xs=>max (vF x) (yE xs)
end
mutual
def gJ:Ex->Nat
 |.mk _ _ _ ks _ _=>WJ ks+1
def WJ:List Ex->Nat
 |[]=>0
 |x :: xs=>gJ x+WJ xs
end
mutual
def jgU (op:Int):Ex->Bool
 |.mk o _ _ ks _ _=>decide (o=op) ||Ye op ks
def Ye (op:Int):List Ex->Bool
 |[]=>false
 |x :: xs=>jgU op x ||Ye op xs
end
theorem Yo (x:Ex):szE x=yP x.kids+x.name.length+1:=by cases x;rfl
theorem K6 (x:Ex):vF x=yE x.kids+1:=by cases x;rfl
theorem jo0 (op:Int)(x:Ex):jgU op x=(decide (x.op=op) ||Ye op x.kids):=by cases x;rfl
theorem XY:∀ {xs:List Ex} {k:Nat} (h:k<xs.length),szE xs[k]<=yP xs
 |x :: xs,0,h=>by simp[yP]
 |x :: xs,k+1,h=>by
  have:=XY (xs:=xs) (k:=k) (by simpa using h);simp[yP];omega
theorem YW:∀ xs:List Ex,xs.length<=yP xs
 |[]=>by simp
 |x :: xs=>by
  have:=YW xs;have:=Yo x;simp[yP];omega
theorem GP:∀ xs ys,yE (xs ++ ys)=max (yE xs) (yE ys)
 |[],ys=>by simp[yE]
 |x :: xs,ys=>by rw[Qag,yE,yE,GP,Nat.max_assoc]
theorem uZ (op:Int):∀ xs ys,Ye op (xs ++ ys)=(Ye op xs ||Ye op ys)
 |[],ys=>by simp[Ye]
 |x :: xs,ys=>by rw[Qag,Ye,Ye,uZ,Bool.or_assoc]
theorem yt {α:Type}{xs:List α}{k:Nat}(h:k<xs.length):xs.take (k+1)=xs.take k ++ [xs[k]]:=by rw[QbQ,Qaf h];rfl
mutual
theorem jmx:∀ x,vF x<=gJ x
 |.mk _ _ _ ks _ _=>by have:=U4 ks;simp only[vF,gJ];omega
theorem U4:∀ xs,yE xs<=WJ xs
 |[]=>μ _
 |x :: xs=>by have:=jmx x;have:=U4 xs;simp only[yE,WJ];omega
end
mutual
theorem jlJ:∀ x,gJ x<=szE x
 |.mk _ _ _ ks _ _=>by have:=Un ks;simp only[szE,gJ];omega
theorem Un:∀ xs,WJ xs<=yP xs
 |[]=>μ _
 |x :: xs=>by have:=jlJ x;have:=Un xs;simp only[yP,WJ];omega
end
def BIG:Nat:=1099511627776
theorem h12:type_of%(a8 @τ @υ @z0 @z1 @ju @jm @and_true @true_and):=a8 @τ @υ @z0 @z1 @ju @jm @and_true @true_and
theorem js1 (hb:NB base):∀ x:Ex,szE x<=BIG->Tot base 12 [.agg (eE x)] (.int .i64 (vF x)):=by
 refine Ex.indk λx ih hx=>?_;refine hb.tot ?_ (by first|rfl|simp[pa,pc,ya]) rfl;have hd:=K6 x;have hz:=Yo x;generalize hks:x.kids=ks at *;have hlen:=YW ks;unfold BIG at *;have hle:=U4 ks;have hle2:=Un ks;refine jE x14 haa (hb.pur 12 1 dc) ?_;simp only[y14,jr,ζ,η,θ,κ];rw[(by unfold z14;simp only[qq];rfl:z14=_)];repeat' first|apply jb<;>intro _|simp(disch:=try exact dzB) only[hks,r7,δ,ε]
 refine jV ks.length (λk L s=>Has L 3 (.int .i64 (yE (ks.take k):Nat))/\Has L 7 (.lst ks.length (fl eE ks))) ?_ (λk L s hk hI hi hn=>?_) (λL s hI=>?_)
 .simp(disch:=decide) only[h12,QaH,yE]
 .obtain⟨i3,i7⟩:=hI;have hk2:=XY hk;have e:=ih ks[k] (ω hk) om;repeat' first|apply jb<;>intro _|simp(disch:=try exact dzB) only[ja i3,ja i7,ja hi,ja hn,e,r7,δ,ε]
  have e2:((yE (ks.take (k+1)):Nat):Int)=max (yE (ks.take k):Int) (vF ks[k]):=by rw[yt hk,GP];simp only[yE];omega
  simp(disch:=decide) only[h12,e2,i7,hi,hn]
 .rw[Qab] at hI;repeat' first|apply jb<;>intro _|simp(disch:=try exact dzB) only[ja hI.1,ja hI.2,r7,δ,ε]
  (refine G0.v ?_ rfl;repeat' split)<;>first|rfl|(exfalso;omega)|(simp_all;done)|(simp;omega)|(simp_all;omega)
theorem jtY (hb:NB base)(op:Int):∀ x:Ex,szE x<=BIG->Tot base 15 [.agg (eE x),.int .i64 op] (.bool (jgU op x)):=by
 refine Ex.indk λx ih hx=>?_;refine hb.tot ?_ (by first|rfl|simp[pa,pc,ya]) rfl;have hd:=jo0 op x;have hz:=Yo x;generalize hks:x.kids=ks at *;have hlen:=YW ks;unfold BIG at *;refine jE x47 haa (hb.pur 15 1 dc) ?_;simp only[y47,jr,ζ,η,θ,κ];rw[(by unfold z47;simp only[qq];rfl:z47=_)];repeat' first|apply jb<;>intro _|simp(disch:=try exact dzB) only[hks,r7,δ,ε]
 ·(refine G0.v ?_ rfl;repeat' split)<;>first|rfl|(exfalso;omega)|(simp_all;done)|(simp;omega)|(simp_all;omega)
 refine jV ks.length (λk L s=>Ye op (ks.take k)=false/\Has L 1 (.int .i64 op)/\Has L 12 (.lst ks.length (fl eE ks))) ?_ (λk L s hk hI hi hn=>?_) (λL s hI=>?_)
 .simp(disch:=decide) only[h12,QaH,Ye]
 .obtain⟨h0,i1,i12⟩:=hI;have hk2:=XY hk;have e:=ih ks[k] (ω hk) om;repeat' first|apply jb<;>intro _|simp(disch:=try exact dzB) only[ja i1,ja i12,ja hi,ja hn,e,r7,δ,ε]
  .have e3:=uZ op (ks.take (k+1)) (ks.drop (k+1));rw[Qbr,yt hk,uZ] at e3;simp only[Ye] at e3
   (refine G0.v ?_ rfl;repeat' split)<;>first|rfl|(exfalso;omega)|(simp_all;done)|(simp;omega)|(simp_all;omega)
  .simp(disch:=decide) only[h12,i1,i12,hi,hn];rw[yt hk,uZ,h0];simp_all [Ye]
 .rw[Qab] at hI;repeat' first|apply jb<;>intro _|simp(disch:=try exact dzB) only[ja hI.2.1,r7,δ,ε]
  (refine G0.v ?_ rfl;repeat' split)<;>first|rfl|(exfalso;omega)|(simp_all;done)|(simp;omega)|(simp_all;omega)
def Jd (c:Nat):Bool:=(decide (97<=c) && decide (c<=122)) ||(decide (65<=c) && decide (c<=90))
def qo (c:Nat):Bool:=decide (48<=c) && decide (c<=57)
def Jw (c:Nat):Bool:=Jd c ||qo c ||decide (c=95)
def yd (p:Nat->Bool):Lt->Nat
 |[]=>0
 |c :: l=>if p c then yd p l+1 else 0
theorem ZY (p:Nat->Bool):∀ l,yd p l<=l.length
 |[]=>μ _
 |c :: l=>by simp only[yd,ξ];have:=ZY p l;split<;>omega
theorem kZ {p:Nat->Bool}:∀ {l:Lt} {k:Nat},k<=l.length->(∀ j,j<k->p (l.getD j 0)=true)->(k=l.length\/p (l.getD k 0)=false)->yd p l=k
 |[],k,h,_,_=>by simp at h;simp[yd,h]
 |c :: l,0,h,h1,h2=>by
  simp only[yd];rcases h2 with h2|h2
  .simp at h2
  .simp at h2;simp[h2]
 |c :: l,k+1,h,h1,h2=>by
  have h0:=h1 0 om;simp at h0;simp only[yd,h0,if_true];have:=kZ (l:=l) (k:=k) (by simpa using h) (λj hj=>by simpa using h1 (j+1) om) (by simpa using h2);omega
def k7:Lq:=[[101,110,117,109],[118,97,114],[98,111,111,108],[112,114,111,99,101,115,115],[119,104,101,110],[100,111],[116,114,117,101],[102,97,108,115,101],[88],[70],[71],[85],[82],[89],[90],[79],[72],[83],[84]]
def HE (l:Lt):Bool:=decide (l∈k7)
def begins (p l:Lt):Bool:=decide (l.take p.length=p)
theorem GT {p l:Lt}(h:l.length<p.length):begins p l=false:=by
 unfold begins;refine decide_eq_false λe=>?_;have:=congrArg List.length e;rw[Qal] at this;omega
def Za (c:Nat):Bool:=decide (c=32) ||decide (c=9) ||decide (c=10)
def Gb (c:Nat):Bool:=decide (c≠10)
def Zm (p:Nat×Nat)(x:Nat):Nat×Nat:=if x=10 then(p.1+1,1) else(p.1,p.2+1)
def qj (p:Nat×Nat)(l:Lt):Nat×Nat:=l.foldl Zm p
theorem Vc (l:Lt):∀ p:Nat×Nat,1<=p.2->(qj p l).1<=p.1+l.length/\(qj p l).2<=p.2+l.length/\1<=(qj p l).2:=by
 induction l with
 |nil=>exact λp h=>⟨μ _,μ _,h⟩
 |cons x l ih=>
  intro p h;have hs:(Zm p x).1<=p.1+1/\(Zm p x).2<=p.2+1/\1<=(Zm p x).2:=by
   unfold Zm;split<;>simp<;>omega
  have:=ih (Zm p x) hs.2.2;show(qj (Zm p x) l).1<=p.1+(l.length+1)/\(qj (Zm p x) l).2<=p.2+(l.length+1)/\_;exact⟨om,om,this.2.2⟩
theorem jab (p:Nat×Nat)(l k:Lt):qj p (l ++ k)=qj (qj p l) k:=Qba ..
def gap (r:Lt):Nat:=if yd Za r=0/\begins [47,47] r=true then yd Gb r else yd Za r
theorem GA (r:Lt):gap r<=r.length:=by
 unfold gap;split
 .exact ZY _ _
 .exact ZY _ _
def qg (r:Lt):Nat:=if h:gap r=0 then 0 else gap r+qg (r.drop (gap r))
termination_by r.length
decreasing_by
 rw[QaB];have:=GA r;omega
theorem jjr {r:Lt}(h:gap r=0):qg r=0:=by rw[qg,dif_pos h]
theorem jjq {r:Lt}(h:gap r≠0):qg r=gap r+qg (r.drop (gap r)):=by rw[qg,dif_neg h]
theorem Kc (r:Lt):qg r<=r.length:=by
 by_cases h:gap r=0
 .rw[jjr h];exact Qaa _
 .have e:=GA r;have ih:=Kc (r.drop (gap r));rw[QaB] at ih;rw[jjq h];omega
termination_by r.length
decreasing_by
 rw[QaB];have:=GA r;omega
def Zp:Lq:=[[60,45,62],[46,46],[58,61],[33,61],[60,61],[62,61],[45,62],[123],[125],[40],[41],[58],[44],[59],[61],[60],[62],[43],[45],[42],[33],[38],[124]]
def Zy (r:Lt):Lq->Nat
 |[]=>0
 |x :: xs=>if begins x r=true then x.length else Zy r xs
def kK (r:Lt):Nat:=Zy r Zp
structure Tk where
 kind:Nat
 text:Lt
 num:Nat
 line:Nat
 col:Nat
def Tk.cells (t:Tk):List AV:=[.int .i64 (t.kind:Int),.str t.text,.int .i64 (t.num:Int),.int .i64 (t.line:Int),.int .i64 (t.col:Int)]
def v8 (s:Lt):Nat:=s.foldl (λv c=>10 * v+(c - 48)) 0
def y8 (r:Lt)(p:Nat×Nat):Nat×Tk×Nat:=
 match r with
 |[]=>(0,⟨5,[],0,p.1,p.2⟩,0)
 |x :: r'=>
  if Jd x=true then
   let n:=yd Jw (x :: r')
   if 32<n then(132,⟨1,[],0,p.1,p.2⟩,0) else(0,⟨if HE ((x :: r').take n)=true then 4 else 1,(x :: r').take n,0,p.1,p.2⟩,n)
  else if qo x=true then
   let n:=yd qo (x :: r')
   if 7<n\/1000000<v8 ((x :: r').take n) then(132,⟨2,[],0,p.1,p.2⟩,0) else(0,⟨2,(x :: r').take n,v8 ((x :: r').take n),p.1,p.2⟩,n)
  else
   let n:=kK (x :: r')
   if n=0 then(131,⟨3,[],0,p.1,p.2⟩,0) else(0,⟨3,(x :: r').take n,0,p.1,p.2⟩,n)
def W3 (s:Lt):Prop:=s≠[]/\∀ c∈s,qo c=true
theorem jdf (p:Nat->Bool):∀ l:Lt,∀ c∈l.take (yd p l),p c=true
 |[],c,h=>by simp at h
 |y :: l,c,h=>by
  simp only[yd] at h;by_cases hy:p y=true
  .rw[if_pos hy,Qcr] at h;rcases QaJ.1 h with h|h
   .rw[h];exact hy
   .exact jdf p l c h
  .rw[if_neg hy] at h;simp at h
theorem jeu {x:Nat}{r:Lt}(h:qo x=true):W3 ((x :: r).take (yd qo (x :: r))):=by
 refine⟨?_,jdf qo _⟩;have:yd qo (x :: r)=yd qo r+1:=by simp only[yd,if_pos h]
 rw[this,Qcr];simp
theorem jlv (s:Lt):∀ v,(∀ c∈s,qo c=true)->s.foldl (λv c=>10 * v+(c - 48)) v+1<=(v+1) * 10 ^ s.length:=by
 induction s with
 |nil=>exact λv _=>by simp
 |cons c s ih=>
  intro v h;have hc:=h c hac;have hc9:c - 48<=9:=by
   unfold qo at hc;simp at hc;omega
  have:=ih (10 * v+(c - 48)) λd hd=>h d (by simp[hd]);refine ψ this ?_;rw[ξ,Nat.pow_succ,<-Nat.mul_assoc,Nat.mul_right_comm];exact Qav _ om
theorem jof {s:Lt}{n:Nat}(hn:s.length=n)(h7:n<=7)(h:∀ c∈s,qo c=true):v8 s<=99999999:=by
 have:=jlv s 0 h;have e:10 ^ s.length<=10 ^ 7:=Nat.pow_le_pow_right dc om;have e7:10 ^ 7=10000000:=dc
 unfold v8;omega
theorem jaX (r:Lt):∀ xs,Zy r xs<=r.length
 |[]=>Qaa _
 |y :: xs=>by
  show(if begins y r=true then y.length else Zy r xs)<=r.length;by_cases h:begins y r=true
  .rw[if_pos h];rcases Qat r.length y.length with h2|h2
   .rw[GT h2] at h;exact absurd h dc
   .exact h2
  .rw[if_neg h];exact jaX r xs
theorem jcG (r:Lt):kK r<=r.length:=jaX r _
theorem KW {r:Lt}{p:Nat×Nat}{e n:Nat}{t:Tk}(h:y8 r p=(e,t,n)):n<=r.length:=by
 cases r with
 |nil=>simp[y8] at h;omega
 |cons x r'=>
  unfold y8 at h;simp only at h;have h1:=ZY Jw (x :: r');have h2:=ZY qo (x :: r');have h3:=jcG (x :: r');split at h
  .split at h<;>simp only[Prod.mk.injEq] at h<;>omega
  .split at h
   .split at h<;>simp only[Prod.mk.injEq] at h<;>omega
   .split at h<;>simp only[Prod.mk.injEq] at h<;>omega
theorem jdg {p:Nat->Bool}{x:Nat}{r:Lt}(h:p x=true):0<yd p (x :: r):=by
 simp only[yd,if_pos h];omega
theorem Gd {r:Lt}{p:Nat×Nat}{t:Tk}{n:Nat}(h:y8 r p=(0,t,n)):(t.kind=5↔n=0)/\(n=0↔r=[]):=by
 cases r with
 |nil=>simp[y8] at h;obtain⟨h1,h2⟩:=h;subst h1 h2;simp
 |cons x r'=>
  unfold y8 at h;simp only at h;split at h
  .rename_i hL;have hp:=jdg (p:=Jw) (r:=r') (show Jw x=true by unfold Jw;rw[hL];rfl);split at h
   .simp at h
   .simp only[Prod.mk.injEq] at h;obtain⟨_,h1,h2⟩:=h;subst h1 h2;refine⟨?_,?_⟩
    .show((if _ then 4 else 1)=5↔_);split<;>constructor<;>intro h<;>omega
    .constructor
     .intro h;omega
     .intro h;simp at h
  .split at h
   .rename_i hD;have hp:=jdg (p:=qo) (r:=r') hD;split at h
    .simp at h
    .simp only[Prod.mk.injEq] at h;obtain⟨_,h1,h2⟩:=h;subst h1 h2;refine⟨?_,?_⟩
     .show(2=5↔_);constructor<;>intro h<;>omega
     .constructor
      .intro h;omega
      .intro h;simp at h
   .split at h
    .simp at h
    .rename_i hz;simp only[Prod.mk.injEq] at h;obtain⟨_,h1,h2⟩:=h;subst h1 h2;refine⟨?_,?_⟩
     .show(3=5↔_);constructor<;>intro h<;>omega
     .constructor
      .intro h;exact absurd h hz
      .intro h;simp at h
def J0 (r:Lt)(p:Nat×Nat):List Tk×(Nat×Nat×Nat):=
 match h:y8 (r.drop (qg r)) (qj p (r.take (qg r))) with
 |(e,t,n)=>
  if e≠0 then([],(e,t.line,t.col))
  else if hn:n=0 then([t],(0,0,0))
  else
   let q:=J0 ((r.drop (qg r)).drop n) (qj (qj p (r.take (qg r))) ((r.drop (qg r)).take n))
   if q.2.1≠0 then([],q.2) else(t :: q.1,q.2)
termination_by r.length
decreasing_by
 have h1:=KW h;have h2:=Kc r;rw[QaB] at h1;rw[QaB,QaB];omega
theorem vX (r:Lt)(p:Nat×Nat){e n:Nat}{t:Tk}(h:y8 (r.drop (qg r)) (qj p (r.take (qg r)))=(e,t,n)):J0 r p=if e≠0 then([],(e,t.line,t.col)) else if n=0 then([t],(0,0,0)) else if(J0 ((r.drop (qg r)).drop n) (qj (qj p (r.take (qg r))) ((r.drop (qg r)).take n))).2.1≠0 then([],(J0 ((r.drop (qg r)).drop n) (qj (qj p (r.take (qg r))) ((r.drop (qg r)).take n))).2) else(t :: (J0 ((r.drop (qg r)).drop n) (qj (qj p (r.take (qg r))) ((r.drop (qg r)).take n))).1,(J0 ((r.drop (qg r)).drop n) (qj (qj p (r.take (qg r))) ((r.drop (qg r)).take n))).2):=by
 rw[J0];split
 rename_i e' t' n' h';rw[h] at h';simp only[Prod.mk.injEq] at h';obtain⟨rfl,rfl,rfl⟩:=h';split
 .rfl
 .split<;>rfl
def ahead (acc:List Tk)(q:List Tk×(Nat×Nat×Nat)):List Tk×(Nat×Nat×Nat):=if q.2.1≠0 then([],q.2) else(acc ++ q.1,q.2)
def qu (l:Lt):List Tk×(Nat×Nat×Nat):=if 65536<l.length then([],(132,1,1)) else J0 l (1,1)
theorem jj5 (r:Lt)(p:Nat×Nat):ahead [] (J0 r p)=J0 r p:=by
 unfold ahead;generalize hx:y8 (r.drop (qg r)) (qj p (r.take (qg r)))=x;obtain⟨e,t,n⟩:=x;rw[vX r p hx];by_cases he:e≠0
 .rw[if_pos he];simp[he]
 .rw[if_neg he];by_cases hn:n=0
  .rw[if_pos hn];simp
  .rw[if_neg hn];generalize J0 _ _=q;by_cases hq:q.2.1≠0
   .rw[if_pos hq];simp[hq]
   .rw[if_neg hq];show(if q.2.1≠0 then _ else _)=_;rw[if_neg hq];rfl
theorem jj6 {acc:List Tk}{r:Lt}{p:Nat×Nat}{e n:Nat}{t:Tk}(h:y8 (r.drop (qg r)) (qj p (r.take (qg r)))=(e,t,n))(he:e≠0):ahead acc (J0 r p)=([],(e,t.line,t.col)):=by
 rw[vX r p h,if_pos he];unfold ahead;rw[if_pos he]
theorem jj7 {acc:List Tk}{r:Lt}{p:Nat×Nat}{t:Tk}(h:y8 (r.drop (qg r)) (qj p (r.take (qg r)))=(0,t,0)):ahead acc (J0 r p)=(acc ++ [t],(0,0,0)):=by
 rw[vX r p h,if_neg dc,if_pos rfl];rfl
theorem jhz {acc:List Tk}{r:Lt}{p:Nat×Nat}{n:Nat}{t:Tk}(h:y8 (r.drop (qg r)) (qj p (r.take (qg r)))=(0,t,n))(hn:n≠0):ahead acc (J0 r p)=ahead (acc ++ [t]) (J0 ((r.drop (qg r)).drop n) (qj (qj p (r.take (qg r))) ((r.drop (qg r)).take n))):=by
 rw[vX r p h,if_neg dc,if_neg hn];generalize J0 _ _=q;unfold ahead;by_cases hq:q.2.1≠0
 .rw[if_pos hq,if_pos hq];simp[hq]
 .rw[if_neg hq,if_neg hq];show _=(if q.2.1≠0 then _ else _);rw[if_neg hq];simp
def jk8:XC:=(OL Ll [IZ 3,IX 4 .leq (.c (TF 97)) 3,TZ 5,I0 6 5 0,Ih 7 5 (oJ .leq 6 (TF 122)),Tc 8 5 7,oz 9 8,II 10 9 0,Ig 11 9 (.bin .leq (.c (TF 65)) 10),II 12 9 11,I0 13 12 0,Ih 14 12 (oJ .leq 13 (TF 90)),Lm 15 9 12 14 oX,Td 16 9 15,Tq 16])
def jqt:XF:=⟨[0],jk8,[(.t 2)]⟩
theorem juT:jy γ 113=some jqt:=Qa0
def jk5:XC:=(OL Ll [IZ 3,IX 4 .leq (.c (TF 48)) 3,TZ 5,I0 6 5 0,Ih 7 5 (oJ .leq 6 (TF 57)),Tc 8 5 7,Tq 8])
def jqq:XF:=⟨[0],jk5,[(.t 2)]⟩
theorem juQ:jy γ 116=some jqq:=Qa0
def jk7:XC:=(OL Ll [IZ 3,Oy 4 113 3,TZ 5,II 6 5 0,Li 7 5 116 [6],Td 8 5 7,oz 9 8,II 10 9 0,Ig 11 9 (oJ .eql 10 (TF 95)),Td 12 9 11,Tq 12])
def jqs:XF:=⟨[0],jk7,[(.t 2)]⟩
theorem juS:jy γ 114=some jqs:=Qa0
def jk6:XC:=(OV Ll (T9 [oy 3 0] 0 (.seq (O5 (Lp 5 3 [101,110,117,109] 4 5) 4 (O5 (Lp 6 3 [118,97,114] 4 6) 4 (O5 (Lp 7 3 [98,111,111,108] 4 7) 4 (O5 (Lp 8 3 [112,114,111,99,101,115,115] 4 8) 4 (O5 (Lp 9 3 [119,104,101,110] 4 9) 4 (O5 (Lp 10 3 [100,111] 4 10) 4 (O5 (Lp 11 3 [116,114,117,101] 4 11) 4 (O5 (Lp 12 3 [102,97,108,115,101] 4 12) 4 (O5 (Lp 13 3 [88] 4 13) 4 (O5 (Lp 14 3 [70] 4 14) 4 (O5 (Lp 15 3 [71] 4 15) 4 (O5 (Lp 16 3 [85] 4 16) 4 (O5 (Lp 17 3 [82] 4 17) 4 (O5 (Lp 18 3 [89] 4 18) 4 (O5 (Lp 19 3 [90] 4 19) 4 (O5 (Lp 20 3 [79] 4 20) 4 (O5 (Lp 21 3 [72] 4 21) 4 (O5 (Lp 22 3 [83] 4 22) 4 (.ops (Lp 23 3 [84] 4 23)))))))))))))))))))) (Tj 4 [Tb 2] .skip))) Ll)
def jqr:XF:=⟨[0],jk6,[(.t 2)]⟩
theorem juR:jy γ 115=some jqr:=Qa0
def jlc:XC:=(OL Ll [IZ 3,ol 4 (oJ .eql 3 (TF 32)),TZ 5,II 6 5 0,Ig 7 5 (oJ .eql 6 (TF 9)),Td 8 5 7,oz 9 8,II 10 9 0,Ig 11 9 (oJ .eql 10 (TF 10)),Td 12 9 11,Tq 12])
def jqx:XF:=⟨[0],jlc,[(.t 2)]⟩
theorem juX:jy γ 109=some jqx:=Qa0
def jla:XC:=(OL Ll [IZ 3,ol 4 (oJ .neq 3 (TF 10)),Tq 4])
def jqv:XF:=⟨[0],jla,[(.t 2)]⟩
theorem juV:jy γ 111=some jqv:=Qa0
def jld:XC:=(OV [I3 4] (T8 [IZ 6,ow 7 (.lenS 6),I3 8] 0 9 8 7 9 0 1 (Tg 10 8 5 10) (Iz [OZ 11,IZ 12,Ld 13,ol 14 (.ixStr 12 13),oU 15 none 11 [14],OW 16 15] 16 (Tg 17 5 4 17)) 18 8 8 18) [IZ 19,ol 20 (.lenS 19),TM 20])
def jqy:XF:=⟨[0,1],jld,[(.t 4)]⟩
theorem juY:jy γ 108=some jqy:=Qa0
def jkT:XC:=(OL Tv [IZ 5,ol 6 (.lenS 5),OZ 7,ol 8 (.lenS 7),IX 9 .geq 6 8,oz 10 9,I0 11 10 0,I0 12 10 1,Ih 13 10 (.lenS 12),Ih 14 10 (.slStr 11 none (some 13)),I0 15 10 1,Ih 16 10 (.strb .eql 14 15),Tc 17 10 16,TM 17])
def jqd:XF:=⟨[0,1],jkT,[(.t 4)]⟩
theorem juD:jy γ 139=some jqd:=Qa0
def jlb:XC:=(OL Tv [IZ 5,OZ 6,OB 7 139 5 6,TM 7])
def jqw:XF:=⟨[0,1],jlb,[(.t 4)]⟩
theorem juW:jy γ 110=some jqw:=Qa0
def jkR:XC:=(OL (Ti 3) [oI 4 1,IZ 5,OB 6 110 4 5,oy 3 6])
def jqb:XF:=⟨[0,1],jkR,[(.t 3)]⟩
theorem juB:jy γ 143=some jqb:=Qa0
def jkS:XC:=(OV [I3 4] (T8 [IZ 6,IQ 7 6,I3 8] 0 9 8 7 9 0 1 (Tg 10 8 5 10) (Iz [OZ 11,IZ 12,Ld 13,Lk 14 12 13,oI 15 14,T6 16 11 [15]] 16 (Tg 17 5 4 17)) 18 8 8 18) [O0 4 (-(0+1))])
def jqc:XF:=⟨[0,1],jkS,[(.t 4)]⟩
theorem juC:jy γ 142=some jqc:=Qa0
def jk4:XC:=(O9 [TU 1,I3 2] [Iw 5 [oK,oK,oK,oK,oK,oK,oK,oK,oK,oK,oK,oK,oK,oK,oK,oK,oK,oK,oK,oK,oK,oK,oK] [Ov 0 [60,45,62],Ov 1 [46,46],Ov 2 [58,61],Ov 3 [33,61],Ov 4 [60,61],Ov 5 [62,61],Ov 6 [45,62],OU 7 123,OU 8 125,OU 9 40,OU 10 41,OU 11 58,OU 12 44,OU 13 59,OU 14 61,OU 15 60,OU 16 62,OU 17 43,OU 18 45,OU 19 42,OU 20 33,OU 21 38,OU 22 124],o9 3 [oK,oK,oK,oK,oK,oK,oK,oK,oK,oK,oK,oK,oK,oK,oK,oK,oK,oK,oK,oK,oK,oK,oK],o6 23 3 5] (Og [ol 6 (.slA 23 1 3 none none),ol 7 (.fn 143 [1]),OB 8 142 6 7,TM 8] [TZ 9,ow 10 (O8 .lss 9)] 10 [I3 2] (o5 [TZ 11,OM 12 23 1 3 11,oI 13 12,ol 14 (.lenS 13),Tq 14])))
def jqp:XF:=⟨[0],jk4,[(.t 2)]⟩
theorem juP:jy γ 118=some jqp:=Qa0
def jk9:XC:=(.seq (TO [Lc 6,IG (IR 7 6),IG (OP 8 7),OS 9 8,Lc 10,IG (IR 11 10),IG (Tw 12 11),OS 13 12,Lc 14,IG (IR 15 14),IG (Tw 16 15),OS 17 16,IG (OZ 18),IG (IX 19 .add 17 18),IG (ol 20 (.slStr 9 (some 13) (some 19))),IG (ow 21 (.conv 9 125 20)),IG (IQ 22 21),IG (I3 23)] (Ie 0 (Ob (To 24 23 22) 24 0 1 (O9 [Lk 25 21 23,oI 26 25,oy 5 26] [IZ 27,IR 28 27,Tm 29 28,oI 30 29,TB 31 30 1,IR 32 27,Tm 33 32,o6 1 33 31] (OA [Ld 34,ow 35 (oJ .eql 34 (TF 10))] 35 [IZ 36,IZ 37,IZ 38,IR 39 38,Lg 40 39,oI 41 40,TB 42 41 1,IR 43 36,Lg 44 43,o6 1 44 42,IR 45 37,Tm 46 45,o6 1 46 Th])) 47 23 1 23 47))) (.ops [IZ 48,IR 49 48,Tw 50 49,oI 51 50,OZ 52,IX 53 .add 51 52,IR 54 48,Tw 55 54,o6 1 55 53]))
def jqu:XF:=⟨[0,1],jk9,[]⟩
theorem juU:jy γ 112=some jqu:=Qa0
def z74:XC:=(Ie 0 (.block 1 (TO [Lc 4,IG (IR 5 4),IG (OP 6 5),OS 7 6,Lc 8,IG (IR 9 8),IG (Tw 10 9),OS 11 10,IG (ol 12 (.slStr 7 (some 11) none)),IG (Tq 12)] (oY [oz 13 2,OB 14 108 13 (oR 109 []),oy 3 14] (OA [oz 15 3,ol 16 (TK 15),oz 17 16,I0 18 17 2,Tn 19 (17,true) 110 [18,o8 [47,47]],I7 20 17 19 oX] 20 [oz 21 2,OB 22 108 21 (oR 111 []),oy 3 22]) (.seq (Id [oz 23 3,ow 24 (TK 23)] 24 .ret) (.ops [IZ 25,oz 26 3,OB 27 112 25 26]))))))
def y74:XF:=⟨[0],z74,[]⟩
theorem x74:jy γ 84=some y74:=Qa0
def z75:XC:=(oY [o9 2 [oB,oK,oB,oB,oB],I3 3] (.cops [Lc 9,IG (IR 10 9),IG (OP 11 10),OS 12 11,Lc 13,IG (IR 14 13),IG (Tw 15 14),OS 16 15,IG (ol 17 (.slStr 12 (some 16) none)),IG (TM 17)]) (TO [Lc 18,IG (IR 19 18),IG (Lg 20 19),OS 21 20,Lc 22,IG (IR 23 22),IG (Tm 24 23),OS 25 24,IG (Iw 26 [oB,oK,oB,oB,oB] [((0,1),IT 5),((3,1),21),((4,1),25)]),IG (o9 5 [oB,oK,oB,oB,oB]),IG (o6 5 5 26)] (oY [I3 6] (.block 0 (oL [TZ 34,Ts 35 34 (.c oK),oy 33 35] 33 (o5 [oV 36 5 5,o6 5 2 36,I3 3]) (oL [TZ 38,ol 39 (.ixStr 38 ON),Oy 40 113 39,oy 37 40] 37 (Og [TZ 41,OB 42 108 41 (oR 114 []),oy 6 42,OP 43 5,o6 1 43 Th] [T0 44,O4 45 .gtr 44 32] 45 [oV 46 5 5,o6 5 2 46,O0 3 132] (OA [TZ 47,T0 48,ol 49 (.slStr 47 none (some 48)),T6 50 (oR 115 []) [49]] 50 [OP 51 5,o6 1 51 (IT 4)])) (oL [TZ 53,ol 54 (.ixStr 53 ON),Oy 55 116 54,oy 52 55] 52 (ov [TZ 56,OB 57 108 56 (oR 116 []),oy 6 57,OP 58 5,o6 1 58 (IT 2)] (Og [TZ 60,T0 61,ol 62 (.slStr 60 none (some 61)),Iq 63 117 [62,IT 10,IT 64],oz 59 63,Tx 64 59,Ty 65 59,oy 7 64,oy 8 65] [T0 66,Ic 67 .gtr 66 7,oz 68 67,II 69 68 8,Ig 70 68 (.gen .neq 191 true 69 (.c .nilif)),Td 71 68 70,oz 72 71,II 73 72 7,O7 74 72 .gtr 73 1000000,Lf 75 72 74] 75 [oV 76 5 5,o6 5 2 76,O0 3 132] (.ops [oz 77 7,Lg 78 5,o6 1 78 77]))) (ov [TZ 27,Oy 28 118 27,oy 6 28,OP 29 5,o6 1 29 (IT 3)] (Iz [T0 30,ow 31 (TK 30)] 31 [oV 32 5 5,o6 5 2 32,O0 3 131])))))) (ov [TZ 79,T0 80,ol 81 (.slStr 79 none (some 80)),Tw 82 5,o6 1 82 81] (OL [IZ 83,T0 84,OB 85 112 83 84] [oV 86 5 5,o6 5 2 86,I3 3])))))
def y75:XF:=⟨[0],z75,[(.cA 2 5),(.t 3)]⟩
theorem x75:jy γ 85=some y75:=Qa0
def z35:XC:=(Og [O6 2,o9 3 [oB,oB,oB]] [IZ 8,ol 9 (.lenS 8),O4 10 .gtr 9 65536] 10 [Iw 11 [oB,oB,oB] [((0,1),IT 132),((1,1),Th),((2,1),Th)],O6 2,o6 3 3 11] (ov [IZ 12,Iw 13 [oK,oB,oB,oB] [((0,1),12),((2,1),Th),((3,1),Th)],ol 14 (.box 13),TM 14] (IV [O6 5] 0 (.block 1 (ov [TZ 15,Oy 16 84 15] (oY [TZ 18,Oy 19 85 18,oz 17 19,Tx 20 17,Ty 21 17,o9 6 [oB,oK,oB,oB,oB],o6 5 6 20,oy 7 21] (Id [oz 22 7,ow 23 (O8 .neq 22)] 23 (TO [TC 24 7,IG (Tm 25 6),OS 26 25,IG (oF 27 4 6),OS 28 27,IG (Iw 29 [oB,oB,oB] [((0,1),24),((1,1),26),((2,1),28)]),IG (O6 2),IG (o6 3 3 29)] .ret)) (ov [Ld 30,oV 31 5 6,Iu 32 1 5 [oB,oK,oB,oB,oB] [((0,5),31)],Or 33 5 48 30 32,oy 5 33] (Iz [OP 34 6,oI 35 34,O4 36 .eql 35 5] 36 [Ld 37,Iw 38 [oB,oB,oB] [],Tq 37,o6 3 3 38]))))))))
def y35:XF:=⟨[0],z35,[(.t 2),(.cA 3 3)]⟩
theorem x35:jy γ 64=some y35:=Qa0
theorem KY (hb:NB base)(c:Nat):Tot base 113 [.int .u8 (c:Int)] (.bool (Jd c)):=by
 refine hb.tot ?_ rfl rfl;refine jE juT haa (hb.pur 113 1 dc) ?_;simp only[jqt,jr,ζ,η,θ,κ];rw[(by unfold jk8;simp only[qq];rfl:jk8=_)];repeat' first|apply jb<;>intro _|simp(disch:=try exact dzA) only[rzZ,δ,ε]
 all_goals(refine G0.v (congrArg AV.bool ?_) rfl;rw[QaA];simp only[Jd,QaC,χ,decide_eq_true_eq,QaT,QbH,QaQ,decide_eq_false_iff_not,true_iff,false_iff,iff_true,iff_false,not_true_eq_false,not_false_eq_true,ne_eq,eq_self]<;>omega)
theorem jfF (hb:NB base)(c:Nat):Tot base 116 [.int .u8 (c:Int)] (.bool (qo c)):=by
 refine hb.tot ?_ rfl rfl;refine jE juQ haa (hb.pur 116 1 dc) ?_;simp only[jqq,jr,ζ,η,θ,κ];rw[(by unfold jk5;simp only[qq];rfl:jk5=_)];repeat' first|apply jb<;>intro _|simp(disch:=try exact dzA) only[rzZ,δ,ε]
 all_goals(refine G0.v (congrArg AV.bool ?_) rfl;rw[QaA];simp only[qo,QaC,χ,decide_eq_true_eq,QaT,QbH,QaQ,decide_eq_false_iff_not,true_iff,false_iff,iff_true,iff_false,not_true_eq_false,not_false_eq_true,ne_eq,eq_self]<;>omega)
theorem jfo (hb:NB base)(c:Nat):Tot base 114 [.int .u8 (c:Int)] (.bool (Jw c)):=by
 refine hb.tot ?_ rfl rfl;refine jE juS haa (hb.pur 114 1 dc) ?_;simp only[jqs,jr,ζ,η,θ,κ];rw[(by unfold jk7;simp only[qq];rfl:jk7=_)];repeat' first|apply jb<;>intro _|simp(disch:=try exact dzA) only[KY hb,jfF hb,rzZ,δ,ε]
 all_goals(refine G0.v (congrArg AV.bool ?_) rfl;unfold Jw;simp_all;try omega)
theorem jpf (hb:NB base)(c:Nat):Tot base 109 [.int .u8 (c:Int)] (.bool (Za c)):=by
 refine hb.tot ?_ rfl rfl;refine jE juX haa (hb.pur 109 1 dc) ?_;simp only[jqx,jr,ζ,η,θ,κ];rw[(by unfold jlc;simp only[qq];rfl:jlc=_)];repeat' first|apply jb<;>intro _|simp(disch:=try exact dzA) only[rzZ,δ,ε]
 all_goals(refine G0.v (congrArg AV.bool ?_) rfl;rw[QaA];simp only[Za,QaC,χ,decide_eq_true_eq,QaT,QbH,QaQ,decide_eq_false_iff_not,true_iff,false_iff,iff_true,iff_false,not_true_eq_false,not_false_eq_true,ne_eq,eq_self]<;>omega)
theorem jlZ (hb:NB base)(c:Nat):Tot base 111 [.int .u8 (c:Int)] (.bool (Gb c)):=by
 refine hb.tot ?_ rfl rfl;refine jE juV haa (hb.pur 111 1 dc) ?_;simp only[jqv,jr,ζ,η,θ,κ];rw[(by unfold jla;simp only[qq];rfl:jla=_)];repeat' first|apply jb<;>intro _|simp(disch:=try exact dzA) only[rzZ,δ,ε]
 all_goals(refine G0.v (congrArg AV.bool ?_) rfl;rw[QaA];simp only[Gb,QaC,χ,decide_eq_true_eq,QaT,QbH,QaQ,decide_eq_false_iff_not,true_iff,false_iff,iff_true,iff_false,not_true_eq_false,not_false_eq_true,ne_eq,eq_self]<;>omega)
theorem jke (hb:NB base)(l:Lt):Tot base 115 [.str l] (.bool (HE l)):=by
 refine hb.tot ?_ rfl rfl;refine jE juR haa (hb.pur 115 1 dc) ?_;simp only[jqr,jr,ζ,η,θ,κ];rw[(by unfold jk6;simp only[qq];rfl:jk6=_)];repeat' first|apply jb<;>intro _|simp(disch:=try exact dzA) only[rzZ,δ,ε]
 all_goals(refine G0.v ?_ rfl;unfold HE k7;simp[*])
def Pt (base:Bs)(f:FuncId)(p:Nat->Bool):Prop:=∀ c:Nat,Tot base f [.int .u8 (c:Int)] (.bool (p c))
theorem gN (hb:NB base)(l:Lt)(hl:l.length<=4611686018427387904){f:FuncId}{p:Nat->Bool}(hf:Pt base f p):Tot base 108 [.str l,.fn f []] (.int .i64 (yd p l)):=by
 refine hb.tot ?_ rfl rfl;refine jE juY haa (hb.pur 108 1 dc) ?_;simp only[jqy,jr,ζ,η,θ,κ];rw[(by unfold jld;simp only[qq];rfl:jld=_)];repeat' first|apply jb<;>intro _|simp(disch:=try exact dzA) only[rzZ,δ,ε]
 refine jV l.length (λk L s=>(∀ j,j<k->p (l.getD j 0)=true)/\Has L 0 (.str l)/\Has L 1 (.fn f [])) ?_ (λk L s hk hI hi hn=>?_) (λL s hI=>?_)
 .refine⟨λj hj=>absurd hj (Qas _),?_⟩;simp(disch:=decide) only[h12]
 .obtain⟨h0,i0,i1⟩:=hI;repeat' first|apply jb<;>intro _|simp(disch:=try exact dzA) only[ja i0,ja i1,ja hi,hf (l.getD k 0),rzZ,δ,ε]
  .exact G0.v (by rw[kZ (QbV hk) h0 (.inr ‹_›)]) rfl
  .refine⟨⟨λj hj=>?_,?_⟩,?_⟩
   .rcases Qat j k with h|h
    .exact h0 j h
    .rw[show j=k by omega];simpa using ‹¬ p (l.getD k 0)=false›
   .simp(disch:=decide) only[h12,i0,i1]
   .simp(disch:=decide) only[h12,hi,hn]
 .obtain⟨h0,i0,i1⟩:=hI;repeat' first|apply jb<;>intro _|simp(disch:=try exact dzA) only[ja i0,rzZ,δ,ε]
  exact G0.v (by rw[kZ (μ _) h0 (.inl rfl)]) rfl
theorem jsZ (hb:NB base)(l q:Lt)(hl:l.length<=4611686018427387904):Tot base 139 [.str l,.str q] (.bool (begins q l)):=by
 refine hb.tot ?_ rfl rfl;refine jE juD haa (hb.pur 139 1 dc) ?_;simp only[jqd,jr,ζ,η,θ,κ];rw[(by unfold jkT;simp only[qq];rfl:jkT=_)];repeat' first|apply jb<;>intro _|simp(disch:=try exact dzA) only[rzZ,δ,ε]
 .exact G0.v rfl rfl
 .exact G0.v (by rw[GT om]) rfl
theorem Kx (hb:NB base)(l q:Lt)(hl:l.length<=4611686018427387904):Tot base 110 [.str l,.str q] (.bool (begins q l)):=by
 refine hb.tot ?_ rfl rfl;refine jE juW haa (hb.pur 110 1 dc) ?_;simp only[jqw,jr,ζ,η,θ,κ];rw[(by unfold jlb;simp only[qq];rfl:jlb=_)];repeat' first|apply jb<;>intro _|simp(disch:=try exact dzA) only[jsZ hb l q hl,rzZ,δ,ε]
 exact G0.v rfl rfl
theorem Cl.bar {s:St}{b:Nat}{cs:List AV}(h:Cl s b cs):Cl s.bare b cs:=⟨h.lt,h.row,h.len,h.cell⟩
theorem jis (hb:NB base)(r x:Lt)(hr:r.length<=4611686018427387904){st:St}{b:Nat}(C:Cl st b [.str r])(K Kp:AV->St->Prop):XB γ base 143 [.str x,.ptr b 0] st K Kp=K (.bool (begins x r)) st:=by
 refine jgf (λK Kp hK=>?_) K Kp;refine zP juB haa (hb.at0 143 dc dc _ _) ?_;simp only[jqb,jr,ζ,η,θ,κ];rw[(by unfold jkR;simp only[qq];rfl:jkR=_)];have C:=C.bar;have hbk:bk st st.bare=st:=rfl;have hbc:back st st.bare=st:=rfl;have hbb:st.bare.bare=st.bare:=rfl;generalize st.bare=s0 at *
 (have zz:=C.r;repeat' first|apply jb<;>intro _|simp(disch:=try exact uw) only[Kx hb r x hr,hbk,hbc,hbb,C.q,C.r,rzZ,δ,ε])
 exact hK
theorem jpv (hb:NB base){xs:Lq}(hn:xs.length<=1000000)(f:FuncId)(caps:List AV)(q:Lt->Bool){st:St}{b c:Nat}{x:Bool}(C:Cl st b (xs.map .str))
  (hq:∀ y K Kp,XB γ base f (.str y :: caps) st.bare K Kp=K (.bool (q y)) st.bare) (K Kp:AV->St->Prop):XB γ base 142 [.slice b 0 xs.length c 1 x,.fn f caps] st K Kp=K (.int .i64 (fi q xs)) st:=by
 refine jgf (λK Kp hK=>?_) K Kp;refine zP juC haa (hb.at0 142 dc dc _ _) ?_;simp only[jqc,jr,ζ,η,θ,κ];rw[(by unfold jkS;simp only[qq];rfl:jkS=_)];have C:=C.bar;have hbk:bk st st.bare=st:=rfl;have hbc:back st st.bare=st:=rfl;have hbb:st.bare.bare=st.bare:=rfl;generalize st.bare=s0 at *;have hl:(xs.map AV.str).length=xs.length:=Qad ..;repeat' first|apply jb<;>intro _|simp(disch:=try exact dzA) only[rzZ,δ,ε]
 refine jV xs.length (λk L s=>s=s0/\(∀ j (h1:j<xs.length),j<k->q xs[j]=false)/\Has L 0 (.slice b 0 xs.length c 1 x)/\Has L 1 (.fn f caps)) ?_ (λk L s hk hI hi hn=>?_) (λL s hI=>?_)
 .refine⟨rfl,λj _ hj=>absurd hj (Qas _),?_⟩;simp(disch:=decide) only[h12]
 .obtain⟨rfl,h0,i0,i1⟩:=hI;have e:(xs.map AV.str).getD k .bad=.str xs[k]:=by simp[Qac,hk]
  (have zz:=C.r;repeat' first|apply jb<;>intro _|simp(disch:=try exact uw) only[ja i0,ja i1,ja hi,hq,hl,e,hbk,hbc,hbb,C.q,C.r,rzZ,δ,ε])
  .rw[u7 hk (λj hj=>h0 j om hj) ‹_›] at hK;exact hK
  .refine⟨⟨λj h1 hj=>?_,?_⟩,?_⟩
   .rcases Qat j k with h|h
    .exact h0 j h1 h
    .have:j=k:=om
     subst this;simpa using ‹¬ q xs[j]=true›
   .simp(disch:=decide) only[h12,i0,i1]
   .simp(disch:=decide) only[h12,hi,hn]
 .obtain⟨rfl,h0,i0,i1⟩:=hI;repeat' first|apply jb<;>intro _|simp(disch:=try exact dzA) only[hbk,hbc,hbb,rzZ,δ,ε]
  rw[u6 λj hj=>h0 j hj hj] at hK;exact hK
theorem jaY (r:Lt):∀ xs:Lq,(fi (λx=>begins x r) xs<0/\Zy r xs=0)\/∃ k,∃ h:k<xs.length,fi (λx=>begins x r) xs=k/\Zy r xs=xs[k].length
 |[]=>.inl ⟨by show(-1:Int)<0;decide,rfl⟩
 |y :: xs=>by
  by_cases h:begins y r=true
  .exact .inr ⟨0,by simp,by simp[fi,h],by simp[Zy,h]⟩
  .rcases jaY r xs with ⟨h1,h2⟩|⟨k,hk,h1,h2⟩
   .exact .inl ⟨by simp[fi,h,h1],by simp[Zy,h,h2]⟩
   .exact .inr ⟨k+1,by simpa using hk,by simp[fi,h,h1];omega,by simp[Zy,h,h2]⟩
theorem jlK {k:Nat}(h:k<Zp.length):(Zp.map AV.str).getD k .bad=.str Zp[k]:=by simp[Qac,h]
theorem jrk (hb:NB base)(r:Lt)(hr:r.length<=4611686018427387904):Tot base 118 [.str r] (.int .i64 (kK r)):=by
 refine hb.tot ?_ rfl rfl;refine jE juP haa (hb.pur 118 1 dc) ?_;simp only[jqp,jr,ζ,η,θ,κ];rw[(by unfold jk4;simp only[qq];rfl:jk4=_)];repeat' first|apply jb<;>intro _|simp(disch:=try exact dzA) only[rzZ,δ,ε]
 refine XB.gen λu hu=>?_;have C0:Cl u 0 [.str r]:=by rw[hu];exact((Cl.new st0 [.str r]).nw _).wrO dc _ _
 have C1:Cl u 1 (Zp.map .str):=by rw[hu];exact(Cl.new (nw st0 _) _).wr0 rfl
 clear hu;rw[show(23:Nat)=Zp.length from rfl,jpv hb (xs:=Zp) dc 143 [.ptr 0 0] (λx=>begins x r) C1 λy K Kp=>jis hb r y hr C0.bar K Kp];unfold kK;rcases jaY r Zp with ⟨h1,h2⟩|⟨k,hk,h1,h2⟩
 .repeat' first|apply jb<;>intro _|simp(disch:=try exact dzA) only[rzZ,δ,ε]
  exact G0.v (by rw[h2];rfl) rfl
 .have hk':k<23:=hk;have e:=jlK hk;have e2:qp u.h 1=23:=C1.len;have e3:rat u.h 1 k=.str Zp[k]:=(C1.cell k (by rw[Qad];exact hk)).trans e;repeat' first|apply jb<;>intro _|simp(disch:=try exact dzA) only[h1,e2,e3,rzZ,δ,ε]
  refine G0.v ?_ rfl;rw[h2]<;>rfl
def cC (l:Lt)(a:Nat)(p:Nat×Nat):List AV:=[.str l,.int .i64 (a:Int),.int .i64 (p.1:Int),.int .i64 (p.2:Int)]
theorem u9:Tryz.prog.underlying 9=some .string:=Qa0
theorem ju7:Tryz.prog.underlying 125=some (.slice 5):=Qa0
theorem u5:Tryz.prog.underlying 5=some (.int .u8):=Qa0
theorem jir (hb:NB base){l:Lt}{a n:Nat}{p:Nat×Nat}(hn:a+n<=l.length)(hl:l.length<=1073741824)(h1:p.1<=1073741824)(h2:p.2<=1073741824)(hc:1<=p.2) :
  Met γ base 112 (cC l a p) [.int .i64 (n:Int)] (.ok (.tup [])) (cC l (a+n) (qj p ((l.drop a).take n))):=by
 refine PM.met ?_ rfl λp st=>hb.no 112 dc _ _;refine qe juU haa (hb.pur 112 3 dc) rfl ?_;simp only[jqu,jr,ζ,η,θ,κ];rw[(by unfold jk9;simp only[qq];rfl:jk9=_)];have hbs:((l.drop a).take n).length=n:=by rw[Qal,QaB];omega
 have e1:((a:Int)+(n:Int) - (a:Int)).toNat=n:=om
 unfold cC at *;repeat' first|apply jb<;>intro _|simp(disch:=try exact dzA) only[jpm u9 ju7 u5,e1,hbs,rzZ,δ,ε]
 generalize (l.drop a).take n=bs at *;refine jV n (λk L s=>Cl s 0 (cC l a (qj p (bs.take k)))/\Cl s 1 (bs.map λ(c:Nat)=>.int .u8 (c:Int))/\Has L 0 (.ptr 0 0)/\Has L 1 (.int .i64 (n:Int))/\Has L 21 (.slice 1 0 n n 1 false)) ?_ (λk L s hk hI hi hn=>?_) (λL s hI=>?_)
 .refine⟨(Cl.new st0 (cC l a p)).nw _,Cl.new (nw st0 _) _,?_⟩;simp(disch:=decide) only[h12]
 .obtain⟨C0,C1,i0,i1,i21⟩:=hI;have hk':k<bs.length:=om
  have e2:rat s.h 1 k=.int .u8 ((bs[k]:Nat):Int):=(C1.cell k (by rw[Qad];exact hk')).trans (by simp[Qac,hk']);have e3:qp s.h 1=n:=by rw[C1.len,Qad];exact hbs
  have hw:=Vc (bs.take k) p hc;have e4:qj p (bs.take (k+1))=Zm (qj p (bs.take k)) bs[k]:=by rw[yt hk',jab];rfl
  rw[Qal] at hw;generalize qj p (bs.take k)=q at *;rw[e4];have L0:=C0.lt;have L1:=C1.lt;unfold cC at *
  (have zz:=C0.r;repeat' first|apply jb<;>intro _|simp(disch:=try exact uw) only[ja i0,ja i1,ja i21,ja hi,e2,e3,C0.q,C0.r,rzZ,δ,ε])
  .refine⟨⟨?_,?_,?_⟩,?_⟩
   .have e5:bs[k]=10:=om
    rw[show Zm q bs[k]=(q.1+1,1) from if_pos e5]
    (apply Cl.cv;(· (repeat' first|exact C0|apply Cl.wr|apply Cl.nw));(· (simp only[ZN,Zi,Zj,Z5,Z4,ζ]<;>first|rfl|(simp;done)|(simp;omega))))
   .simp(disch:=first|assumption|decide|omega|(simp only[jg,jn,jp,jt,jo,yu,ξ,φ];first|done|omega)) only[jB,jD,jz];exact C1
   .simp(disch:=decide) only[h12,i0,i1,i21]
   .simp(disch:=decide) only[h12,hi,hn]
  .refine⟨⟨?_,?_,?_⟩,?_⟩
   .have e5:¬ bs[k]=10:=om
    rw[show Zm q bs[k]=(q.1,q.2+1) from if_neg e5]
    (apply Cl.cv;(· (repeat' first|exact C0|apply Cl.wr|apply Cl.nw));(· (simp only[ZN,Zi,Zj,Z5,Z4,ζ]<;>first|rfl|(simp;done)|(simp;omega))))
   .simp(disch:=first|assumption|decide|omega|(simp only[jg,jn,jp,jt,jo,yu,ξ,φ];first|done|omega)) only[jB,jD,jz];exact C1
   .simp(disch:=decide) only[h12,i0,i1,i21]
   .simp(disch:=decide) only[h12,hi,hn]
 .obtain⟨C0,C1,i0,i1,i21⟩:=hI;rw[<-hbs,Qab] at C0;have L0:=C0.lt;unfold cC at *
  (have zz:=C0.r;repeat' first|apply jb<;>intro _|simp(disch:=try exact uw) only[ja i0,ja i1,C0.q,C0.r,rzZ,δ,ε])
  refine G1.done ?_ rfl rfl FzD.u;simp(disch:=first|assumption|decide|omega|(simp only[jg,jn,jp,jt,jo,yu,ξ,φ];first|done|omega)) only[jB,jD,jz]
  (apply Cl.cv;(· (repeat' first|exact C0|apply Cl.wr|apply Cl.nw));(· (simp only[ZN,Zi,Zj,Z5,Z4,ζ]<;>first|rfl|(simp;done)|(simp;omega))))
theorem jmB (hb:NB base){l:Lt}{a:Nat}{p:Nat×Nat}(ha:a<=l.length)(hl:l.length<=1048576)(hp1:p.1+(l.length - a)<=1073741824)(hp2:1<=p.2)(hp3:p.2+(l.length - a)<=1073741824) :
  Met γ base 84 (cC l a p) [] (.ok (.tup [])) (cC l (a+qg (l.drop a)) (qj p ((l.drop a).take (qg (l.drop a))))):=by
 refine PM.met ?_ rfl λp st=>hb.no 84 dc _ _;refine qe x74 haa (hb.pur 84 3 dc) rfl ?_;simp only[y74,jr,ζ,η,θ,κ];rw[(by unfold z74;simp only[qq];rfl:z74=_)];rw[kC];refine yA (λmm L s=>∃ d:Nat,a+d<=l.length/\mm=l.length - (a+d)/\Cl s 0 (cC l (a+d) (qj p ((l.drop a).take d)))/\qg (l.drop a)=d+qg (l.drop (a+d))/\Has L 0 (.ptr 0 0)) ?_ (l.length - a) ?_
 .rintro mm L s ⟨d,hd,rfl,C,hg,i0⟩;have W:=Vc ((l.drop a).take d) p hp2;have hlt:((l.drop a).take d).length=d:=by rw[Qal,QaB];omega
  rw[hlt] at W;have hrl:(l.drop (a+d)).length=l.length - (a+d):=QaB;have hgap:gap (l.drop (a+d))=if yd Za (l.drop (a+d))=0/\begins [47,47] (l.drop (a+d))=true then yd Gb (l.drop (a+d)) else yd Za (l.drop (a+d)):=rfl
  have hgl:=GA (l.drop (a+d));have hwalk:qj (qj p ((l.drop a).take d)) ((l.drop (a+d)).take (gap (l.drop (a+d))))=qj p ((l.drop a).take (d+gap (l.drop (a+d)))):=by
   rw[<-jab,List.take_add,Qbz]
  have hg1:=λ(h:gap (l.drop (a+d))≠0)=>jjq h;have hg0:=λ(h:gap (l.drop (a+d))=0)=>jjr h;have hdrop:(l.drop (a+d)).drop (gap (l.drop (a+d)))=l.drop (a+(d+gap (l.drop (a+d)))):=by rw[Qbz,Qbt]
  have S:=@jir base hb l (a+d) (gap (l.drop (a+d))) (qj p ((l.drop a).take d)) om om om om om;have S1:=λK Kp=>S C K Kp;have L0:=C.lt;rw[hwalk] at S1;have R1:=gN hb (l.drop (a+d)) om (jpf hb);have R2:=gN hb (l.drop (a+d)) om (jlZ hb);have R3:=Kx hb (l.drop (a+d)) [47,47] om;have fin:gap (l.drop (a+d))=0->G1 4 (cC l (a+qg (l.drop a)) (qj p ((l.drop a).take (qg (l.drop a))))) (.tup []) (.tup []) s.bare:=λh=>by
   rw[hg,hg0 h,Qby];exact G1.done (jz.symm▸C) rfl rfl FzD.u
  have go:gap (l.drop (a+d))≠0->∀ L,Has L 0 (.ptr 0 0)->∃ k',k'<l.length - (a+d)/\∃ d2:Nat,a+d2<=l.length/\k'=l.length - (a+d2)/\Cl (wr s 0 0 (cC l (a+d+gap (l.drop (a+d))) (qj p ((l.drop a).take (d+gap (l.drop (a+d))))))) 0 (cC l (a+d2) (qj p ((l.drop a).take d2)))/\qg (l.drop a)=d2+qg (l.drop (a+d2))/\Has L 0 (.ptr 0 0):=λh L i=>by
   refine⟨l.length - (a+(d+gap (l.drop (a+d)))),om,d+gap (l.drop (a+d)),om,rfl,?_,by rw[hg,hg1 h,hdrop,Qbt],i⟩;rw[Qbt];exact C.wr0 rfl
  generalize hJ:(λ(L:Sl) (st':St)=>∃ k',k'<l.length - (a+d)/\∃ d2:Nat,a+d2<=l.length/\k'=l.length - (a+d2)/\Cl st' 0 (cC l (a+d2) (qj p ((l.drop a).take d2)))/\qg (l.drop a)=d2+qg (l.drop (a+d2))/\Has L 0 (.ptr 0 0))=J at *;have go2:gap (l.drop (a+d))≠0->∀ L,Has L 0 (.ptr 0 0)->J L (wr s 0 0 (cC l (a+d+gap (l.drop (a+d))) (qj p ((l.drop a).take (d+gap (l.drop (a+d))))))):=λh L i=>by rw[<-hJ];exact go h L i
  clear go;unfold cC at *;by_cases h1:yd Za (l.drop (a+d))=0
  .cases h2:begins [47,47] (l.drop (a+d)) with
   |true=>
    rw[if_pos ⟨h1,h2⟩] at hgap;rw[<-hgap] at R2;by_cases hz:gap (l.drop (a+d))=0
    ·(have zz:=C.r;repeat' first|apply jb<;>intro _|simp(disch:=try exact uw) only[ja i0,R1,R2,R3,h1,h2,hz,C.q,C.r,rzZ,δ,ε])
     exact fin hz
    ·(have zz:=C.r;repeat' first|apply jb<;>intro _|simp(disch:=try exact uw) only[ja i0,R1,R2,R3,S1,h1,h2,hz,C.q,C.r,rzZ,δ,ε])
     exact go2 hz _ (by simp(disch:=decide) only[h12,i0])
   |false=>
    have hz:gap (l.drop (a+d))=0:=by rw[hgap,if_neg (λh=>by rw[h2] at h;exact absurd h.2 dc)];exact h1
    (have zz:=C.r;repeat' first|apply jb<;>intro _|simp(disch:=try exact uw) only[ja i0,R1,R2,R3,h1,h2,C.q,C.r,rzZ,δ,ε])
    exact fin hz
  .have hz:gap (l.drop (a+d))=yd Za (l.drop (a+d)):=by rw[hgap,if_neg (λh=>h1 h.1)]
   rw[<-hz] at h1 R1
   (have zz:=C.r;repeat' first|apply jb<;>intro _|simp(disch:=try exact uw) only[ja i0,R1,R2,R3,S1,h1,C.q,C.r,rzZ,δ,ε])
   exact go2 h1 _ (by simp(disch:=decide) only[h12,i0])
 .refine⟨0,om,rfl,?_,by rw[Qaj,Qby],?_⟩
  .exact Cl.new st0 (cC l a p)
  .simp(disch:=decide) only[h12]
def PI (base:Bs):Prop:=∀ (s:Lt) (st:St),W3 s->s.length<=281474976710656->(s.length<=7->base.run 117 [.str s,.int .i64 10,.int .i64 64] st=.ok (.tup [.int .i64 (v8 s:Int),.nilif]) st)/\(7<s.length->base.run 117 [.str s,.int .i64 10,.int .i64 64] st=.ok (.tup [.bad,.bad]) st)
theorem jrE (s:St)(K:AV->St->Prop):jq (XO γ .neq 191 true .nilif .nilif s) K=K (.bool false) s:=by
 have:XO γ .neq 191 true .nilif .nilif s=.ok (.bool false) s:=Qa0
 rw[this];rfl
theorem FzD.nx {s:St}{t:Tk}{e e':Int}{cs:List AV}(h1:cs=t.cells)(h2:e'=e):FzD 1 9 s (.tup [.agg cs,.int .i64 e']) (.tup [.agg t.cells,.int .i64 e]):=by
 subst h1 h2;exact FzD.tup (.cons (.agg (.pc rfl)) (.pc rfl))
theorem jrD (hb:NB base)(hP:PI base){l:Lt}{a e n:Nat}{t:Tk}{p:Nat×Nat}(ha:a<=l.length)(hl:l.length<=1048576)(hp1:p.1<=1073741824)(hp2:p.2<=1073741824)(hp3:1<=p.2)(h:y8 (l.drop a) p=(e,t,n)) :
  Met γ base 85 (cC l a p) [] (.ok (.tup [.agg t.cells,.int .i64 (e:Int)])) (cC l (a+n) (qj p ((l.drop a).take n))):=by
 refine PM.met ?_ rfl λp st=>hb.no 85 dc _ _;refine qe x75 haa (hb.pur 85 3 dc) rfl ?_;simp only[y75,jr,ζ,η,θ,κ];rw[(by unfold z75;simp only[qq];rfl:z75=_)];have hrl:(l.drop a).length=l.length - a:=QaB;have S:=λ(n:Nat) (h:a+n<=l.length)=>@jir base hb l a n p h om hp1 hp2 hp3;have C0:Cl (nw st0 (cC l a p)) 0 (cC l a p):=Cl.new st0 _;unfold cC at *;generalize hr:l.drop a=r at *;have hL:=KY hb;have hD:=jfF hb;have hI:=jfo hb;have hR:=gN hb r om hI;have hR2:=gN hb r om hD;have hK:=jke hb;have hS:=jrk hb r om;have l1:=ZY Jw r;have l2:=ZY qo r;have l3:=jcG r;have S1:=λst q=>@S (yd Jw r) om st q;have S2:=λst q=>@S (yd qo r) om st q;have S3:=λst q=>@S (kK r) om st q;clear S;rcases r with _|⟨x,r'⟩
 .simp only[y8,Prod.mk.injEq] at h;repeat' first|apply jb<;>intro _|simp(disch:=try exact dzA) only[hr,rzZ,δ,ε]
  obtain⟨rfl,rfl,rfl⟩:=h;refine G1.done (c':=[_,_,_,_]) ?_ rfl rfl (FzD.tup (.cons (.agg (.pc rfl)) (.pc rfl)));simp(disch:=first|assumption|decide|omega|(simp only[jg,jn,jp,jt,jo,yu,ξ,φ];first|done|omega)) only[jB,jD,jz];exact C0
 .have e0:x :: r'≠[]:=by simp
  have e1:(0:Int)<((x :: r').length:Int):=by simp
  have P0:qo x=true->W3 ((x :: r').take (yd qo (x :: r'))):=λh=>jeu h;have P1:qo x=true->yd qo (x :: r')<=7->∀ st K Kp,XB γ base 117 [.str ((x :: r').take (yd qo (x :: r'))),.int .i64 10,.int .i64 64] st K Kp=K (.tup [.int .i64 (v8 ((x :: r').take (yd qo (x :: r'))):Int),.nilif]) st:=λh h7 st K Kp=>by
   have e:((x :: r').take (yd qo (x :: r'))).length<=7:=by rw[Qal];omega
   exact WC ((hP _ st (P0 h) om).1 e) K Kp
  have P2:qo x=true->7<yd qo (x :: r')->∀ st K Kp,XB γ base 117 [.str ((x :: r').take (yd qo (x :: r'))),.int .i64 10,.int .i64 64] st K Kp=K (.tup [.bad,.bad]) st:=λh h7 st K Kp=>by
   have e:((x :: r').take (yd qo (x :: r'))).length=yd qo (x :: r'):=by rw[Qal];omega
   exact WC ((hP _ st (P0 h) om).2 om) K Kp
  unfold y8 at h;simp only at h;generalize yd Jw (x :: r')=n1 at *;generalize yd qo (x :: r')=n2 at *;generalize kK (x :: r')=n3 at *;by_cases c1:Jd x=true
  .rw[if_pos c1] at h
   (have zz:=aI @jB (aI @jD @C0);repeat' first|apply jb<;>intro _|simp(disch:=try exact uw) only[hr,e0,e1,hL,hR,hK,S1,jB,jD,c1,jB,jD,C0,rzZ,δ,ε])
   all_goals((first|rw[if_pos om] at h|rw[if_neg om] at h);(first|rw[if_pos (by assumption)] at h|rw[if_neg (by assumption)] at h|skip);simp only[Prod.mk.injEq] at h;obtain⟨rfl,rfl,rfl⟩:=h;refine G1.done (c':=[_,_,_,_]) ?_ rfl rfl (FzD.nx rfl rfl);simp(disch:=first|assumption|decide|omega|(simp only[jg,jn,jp,jt,jo,yu,ξ,φ];first|done|omega)) only[jB,jD,jz];first|exact C0|(refine Cl.wr0 (c:=[.str l,.int .i64 (a:Int),.int .i64 (p.1:Int),.int .i64 (p.2:Int)]) ?_ rfl;simp(disch:=first|assumption|decide|omega|(simp only[jg,jn,jp,jt,jo,yu,ξ,φ];first|done|omega)) only[jB,jD,jz];exact C0))
  .rw[if_neg c1] at h;by_cases c2:qo x=true
   .rw[if_pos c2] at h;by_cases h7:7<n2
    .repeat' first|apply jb<;>intro _|simp(disch:=try exact dzA) only[hr,e0,e1,hL,hD,hR2,P2,c1,c2,rzZ,δ,ε]
     all_goals((first|rw[if_pos om] at h|rw[if_neg om] at h);(first|rw[if_pos (by assumption)] at h|rw[if_neg (by assumption)] at h|skip);simp only[Prod.mk.injEq] at h;obtain⟨rfl,rfl,rfl⟩:=h;refine G1.done (c':=[_,_,_,_]) ?_ rfl rfl (FzD.nx rfl rfl);simp(disch:=first|assumption|decide|omega|(simp only[jg,jn,jp,jt,jo,yu,ξ,φ];first|done|omega)) only[jB,jD,jz];first|exact C0|(refine Cl.wr0 (c:=[.str l,.int .i64 (a:Int),.int .i64 (p.1:Int),.int .i64 (p.2:Int)]) ?_ rfl;simp(disch:=first|assumption|decide|omega|(simp only[jg,jn,jp,jt,jo,yu,ξ,φ];first|done|omega)) only[jB,jD,jz];exact C0))
    ·(have zz:=aI @jB (aI @jD @C0);repeat' first|apply jb<;>intro _|simp(disch:=try exact uw) only[hr,e0,e1,hL,hD,hR2,P1,S2,c1,c2,jrE,jB,jD,C0,rzZ,δ,ε])
     all_goals((first|rw[if_pos om] at h|rw[if_neg om] at h);(first|rw[if_pos (by assumption)] at h|rw[if_neg (by assumption)] at h|skip);simp only[Prod.mk.injEq] at h;obtain⟨rfl,rfl,rfl⟩:=h;refine G1.done (c':=[_,_,_,_]) ?_ rfl rfl (FzD.nx rfl rfl);simp(disch:=first|assumption|decide|omega|(simp only[jg,jn,jp,jt,jo,yu,ξ,φ];first|done|omega)) only[jB,jD,jz];first|exact C0|(refine Cl.wr0 (c:=[.str l,.int .i64 (a:Int),.int .i64 (p.1:Int),.int .i64 (p.2:Int)]) ?_ rfl;simp(disch:=first|assumption|decide|omega|(simp only[jg,jn,jp,jt,jo,yu,ξ,φ];first|done|omega)) only[jB,jD,jz];exact C0))
   .rw[if_neg c2] at h
    (have zz:=aI @jB (aI @jD @C0);repeat' first|apply jb<;>intro _|simp(disch:=try exact uw) only[hr,e0,e1,hL,hD,hS,S3,c1,c2,jB,jD,C0,rzZ,δ,ε])
    all_goals((first|rw[if_pos om] at h|rw[if_neg om] at h);(first|rw[if_pos (by assumption)] at h|rw[if_neg (by assumption)] at h|skip);simp only[Prod.mk.injEq] at h;obtain⟨rfl,rfl,rfl⟩:=h;refine G1.done (c':=[_,_,_,_]) ?_ rfl rfl (FzD.nx rfl rfl);simp(disch:=first|assumption|decide|omega|(simp only[jg,jn,jp,jt,jo,yu,ξ,φ];first|done|omega)) only[jB,jD,jz];first|exact C0|(refine Cl.wr0 (c:=[.str l,.int .i64 (a:Int),.int .i64 (p.1:Int),.int .i64 (p.2:Int)]) ?_ rfl;simp(disch:=first|assumption|decide|omega|(simp only[jg,jn,jp,jt,jo,yu,ξ,φ];first|done|omega)) only[jB,jD,jz];exact C0))
theorem Tk.cells_l (t:Tk):t.cells.length=5:=nr rfl
theorem Tk.cells_g (t:Tk)(k:Nat):t.cells.getD k .bad=([.int .i64 (t.kind:Int),.str t.text,.int .i64 (t.num:Int),.int .i64 (t.line:Int),.int .i64 (t.col:Int)]:List AV).getD k .bad:=nr rfl
theorem Tk.cells_d (t:Tk)(k:Nat):t.cells.drop k=([.int .i64 (t.kind:Int),.str t.text,.int .i64 (t.num:Int),.int .i64 (t.line:Int),.int .i64 (t.col:Int)]:List AV).drop k:=nr rfl
theorem Tk.cells_p (t:Tk):t.cells.all pc=true:=rfl
theorem Tk.cells_c (t:Tk):lall AV.cell t.cells=true:=nr rfl
theorem Tk.cells_R:type_of% (a4 @Tk.cells_l @Tk.cells_g @Tk.cells_d (aI @Tk.cells_c (frE Tk.cells_l))):=(a4 @Tk.cells_l @Tk.cells_g @Tk.cells_d (aI @Tk.cells_c (frE Tk.cells_l)))
theorem Tk.cells_E:type_of% (aI @Tk.cells_l (aI @Tk.cells_c @Tk.cells_g)):=(aI @Tk.cells_l (aI @Tk.cells_c @Tk.cells_g))
theorem dzC {p:Prop}(h:p:=by first|assumption|decide|omega|(simp only[Tk.cells_E,rzN,ξ,φ];first|done|omega)|(apply Qu<;>first|omega|((simp(disch:=first|assumption|omega|(simp only[Tk.cells_E,rzN,ξ,φ];first|done|omega)) only[rzL,ξ,φ,Qaj,δ,Tk.cells_E ])<;>first|done|omega))|(simp(disch:=first|assumption|omega|(simp only[Tk.cells_E,rzN,ξ,φ];first|done|omega)) only[Tk.cells_E,rzG,θ,κ,ε,QaL,ξ,φ,Qag,Qam];first|done|omega|decide)):p:=h
theorem jmv {p:Prop}(h:p:=by first|assumption|decide|omega|(simp only[Tk.cells_E,zz,rzN,ξ,φ];first|done|omega)|(apply Qu<;>first|omega|((simp(disch:=first|assumption|omega|(simp only[Tk.cells_E,zz,rzN,ξ,φ];first|done|omega)) only[rzL,ξ,φ,Qaj,δ,Tk.cells_E,zz ])<;>first|done|omega))|(simp(disch:=first|assumption|omega|(simp only[Tk.cells_E,zz,rzN,ξ,φ];first|done|omega)) only[Tk.cells_E,zz,rzG,θ,κ,ε,QaL,ξ,φ,Qag,Qam];first|done|omega|decide)):p:=h
def zW (q:Nat×Nat×Nat):List AV:=[.int .i64 (q.1:Int),.int .i64 (q.2.1:Int),.int .i64 (q.2.2:Int)]
theorem jl0 {r:Lt}{p:Nat×Nat}{e n:Nat}{t:Tk}(h:y8 r p=(e,t,n)):t.line=p.1/\t.col=p.2:=by
 cases r with
 |nil=>simp[y8] at h;rw[<-h.2.1];exact⟨rfl,rfl⟩
 |cons x r'=>
  unfold y8 at h;simp only at h;split at h
  .split at h<;>(simp only[Prod.mk.injEq] at h;rw[<-h.2.1];exact⟨rfl,rfl⟩)
  .split at h
   .split at h<;>(simp only[Prod.mk.injEq] at h;rw[<-h.2.1];exact⟨rfl,rfl⟩)
   .split at h<;>(simp only[Prod.mk.injEq] at h;rw[<-h.2.1];exact⟨rfl,rfl⟩)
theorem jn4 (hb:NB base)(hP:PI base)(l:Lt)(hl:l.length<=9223372036854775807):Tot base 64 [.str l] (.tup [.lst (qu l).1.length (fl Tk.cells (qu l).1),.agg (zW (qu l).2)]):=by
 refine hb.tot ?_ rfl rfl;refine jE x35 haa (hb.pur 64 1 dc) ?_;simp only[y35,jr,ζ,η,θ,κ];rw[(by unfold z35;simp only[qq];rfl:z35=_)];repeat' first|apply jb<;>intro _|simp(disch:=try exact dzC) only[Tk.cells_R,rzZ,δ,ε]
 .rw[show qu l=([],(132,1,1)) from if_pos om];exact FzD.tup (.cons .nils (.cons (.agg (.pc haa)) .nil))
 .have hl:l.length<=65536:=om
  rw[show qu l=J0 l (1,1) from if_neg om];refine yA (λmm L s=>∃ (a:Nat) (p:Nat×Nat) (acc:List Tk) (v:AV),a<=l.length/\mm=l.length - a/\p.1+(l.length - a)<=l.length+1/\p.2+(l.length - a)<=l.length+1/\1<=p.2/\acc.length<=a/\ahead acc (J0 (l.drop a) p)=J0 l (1,1)/\2<=s.nx/\Cl s 0 [.int .i64 0,.int .i64 0,.int .i64 0]/\Cl s 1 (cC l a p)/\Lv 2 s.nx s v acc.length (fl Tk.cells acc) 5/\Has L 3 (.ptr 0 0)/\Has L 4 (.ptr 1 0)/\Has L 5 v) ?_ l.length ?_
  .rintro mm L s ⟨a,p,acc,v,ha,rfl,h1,h2,h3,h4,h5,h6,C0,C1,V,i3,i4,i5⟩;obtain⟨m,hm⟩:∃ m,m=s.nx:=⟨_,rfl⟩;rw[<-hm] at V;have hm':m<=s.nx:=QaM hm;have hgl:=Kc (l.drop a);rw[QaB] at hgl;have W:=Vc ((l.drop a).take (qg (l.drop a))) p h3;have hlt:((l.drop a).take (qg (l.drop a))).length=qg (l.drop a):=by rw[Qal,QaB];omega
   rw[hlt] at W;have B:=λst q=>@jmB base hb l a p ha om om h3 om st q;rcases hx:y8 ((l.drop a).drop (qg (l.drop a))) (qj p ((l.drop a).take (qg (l.drop a)))) with ⟨e,t,n⟩
   have hN:=hx;rw[Qbz] at hN;have hnl:=KW hN;rw[QaB] at hnl;have N:=λst q=>@jrD base hb hP l (a+qg (l.drop a)) e n t (qj p ((l.drop a).take (qg (l.drop a)))) om om om om W.2.2 hN st q;have B1:=λK Kp=>B s 1 C1 K Kp;have N1:=λK Kp=>N (wr s 1 0 (cC l (a+qg (l.drop a)) (qj p ((l.drop a).take (qg (l.drop a)))))) 1 (C1.wr0 rfl) K Kp;clear B N;have hT:t.line=(qj p ((l.drop a).take (qg (l.drop a)))).1/\t.col=(qj p ((l.drop a).take (qg (l.drop a)))).2:=jl0 hN;generalize hq:qj p ((l.drop a).take (qg (l.drop a)))=q at *;generalize hg:qg (l.drop a)=g at *;have aE:=λ(he:e≠0)=>jj6 (acc:=acc) (by rw[hg,hq];exact hx) he;have W2:=Vc ((l.drop (a+g)).take n) q W.2.2;have hlt2:((l.drop (a+g)).take n).length=n:=by rw[Qal,QaB];omega
   rw[hlt2] at W2;have A:=λst bv xc xx K h hv=>@JK 2 m acc.length 5 st v (fl Tk.cells acc) K 48 bv xc xx h dc om om hv;have V2:∀ st m',Lv 2 m st v acc.length (fl Tk.cells acc) 5->2<=st.nx->m'=st.nx+1->Lv 2 m' (aps v st t.cells) (apv 5 v st) (acc ++ [t]).length (fl Tk.cells (acc ++ [t])) 5:=λst m' h h2 h3=>by
    rw[ν,QH,Qf];exact h.put (Tk.cells_l t) h2 h3
   unfold cC at *;by_cases he:e=0
   .subst he;have hk:=Gd hN;by_cases hn:n=0
    .subst hn;have k5:t.kind=5:=hk.1.2 rfl
     (have zz:=a4 V.ln @jA @jG (aI @V (aI C0.r C1.r));repeat' first|apply jb<;>intro _|simp(disch:=try exact jmv) only[ja i3,ja i4,ja i5,B1,N1,A,V.at,C0.q,C1.q,V.ln,jA,jG,V,C0.r,C1.r,Tk.cells_R,rzZ,δ,ε])
     rw[<-h5,jj7 (by rw[hg,hq];exact hx)];refine FzD.tup (.cons ((?_:Lv 2 (s.nx+3) _ _ _ _ 5).fz (Qaa _) (za Tk.cells_p _)) (.cons (.agg (.pc haa)) .nil));simp(disch:=first|decide|omega) only[jH,jA];refine V2 _ _ ?_ (by simp only[jg,jn];omega) (by simp only[jg,jn]);simp(disch:=first|decide|omega|(simp only[jg,jn];omega)) only[jH,jA,jG];exact V
    .have k5:¬ (t.kind:Int)=5:=λh=>hn (hk.1.1 om)
     (have zz:=a4 V.ln @jA @jG (aI @V (aI C0.r C1.r));repeat' first|apply jb<;>intro _|simp(disch:=try exact jmv) only[ja i3,ja i4,ja i5,B1,N1,A,V.at,C0.q,C1.q,V.ln,jA,jG,V,C0.r,C1.r,Tk.cells_R,rzZ,δ,ε])
     have hA:=jhz (acc:=acc) (show y8 ((l.drop a).drop (qg (l.drop a))) (qj p ((l.drop a).take (qg (l.drop a))))=(0,t,n) by rw[hg,hq];exact hx) hn;rw[hg,hq] at hA;simp only[Qbz,<-Qbt] at hA;refine⟨l.length - (a+g+n),om,a+g+n,qj q ((l.drop (a+g)).take n),acc ++ [t],?_,om,rfl,om,om,W2.2.2,by rw[ν,Qbb];omega,by rw[<-h5,hA],om,?_,?_,?_,?_,?_,?_⟩;rotate_left
     .simp(disch:=first|decide|omega|(simp only[jg,jn];omega)) only[V.cl,jB,jD];exact C0
     .simp(disch:=first|decide|omega|(simp only[jg,jn];omega)) only[V.cl,jB,jD];exact(C1.wr0 haa).wr0 haa
     .refine V2 _ _ ?_ ?_ ?_;all_goals first|(simp only[jg,jn];done)|(simp only[jg,jn];omega)|(simp(disch:=first|decide|omega|(simp only[jg,jn];omega)) only[jH,jA,jG];exact V)
     .simp(disch:=decide) only[h12,i3]
     .simp(disch:=decide) only[h12,i4]
     .simp(disch:=decide) only[h12]
   ·(have zz:=a4 V.ln @jA @jG (aI @V (aI C0.r C1.r));repeat' first|apply jb<;>intro _|simp(disch:=try exact jmv) only[ja i3,ja i4,ja i5,B1,N1,A,V.at,C0.q,C1.q,V.ln,jA,jG,V,C0.r,C1.r,Tk.cells_R,rzZ,δ,ε])
    rw[<-h5,aE he];exact FzD.tup (.cons .nils (.cons (.agg (.pc haa)) .nil))
  .refine⟨0,(1,1),[],.nils,om,rfl,om,om,μ _,Qaa _,jj5 _ _,μ _,?_,?_,Lv.nil,?_⟩
   .simp(disch:=first|assumption|decide|omega|(simp only[jg,jn,jp,jt,jo,yu,ξ,φ];first|done|omega)) only[jB,jD,jz];exact Cl.new st0 _
   .exact Cl.new (nw st0 _) _
   .simp(disch:=decide) only[h12]
def jk3:XC:=(OL (T4 2 4) [OP 5 2,oI 6 5,Ic 7 .eql 6 3,oz 8 7,Oq 9 8 0 2,Ow 10 8 9,O7 11 8 .eql 10 4,Td 12 8 11,oz 13 12,I0 14 13 1,Oz 15 13 1 2,Ox 16 13 15,Tn 17 (13,true) 144 [14,16],Tc 18 13 17,TM 18])
def jqo:XF:=⟨[0,1],jk3,[(.t 4)]⟩
theorem juO:jy γ 119=some jqo:=Qa0
def jk0:XC:=(OV [TU 3,IE 4 1,IE 5 2,TA 6] (IV [O0 7 14] 0 (.seq (O5 [oz 8 7,O4 9 .lss 8 31] 9 (.exit 0)) (IA 1 (Os [Tr 12 7,(TS 13 147 12 0 [],some [OQ 13,Ia (Tw 14 3) 0,Ik (oI 15 14) 14 9 [(1,0)],Ia (Ib 16 Ir) 0]),IY 14 1 3,On 15 14 14 9 [(1,0)],IP (ow 16 (.strb .eql 13 15))] (Tj 16 [oz 17 7,Ta 18 4,Ta 19 5,Iu 20 2 6 OJ [((0,6),18),((6,6),19)],Tm 21 3,oI 22 21,oF 23 4 3,oI 24 23,Iw 25 OJ [((0,1),17),((3,1),20),((4,1),22),((5,1),24)],TW 6 25] .skip)) [oz 10 7,TB 11 10 1,oy 7 11]))) [Iw 26 OJ [],TW 6 26])
def jql:XF:=⟨[0,1,2],jk0,[(.cA 6 6)]⟩
theorem juL:jy γ 129=some jql:=Qa0
def z94:XC:=(OL [O6 0] [TJ 1 1 oK [Ov 0 [60,45,62]],Iw 2 [.nils,oB] [((0,1),1),((1,1),ON)],TJ 3 1 oK [Ov 0 [45,62]],Iw 4 [.nils,oB] [((0,1),3),((1,1),Th)],TJ 5 1 oK [OU 0 124],Iw 6 [.nils,oB] [((0,1),5),((1,1),ON)],TJ 7 1 oK [OU 0 38],Iw 8 [.nils,oB] [((0,1),7),((1,1),ON)],TJ 9 4 oK [OU 0 85,OU 1 82,OU 2 83,OU 3 84],Iw 10 [.nils,oB] [((0,1),9),((1,1),Th)],TJ 11 6 oK [OU 0 61,Ov 1 [33,61],OU 2 60,Ov 3 [60,61],OU 4 62,Ov 5 [62,61]],Iw 12 [.nils,oB] [((0,1),11),((1,1),IT 2)],TJ 13 2 oK [OU 0 43,OU 1 45],Iw 14 [.nils,oB] [((0,1),13),((1,1),ON)],TJ 15 1 oK [OU 0 42],Iw 16 [.nils,oB] [((0,1),15),((1,1),ON)],Iu 17 8 2 [.nils,oB] [((0,2),2),((2,2),4),((4,2),6),((6,2),8),((8,2),10),((10,2),12),((12,2),14),((14,2),16)],oy 0 17])
def y94:XF:=⟨[],z94,[(.t 0)]⟩
theorem x94:jy γ 101=some y94:=Qa0
def z77:XC:=(ov [IE 3 1] (OA [IZ 4,O4 5 .geq 4 32] 5 [oV 6 5 3,Oy 7 74 6]))
def y77:XF:=⟨[0,1],z77,[]⟩
theorem x77:jy γ 87=some y77:=Qa0
def z50:XC:=(ov [TU 1] (.ops [Tm 2 1,oI 3 2,oF 4 4 1,oI 5 4,Iw 6 [oB,oB,oB] [((0,1),IT 151),((1,1),3),((2,1),5)],ol 7 (.iface 45 6),o4 (.pan 7)]))
def y50:XF:=⟨[0],z50,[]⟩
theorem x50:jy γ 74=some y50:=Qa0
def z49:XC:=(oY [o9 2 [oB,oK,oB,oB,oB]] (.cops [Lc 3,IG (IR 4 3),IG (OP 5 4),OS 6 5,Lc 7,IG (IR 8 7),IG (Tw 9 8),OS 10 9,IG (Il 11 5 6 10),IG (oV 12 5 11),IG (o6 5 2 12)]) .ret)
def y49:XF:=⟨[0],z49,[(.cA 2 5)]⟩
theorem x49:jy γ 73=some y49:=Qa0
def z76:XC:=(ov (TH (o9 4 [oB,oK,oB,oB,oB]) 5) (Og [IZ 7,Oy 8 73 7,o9 6 [oB,oK,oB,oB,oB],o6 5 6 8] [oV 9 5 6,OZ 10,OB 11 119 9 10,OW 12 11] 12 [oV 13 5 6,o6 5 4 13,Om 5] (OL [IZ 14,IR 15 14,Tw 16 15,oI 17 16,TB 18 17 1,IR 19 14,Tw 20 19,o6 1 20 18] [oV 21 5 6,o6 5 4 21,Tb 5])))
def y76:XF:=⟨[0,1],z76,[(.cA 4 5),(.t 5)]⟩
theorem x76:jy γ 86=some y76:=Qa0
def G8:XC:=(ov [IZ 7,OZ 8,TJ 9 1 oK [((0,1),8)],OB 10 86 7 9,oz 6 10,Tx 11 6,Ty 12 6,o9 4 [oB,oK,oB,oB,oB],o6 5 4 11,oy 5 12] (OA [Ld 13,OW 14 13] 14 [oV 15 5 4,Oy 16 74 15]))
def jlp:XF:=⟨[0,1],G8,[]⟩
theorem jqM:jy γ 121=some jlp:=Qa0
def jcf:XC:=(ov [o9 2 [oB,oK,oB,oB,oB]] (oY [IZ 4,Oy 5 73 4,o9 3 [oB,oK,oB,oB,oB],o6 5 3 5] (OA [OP 6 3,oI 7 6,O4 8 .neq 7 1] 8 [oV 9 5 3,Oy 10 74 9]) (OL [IZ 11,IR 12 11,Tw 13 12,oI 14 13,TB 15 14 1,IR 16 11,Tw 17 16,o6 1 17 15] [oV 18 5 3,o6 5 2 18])))
def jlq:XF:=⟨[0],jcf,[(.cA 2 5)]⟩
theorem jqN:jy γ 120=some jlq:=Qa0
def W7:XC:=(O9 [I3 2] [IZ 7,TJ 8 1 oK [OU 0 45],OB 9 86 7 8,oz 6 9,Tx 10 6,Ty 11 6,ol 3 (.alloc [oB,oK,oB,oB,oB]),o6 5 3 10,TM 11] (oY [IZ 12,Oy 13 73 12,o9 5 [oB,oK,oB,oB,oB],o6 5 5 13] (OA [OP 14 5,oI 15 14,O4 16 .neq 15 2] 16 [oV 17 5 5,Oy 18 74 17]) (Og [IZ 19,IR 20 19,Tw 21 20,oI 22 21,TB 23 22 1,IR 24 19,Tw 25 24,o6 1 25 23] [oy 26 4] 26 [Lg 27 5,oI 28 27,ol 29 (.un .neg 28),Tq 29] (o5 [Lg 30 5,oI 31 30,Tq 31]))))
def jch:XF:=⟨[0],W7,[(.t 2)]⟩
theorem jgi:jy γ 122=some jch:=Qa0
def jcd:XC:=(ov [IZ 2,IR 3 2,Lg 4 3,oI 5 4,TB 6 5 1,IR 7 2,Lg 8 7,o6 1 8 6] (OA [IZ 9,IR 10 9,Lg 11 10,oI 12 11,O4 13 .gtr 12 60] 13 [IZ 14,Oy 15 73 14,Oy 16 74 15]))
def jln:XF:=⟨[0],jcd,[]⟩
theorem jqK:jy γ 146=some jln:=Qa0
def QV:XC:=(O9 [TA 2] [IZ 5,Oy 6 73 5,o9 3 [oB,oK,oB,oB,oB],o6 5 3 6] (oY [Tm 7 3,oI 8 7,oF 9 4 3,oI 10 9,Iw 11 OJ [((4,1),8),((5,1),10)],TA 4,TW 4 11] (.block 0 (oL [OP 15 3,oI 16 15,Ic 17 .eql 16 2,oy 14 17] 14 (.dops [IY 18 2 3,Tt 19 18 18 2,IY 20 0 4,Tz 1 20 Th [(1,2)],IY 21 1 4,TV 1 21 19]) (oL [OP 23 3,oI 24 23,Ic 25 .eql 24 1,oy 22 25] 22 (.dops [IY 26 1 3,Tt 27 26 26 9,IY 28 0 4,Tz 1 28 (IT 3) [(1,9)],IY 29 2 4,TV 1 29 27]) (oL [oV 31 5 3,TJ 32 1 oK [Ov 0 [116,114,117,101]],OB 33 119 31 32,oy 30 33] 30 (.ops [OP 34 4,o6 1 34 (IT 2),Tw 35 4,o6 1 35 Th]) (oL [oV 37 5 3,TJ 38 1 oK [Ov 0 [102,97,108,115,101]],OB 39 119 37 38,oy 36 39] 36 (.ops [OP 40 4,o6 1 40 (IT 2)]) (oL [oV 42 5 3,TJ 43 1 oK [OU 0 40],OB 44 119 42 43,oy 41 44] 41 (O9 [IZ 45,IR 46 45,Tw 47 46,oI 48 47,TB 49 48 1,IR 50 45,Tw 51 50,o6 1 51 49] [IZ 52,Oy 53 146 52] (O9 [IZ 54,Iq 55 101 [],OB 56 100 54 55,TW 4 56] [IZ 57,IR 58 57,Lg 59 58,oI 60 59,Ic 61 .sub 60 1,IR 62 57,Lg 63 62,o6 1 63 61] (OL [IZ 64,OB 65 121 64 (o8 [41])] [Ta 66 4,TW 2 66]))) (.ops [oV 12 5 3,Oy 13 74 12]))))))) (OL [IZ 67,IR 68 67,Tw 69 68,oI 70 69,TB 71 70 1,IR 72 67,Tw 73 72,o6 1 73 71] [Ta 74 4,TW 2 74])))
def Wn:XF:=⟨[0],QV,[(.cA 2 6)]⟩
theorem W9:jy γ 145=some Wn:=Qa0
def vZ:XC:=(ov [TA 2] (Og [IZ 8,TJ 9 9 oK [OU 0 45,OU 1 33,OU 2 88,OU 3 70,OU 4 71,OU 5 89,OU 6 90,OU 7 79,OU 8 72],OB 10 86 8 9,oz 7 10,Tx 11 7,Ty 12 7,o9 3 [oB,oK,oB,oB,oB],o6 5 3 11,TM 12] [TZ 13,OW 14 13] 14 [IZ 15,Oy 16 145 15,TW 2 16] (ov [IZ 17,Oy 18 146 17] (O9 [IZ 19,Oy 20 128 19,TA 5,TW 5 20] [IZ 21,IR 22 21,Lg 23 22,oI 24 23,Ic 25 .sub 24 1,IR 26 21,Lg 27 26,o6 1 27 25] (OV [O0 6 5] (Ie 0 (.seq (Os [Tr 28 6,(TS 29 147 28 0 [],some [OQ 29,Ia (Tw 30 3) 0,Ik (oI 31 30) 30 9 [(1,0)],Ia (Ib 32 Ir) 0]),IY 30 1 3,On 31 30 30 9 [(1,0)],IP (ow 32 (.strb .neq 29 31))] (IU 32 0)) (.block 1 (.ops [T0 33,TB 34 33 1,oy 6 34])))) [T0 35,Ta 36 5,Iu 37 1 6 OJ [((0,6),36)],Tm 38 3,oI 39 38,oF 40 4 3,oI 41 40,Iw 42 OJ [((0,1),35),((3,1),37),((4,1),39),((5,1),41)],TW 2 42])))))
def Ha:XF:=⟨[0],vZ,[(.cA 2 6)]⟩
theorem jcs:jy γ 128=some Ha:=Qa0
def z93:XC:=(Og [TA 4] [OZ 8,I5 9 8,ow 10 (TK 9)] 10 [IZ 11,Oy 12 128 11,TW 4 12] (IV [IZ 13,OZ 14,ol 15 (.slS 2 14 (some Th) none),OB 16 100 13 15,TA 5,TW 5 16] 0 (.block 1 (Og [IZ 18,OZ 19,Il 20 2 19 ON,OP 21 20,oI 22 21,OB 23 86 18 22,oz 17 23,Tx 24 17,Ty 25 17,o9 6 [oB,oK,oB,oB,oB],o6 5 6 24,oy 7 25] [oz 26 7,OW 27 26] 27 [Ta 28 5,TW 4 28] (.seq (Id [OZ 29,Il 30 2 29 ON,Tw 31 30,oI 32 31,O4 33 .eql 32 1] 33 (Lj [La 34 5 6 6 146,La 35 6 5 5 29,IP (IZ 36),IP (OZ 37),(Iy (OB 38 100 36 37) 0 [(2,29),(3,146)],OK),(Iy (Iq 39 129 [34,35,38]) 0 [],OK),TV 6 4 39])) (Os [La 40 5 6 6 146,La 41 6 5 5 29,IP (IZ 42),IP (OZ 43),IP (ol 44 (.slS 2 43 (some Th) none)),(Iy (OB 45 100 42 44) 0 [(3,29),(4,146)],OK),(Iy (Iq 46 129 [40,41,45]) 0 [],OK),TV 6 5 46] (Iz [OZ 47,Il 48 2 47 ON,Tw 49 48,oI 50 49,O4 51 .eql 50 2] 51 [Ta 52 5,TW 4 52])))))))
def y93:XF:=⟨[0,1],z93,[(.cA 4 6)]⟩
theorem x93:jy γ 100=some y93:=Qa0
def z48:XC:=(O9 [TA 2] [IZ 5,Oy 6 73 5,o9 3 [oB,oK,oB,oB,oB],o6 5 3 6] (OV [IZ 7,Iq 8 101 [],OB 9 100 7 8,TA 4,TW 4 9] (OA [Ta 10 4,Oy 11 102 10,OW 12 11] 12 [oV 13 5 3,Oy 14 74 13]) [Ta 15 4,TW 2 15]))
def y48:XF:=⟨[0],z48,[(.cA 2 6)]⟩
theorem x48:jy γ 72=some y48:=Qa0
def jkP:XC:=(ov [Ib 2 oK] (Og [Iw 4 [oK,oK,oK,oK,oK,oK,oK,oK,oK,oK,oK,oK,oK,oK,oK,oK,oK,oK,oK,oK,oK,oK,oK,oK,oK,oK] [OU 0 45,OU 1 33,OU 2 88,OU 3 70,OU 4 71,OU 5 89,OU 6 90,OU 7 79,OU 8 72,OU 9 42,OU 10 43,OU 11 45,OU 12 61,Ov 13 [33,61],OU 14 60,Ov 15 [60,61],OU 16 62,Ov 17 [62,61],OU 18 85,OU 19 82,OU 20 83,OU 21 84,OU 22 38,OU 23 124,Ov 24 [45,62],Ov 25 [60,45,62]],o9 3 [oK,oK,oK,oK,oK,oK,oK,oK,oK,oK,oK,oK,oK,oK,oK,oK,oK,oK,oK,oK,oK,oK,oK,oK,oK,oK],o6 26 3 4] [IZ 5,Ic 6 .lss 5 5,T0 7,II 8 7 0,O7 9 7 .geq 8 31,Lf 10 7 9] 10 [Ib 2 oK] (o5 [IZ 11,Ic 12 .sub 11 5,OM 13 26 1 3 12,oI 14 13,Tq 14])))
def jp9:XF:=⟨[0],jkP,[(.t 2)]⟩
theorem juz:jy γ 147=some jp9:=Qa0
def jkO:XC:=(OV [I3 2] (.block 0 (oL [IZ 4,Ic 5 .geq 4 5,Ld 6,I0 7 6 0,Te 8 6 .leq 7 13,Tc 9 6 8,oy 3 9] 3 (o5 [O0 2 1]) (Iz [IZ 11,Ic 12 .geq 11 14,oz 13 12,I0 14 13 0,Te 15 13 .lss 14 31,Tc 16 13 15,oy 10 16] 10 [O0 2 2]))) [I3 2])
def jp8:XF:=⟨[0],jkO,[(.t 2)]⟩
theorem juy:jy γ 148=some jp8:=Qa0
def jkN:XC:=(OV (T4 1 2) (T9 [OP 3 1,Oi 4 3] 0 (Tf 6 4 1 5 6 5 [Tw 7 1,oI 8 7,ol 9 (O8 .geq 8),oz 10 9,Oz 11 10 1 1,Ox 12 10 11,Te 13 10 .leq 12 1000000,Tc 14 10 13,oz 15 14,Oz 16 15 2 1,Ox 17 15 16,Ih 18 15 (.strb .eql 17 (.c oK)),Tc 19 15 18,Tq 19] (Tf 21 4 2 20 21 20 [Tw 22 1,oI 23 22,ol 24 (TK 23),oz 25 24,Oq 26 25 1 1,Ow 27 25 26,O7 28 25 .eql 27 1,Td 29 25 28,oz 30 29,Oz 31 30 2 1,Ox 32 30 31,Ih 33 30 (.strb .eql 32 (.c oK)),Tc 34 30 33,Tq 34] (Tf 36 4 3 35 36 35 [Tw 37 1,oI 38 37,ol 39 (TK 38),oz 40 39,Oz 41 40 2 1,Ox 42 40 41,Tn 43 (40,true) 165 [42],Tc 44 40 43,Tq 44] (Iz (IW 46 4 4 45 46) 45 [Lg 47 1,oI 48 47,Ts 49 48 (.c oK),Tq 49]))))) [Tw 50 1,oI 51 50,ol 52 (TK 51),oz 53 52,Oz 54 53 2 1,Ox 55 53 54,Ih 56 53 (.strb .eql 55 (.c oK)),Tc 57 53 56,Tq 57])
def jp7:XF:=⟨[0],jkN,[(.t 2)]⟩
theorem jux:jy γ 149=some jp7:=Qa0
def z95:XC:=(OL (T4 1 2) [Ta 3 1,OB 4 130 3 (IT 60),Tq 4])
def y95:XF:=⟨[0],z95,[(.t 2)]⟩
theorem x95:jy γ 102=some y95:=Qa0
def jce:XC:=(OV [TU 2,IE 3 1,Om 4] (Os [IY 5 0 2,Tt 6 5 5 3,IP (Ic 7 .lss 6 1),Tr 8 7,IP (Oq 9 8 0 2),ID (Ow 10 8 9) 9 3 [],IP (O7 11 8 .geq 10 31),IP (Td 12 8 11),Tr 13 12,ID (Ow 14 13 3) 3 3 [],IP (O7 15 13 .lss 14 1),IP (Td 16 13 15),Tr 17 16,IP (Oq 18 17 3 2),ID (Ow 19 17 18) 18 27 [],IP (TR 20 17 19),IP (Oq 21 17 0 2),ID (Ow 22 17 21) 21 3 [],(Iy (Li 23 17 148 [22]) 0 [(3,27)],OK),IP (Ig 24 17 (.bin .neq 20 23)),IP (Td 25 17 24),Tr 26 25,ID (O1 27 26 6 2) 2 29 [],(Iy (Li 28 26 149 [27]) 0 [],OK),IP (TT 29 26 28),IP (Lf 30 26 29)] (Tj 30 Tv .skip)) [Tm 31 2,oI 32 31,ol 33 (.fn 151 [3]),OB 34 150 32 33,TN 35 34,TM 35])
def jlo:XF:=⟨[0,1],jce,[(.t 4)]⟩
theorem jqL:jy γ 130=some jlo:=Qa0
def jkL:XC:=(OL (T4 2 3) [Ta 4 2,oI 5 1,Ic 6 .sub 5 1,OB 7 130 4 6,TN 8 7,oy 3 8])
def jp5:XF:=⟨[0,1],jkL,[(.t 3)]⟩
theorem juv:jy γ 151=some jp5:=Qa0
def jkM:XC:=(OL Tv [IZ 5,OZ 6,OB 7 166 5 6,ol 8 (O8 .geq 7),TM 8])
def jp6:XF:=⟨[0,1],jkM,[(.t 4)]⟩
theorem juw:jy γ 150=some jp6:=Qa0
def jkG:XC:=(OV [I3 4] (T8 [IZ 6,IQ 7 6,I3 8] 0 9 8 7 9 0 1 (Tg 10 8 5 10) (Iz [OZ 11,IZ 12,Ld 13,Il 14 6 12 13,Ta 15 14,T6 16 11 [15]] 16 (Tg 17 5 4 17)) 18 8 8 18) [O0 4 (-(0+1))])
def jp0:XF:=⟨[0,1],jkG,[(.t 4)]⟩
theorem juq:jy γ 166=some jp0:=Qa0
def jkQ:XC:=(OL Tv [IZ 5,OZ 6,OB 7 164 5 6,ol 8 (O8 .geq 7),TM 8])
def jqa:XF:=⟨[0,1],jkQ,[(.t 4)]⟩
theorem juA:jy γ 144=some jqa:=Qa0
def jkI:XC:=(OV [I3 4] (T8 [IZ 6,IQ 7 6,I3 8] 0 9 8 7 9 0 1 (Tg 10 8 5 10) (Iz [OZ 11,IZ 12,Ld 13,Lk 14 12 13,oI 15 14,ow 16 (.strb .eql 11 15)] 16 (Tg 17 5 4 17)) 18 8 8 18) [O0 4 (-(0+1))])
def jp2:XF:=⟨[0,1],jkI,[(.t 4)]⟩
theorem jus:jy γ 164=some jp2:=Qa0
def jkH:XC:=(Og Ll [IZ 3,Ts 4 3 (.c oK),TZ 5,II 6 5 0,Ig 7 5 (.lenS 6),O7 8 5 .gtr 7 32,Td 9 5 8,oz 10 9,II 11 10 0,Ig 12 10 (.ixStr 11 ON),Li 13 10 113 [12],TT 14 10 13,Td 15 10 14,oz 16 15,II 17 16 0,Li 18 16 115 [17],Lf 19 16 18] 19 Ll (o5 [IZ 20,OB 21 108 20 (oR 114 []),IZ 22,ol 23 (.lenS 22),IX 24 .eql 21 23,Tq 24]))
def jp1:XF:=⟨[0],jkH,[(.t 2)]⟩
theorem jur:jy γ 165=some jp1:=Qa0
theorem dzD {p:Prop}(h:p:=by first|assumption|decide|omega|(simp only[qV,Tk.cells_E,rzN,ξ,φ];first|done|omega)|(apply Qu<;>first|omega|((simp(disch:=first|assumption|omega|(simp only[qV,Tk.cells_E,rzN,ξ,φ];first|done|omega)) only[rzL,ξ,φ,Qaj,δ,qV,Tk.cells_E ])<;>first|done|omega))|(simp(disch:=first|assumption|omega|(simp only[qV,Tk.cells_E,rzN,ξ,φ];first|done|omega)) only[qV,Tk.cells_E,rzG,θ,κ,ε,QaL,ξ,φ,Qag,Qam];first|done|omega|decide)):p:=h
theorem cyD {p:Prop}(h:p:=by apply Qu<;>first|omega|((simp(disch:=first|assumption|omega|(simp only[qV,Tk.cells_E,rzN,ξ,φ];first|done|omega)) only[rzL,ξ,φ,Qaj,δ,qV,Tk.cells_E])<;>first|done|rfl|omega|(simp;done)|(simp;omega))):p:=h
theorem qW {p:Prop}(h:p:=by first|assumption|decide|omega|(simp only[qV,Tk.cells_E,zz,rzN,ξ,φ];first|done|omega)|(apply Qu<;>first|omega|((simp(disch:=first|assumption|omega|(simp only[qV,Tk.cells_E,zz,rzN,ξ,φ];first|done|omega)) only[rzL,ξ,φ,Qaj,δ,qV,Tk.cells_E,zz ])<;>first|done|omega))|(simp(disch:=first|assumption|omega|(simp only[qV,Tk.cells_E,zz,rzN,ξ,φ];first|done|omega)) only[qV,Tk.cells_E,zz,rzG,θ,κ,ε,QaL,ξ,φ,Qag,Qam];first|done|omega|decide)):p:=h
theorem qt {p:Prop}(h:p:=by apply Qu<;>first|omega|((simp(disch:=first|assumption|omega|(simp only[qV,Tk.cells_E,zz,rzN,ξ,φ];first|done|omega)) only[rzL,ξ,φ,Qaj,δ,qV,Tk.cells_E,zz])<;>first|done|rfl|omega|(simp;done)|(simp;omega))):p:=h
theorem vyD {p:Prop}(h:p:=by first|exact FzD.u|exact FzD.pa haa|exact FzD.agg (.pc haa)|exact FzD.tup (.cons (FzD.agg (.pc haa)) (.pc haa))|exact FzD.iface (FzD.agg (.pc haa))|exact Y1|(rw[<-qA];exact FzD.agg (.pc (ya _)))|exact FzD.agg (.pc (by simp only[ya,Tk.cells_p]))):p:=h
theorem Um {S:Lq}{k:Nat}(h:k<S.length):(S.map AV.str).getD k .bad=.str S[k]:=by simp[Qac,h]
theorem r6:type_of%(aI @jd (aI @Tk.cells_R @rzZ)):=aI @jd (aI @Tk.cells_R @rzZ)
theorem jn2 (hb:NB base)(S:Lq)(hn:S.length<=1000000)(x:Lt):Tot base 164 [.lst S.length (S.map .str),.str x] (.int .i64 (fi (λy=>decide (x=y)) S)):=by
 refine hb.tot ?_ rfl rfl;refine jE jus haa (hb.pur 164 1 dc) ?_;simp only[jp2,jr,ζ,η,θ,κ];rw[(by unfold jkI;simp only[qq];rfl:jkI=_)];repeat' first|apply jb<;>intro _|simp(disch:=try exact dzD) only[r6,δ,ε]
 refine jV S.length (λk L s=>(∀ j (h1:j<S.length),j<k->decide (x=S[j])=false)/\Has L 0 (.lst S.length (S.map .str))/\Has L 1 (.str x)) ?_ (λk L s hk hI hi hn=>?_) (λL s hI=>?_)
 .refine⟨λj _ hj=>absurd hj (Qas _),?_⟩;simp(disch:=decide) only[h12]
 .obtain⟨h0,i0,i1⟩:=hI;have hl:(S.map AV.str).length=S.length:=Qad ..;have e:=Um hk
  (have zz:=@hl;repeat' first|apply jb<;>intro _|simp(disch:=try exact qW) only[ja i0,ja i1,ja hi,JD,e,hl,r6,δ,ε])
  .exact G0.v (by rw[u7 hk (λj hj=>h0 j om hj) (by simpa using ‹x=S[k]›)]) rfl
  .refine⟨⟨λj h1 hj=>?_,?_⟩,?_⟩
   .rcases Qat j k with h|h
    .simpa using h0 j h1 h
    .have:j=k:=om
     subst this;simpa using ‹¬ x=S[j]›
   .simp(disch:=decide) only[h12,i0,i1]
   .simp(disch:=decide) only[h12,hi,hn]
 .obtain⟨h0,i0,i1⟩:=hI;repeat' first|apply jb<;>intro _|simp(disch:=try exact dzD) only[r6,δ,ε]
  exact G0.v (by rw[u6 λj hj=>h0 j hj hj];rfl) rfl
theorem jbX {α:Type}(q:α->Bool):∀ xs:List α,decide (0<=fi q xs)=xs.any q
 |[]=>rfl
 |x :: xs=>by
  have ih:=jbX q xs;by_cases h:q x=true
  .simp[fi,h]
  .rw[List.any_cons,<-ih];simp only[fi,h,if_false,Bool.false_or];by_cases h2:fi q xs<0
   .rw[if_pos h2];simp;omega
   .rw[if_neg h2];simp;omega
theorem jpl (x:Lt)(S:Lq):(S.any λy=>decide (x=y))=decide (x∈S):=by
 induction S with
 |nil=>rfl
 |cons y S ih=>rw[List.any_cons,ih];simp
theorem js2 (hb:NB base)(S:Lq)(hn:S.length<=1000000)(x:Lt):Tot base 144 [.lst S.length (S.map .str),.str x] (.bool (decide (x∈S))):=by
 refine hb.tot ?_ rfl rfl;refine jE juA haa (hb.pur 144 1 dc) ?_;simp only[jqa,jr,ζ,η,θ,κ];rw[(by unfold jkQ;simp only[qq];rfl:jkQ=_)];repeat' first|apply jb<;>intro _|simp(disch:=try exact dzD) only[jn2 hb S hn x,r6,δ,ε]
 exact G0.v (by rw[jbX,jpl]) rfl
def isM (t:Tk)(S:Lq):Bool:=decide (t.kind=3\/t.kind=4) && decide (t.text∈S)
theorem jsX (hb:NB base)(t:Tk)(S:Lq)(hn:S.length<=1000000):PX γ base 119 [.agg t.cells,.lst S.length (S.map .str)] (.ok (.bool (isM t S))):=by
 refine jE juO haa (hb.pur 119 1 dc) ?_;simp only[jqo,jr,ζ,η,θ,κ];rw[(by unfold jk3;simp only[qq];rfl:jk3=_)];repeat' first|apply jb<;>intro _|simp(disch:=try exact dzD) only[js2 hb S hn,r6,δ,ε]
 all_goals(refine G0.v ?_ rfl;unfold isM;simp;try omega)
theorem jsW (hb:NB base)(t:Tk)(S:Lq)(hn:S.length<=1000000):Tot base 119 [.agg t.cells,.lst S.length (S.map .str)] (.bool (isM t S)):=hb.tot (jsX hb t S hn) rfl rfl
def er (t:Tk):AV:=.iface 45 (.agg [.int .i64 151,.int .i64 (t.line:Int),.int .i64 (t.col:Int)])
theorem G0.er (t:Tk){s:St}:G0 (er t) (.iface 45 (.agg [.int .i64 151,.int .i64 (t.line:Int),.int .i64 (t.col:Int)])) s:=FzD.iface (FzD.agg (.pc rfl))
theorem QI (hb:NB base)(t:Tk):Ret base 74 [.agg t.cells] (.pn (er t)):=by
 refine hb.ret ?_ rfl rfl;refine jE x50 haa (hb.pur 74 1 dc) ?_;simp only[y50,jr,ζ,η,θ,κ];rw[(by unfold z50;simp only[qq];rfl:z50=_)];repeat' first|apply jb<;>intro _|simp(disch:=try exact dzD) only[r6,δ,ε]
 exact G0.er t
theorem jrP (hb:NB base)(op:Int):Tot base 148 [.int .i64 op] (.int .i64 (if 5<=op/\op<=13 then 1 else if 14<=op/\op<31 then 2 else 0)):=by
 refine hb.tot ?_ rfl rfl;refine jE juy haa (hb.pur 148 1 dc) ?_;simp only[jp8,jr,ζ,η,θ,κ];rw[(by unfold jkO;simp only[qq];rfl:jkO=_)];repeat' first|apply jb<;>intro _|simp(disch:=try exact dzD) only[r6,δ,ε]
 all_goals(refine G0.v ?_ rfl;repeat' split)<;>first|rfl|(exfalso;omega)|(simp_all;done)|(simp;omega)|(simp_all;omega)
def vM:Lq:=[[45],[33],[88],[70],[71],[89],[90],[79],[72],[42],[43],[45],[61],[33,61],[60],[60,61],[62],[62,61],[85],[82],[83],[84],[38],[124],[45,62],[60,45,62]]
def sgn (op:Int):Lt:=if 5<=op/\op<31 then vM.getD (op - 5).toNat [] else []
theorem jka (hb:NB base)(op:Int):Tot base 147 [.int .i64 op] (.str (sgn op)):=by
 refine hb.tot ?_ rfl rfl;refine jE juz haa (hb.pur 147 1 dc) ?_;simp only[jp9,jr,ζ,η,θ,κ];rw[(by unfold jkP;simp only[qq];rfl:jkP=_)];repeat' first|apply jb<;>intro _|simp(disch:=try exact dzD) only[r6,δ,ε]
 .exact G0.v (by rw[sgn,if_neg om]) rfl
 .exact G0.v (by rw[sgn,if_neg om]) rfl
 .have h26:(op - 5).toNat<vM.length:=by show(op - 5).toNat<26;omega
  show G0 _ ((vM.map AV.str).getD _ _) _;rw[QaL,Um h26];exact G0.v (by rw[sgn,if_pos om,Qak,Qaf h26];rfl) rfl
def nm (l:Lt):Bool:=decide (l≠[]) && decide (l.length<=32) && Jd (l.getD 0 0) && !HE l && decide (yd Jw l=l.length)
theorem jsU (hb:NB base)(l:Lt)(hl:l.length<=4611686018427387904):Tot base 165 [.str l] (.bool (nm l)):=by
 refine hb.tot ?_ rfl rfl;have e0:¬ l=[]->0<l.length:=λh=>by cases l<;>simp_all
 refine jE jur haa (hb.pur 165 1 dc) ?_;simp only[jp1,jr,ζ,η,θ,κ];rw[(by unfold jkH;simp only[qq];rfl:jkH=_)];by_cases h:l=[]
 .subst h;repeat' first|apply jb<;>intro _|simp(disch:=try exact dzD) only[r6,δ,ε]
  exact G0.v rfl rfl
 .have e1:(0:Int)<(l.length:Int):=by have:=e0 h;omega
  repeat' first|apply jb<;>intro _|simp(disch:=try exact dzD) only[KY hb,jke hb,gN hb l hl (jfo hb),h,e1,r6,δ,ε]
  all_goals(refine G0.v (congrArg AV.bool ?_) rfl;rw[QaA];unfold nm;simp_all<;>omega)
def uX (x:Ex):Bool:=
 if x.op=1 then decide (0<=x.num) && decide (x.num<=1000000) && decide (x.name=[])
 else if x.op=2 then(decide (x.num=0) ||decide (x.num=1)) && decide (x.name=[])
 else if x.op=3 then decide (x.num=0) && nm x.name
 else if x.op=4 then decide (x.name=[])
 else decide (x.num=0) && decide (x.name=[])
theorem jrO (hb:NB base)(x:Ex)(hl:x.name.length<=4611686018427387904):Tot base 149 [.agg (eE x)] (.bool (uX x)):=by
 refine hb.tot ?_ (by first|rfl|simp[pa,pc,ya,Tk.cells_p]) rfl;refine jE jux haa (hb.pur 149 1 dc) ?_;simp only[jp7,jr,ζ,η,θ,κ];rw[(by unfold jkN;simp only[qq];rfl:jkN=_)];repeat' first|apply jb<;>intro _|simp(disch:=try exact dzD) only[jsU hb _ hl,r6,δ,ε]
 all_goals(refine G0.v ?_ rfl;simp only[uX];simp[*];try omega)
theorem jiw (hb:NB base)(n:Nat)(t:Tk):Ret base 87 [.int .i64 (n:Int),.agg t.cells] (if 32<=n then .pn (er t) else .ok (.tup [])):=by
 refine hb.ret ?_ rfl rfl;refine jE x77 haa (hb.pur 87 1 dc) ?_;simp only[y77,jr,ζ,η,θ,κ];rw[(by unfold z77;simp only[qq];rfl:z77=_)];repeat' first|apply jb<;>intro _|simp(disch:=try exact dzD) only[QI hb,r6,δ,ε]
 .rw[if_pos om];exact FzD.iface (FzD.agg (.pc rfl))
 .rw[if_neg om];exact FzD.u
def XE (v:Lq×Nat):List AV:=[.lst v.1.length (v.1.map .str),.int .i64 (v.2:Int)]
def Jv:List (Lq×Nat):=[([[60,45,62]],0),([[45,62]],1),([[124]],0),([[38]],0),([[85],[82],[83],[84]],1),([[61],[33,61],[60],[60,61],[62],[62,61]],2),([[43],[45]],0),([[42]],0)]
theorem jdc (hb:NB base):Tot base 101 [] (.lst 8 (fl XE Jv)):=by
 refine hb.tot ?_ rfl rfl;refine jE x94 haa (hb.pur 101 1 dc) ?_;simp only[y94,jr,ζ,η,θ,κ];rw[(by unfold z94;simp only[qq];rfl:z94=_)];repeat' first|apply jb<;>intro _|simp(disch:=try exact dzD) only[r6,δ,ε]
 exact⟨[8,0,1,2,3,4,5,6,7],by kernel_rfl,λb _=>Qaa _⟩
theorem jfd {m d b cap:Nat}{s:St}{ks:List Ex}{op num l c:Int}{nm:Lt}{ex:Bool}{cs:List AV}(C:Cl s b cs)(hc:cs=fl eE ks)(hm:m<=b) :
  FzD m (d+4) s (.agg [.int .i64 op,.int .i64 num,.str nm,.slice b 0 ks.length cap 6 ex,.int .i64 l,.int .i64 c]) (.agg (eE (.mk op num nm ks l c))):=by
 subst hc;rw[qA];have hl:=zH zR ks;refine FzD.agg (.cons (.pc rfl) (.cons (.pc rfl) (.cons (.pc rfl) (.cons (FzD.slice C.rw_ (QaM hl.symm) hm ?_) (.pc rfl)))));rw[<-hl,Qab];exact .pc (za ya ks)
theorem Y1 {m d:Nat}{s:St}{op num l c:Int}{nm:Lt}:FzD m (d+2) s (.agg [.int .i64 op,.int .i64 num,.str nm,.nils,.int .i64 l,.int .i64 c]) (.agg (eE (.mk op num nm [] l c))):=by
 rw[qA];exact FzD.agg (.cons (.pc rfl) (.cons (.pc rfl) (.cons (.pc rfl) (.cons .nils (.pc rfl)))))
theorem jly:Go.Ev.isAgg γ 9=some false:=Qa0
theorem jlx:Go.Ev.sizeOf γ 9=some 1:=Qa0
theorem gM {t:TypeId}{b i:Nat}{cs:List AV}{v:AV}{s:St}(h1:Go.Ev.isAgg γ t=some false)(h2:Go.Ev.sizeOf γ t=some 1)(C:Cl s b cs)(hi:i<cs.length)(hv:cs.getD i .bad=v)(hc:eqs v=true):qb γ t (.ptr b i) v s.h=true:=
 Qz h1 h2 (by rw[C.len];exact hi) ((C.cell i hi).trans hv) hc
section
variable {st:St} {K:AV->St->Prop}
theorem jqZ {z vs:List AV}{o:Nat}{a:List AV}(ha:z.take o=a)(h:o+vs.length=z.length):upd z o vs=a ++ vs:=by
 rw[<-WG z o vs om,ha,h];simp
theorem jsO {cx cy:List AV}{z0 z1 z2 z3 z4 z5:AV}(hx:cx.length=6)(hy:cy.length=6)(hlx:lall AV.cell cx=true)(hly:lall AV.cell cy=true) :
  jq (H7 2 6 [z0,z1,z2,z3,z4,z5] [((0,6),.agg cx),((6,6),.agg cy)] st) K=K (.slice st.nx 0 2 2 6 true) (nw st (cx ++ cy)):=by
 have e1:upd ([z0,z1,z2,z3,z4,z5] ++ [z0,z1,z2,z3,z4,z5]) 0 cx=cx ++ [z0,z1,z2,z3,z4,z5]:=by
  rw[<-WG _ 0 cx (by rw[hx];exact Nat.le_add_left _ _),hx];rfl
 have e2:upd (cx ++ [z0,z1,z2,z3,z4,z5]) 6 cy=cx ++ cy:=jqZ (by rw[<-hx,List.take_left]) (by rw[ν,hx,hy];rfl);rw[jmM,kN,kN,gR,QaO,jb5 (v:=.agg cx) rfl hx (Nat.le_add_left 6 6),Zd,e1,jb5 (v:=.agg cy) rfl hy (by rw[ν,hx];exact μ 12),Zd,e2,jhC (by rw[jl6 _ _ hlx,hly])]
end
def vj (text:Lt):Option Nat:=(Qae 17).find? λi=>decide (sgn ((14+i:Nat):Int)=text)
def QY (t:Tk)(x y:Ex):Ex:=match vj t.text with
 |some i=>.mk ((14+i:Nat):Int) 0 [] [x,y] t.line t.col
 |none=>.mk 0 0 [] [] 0 0
theorem jlW {text:Lt}{i:Nat}(hi:i<17)(h:sgn ((14+i:Nat):Int)=text)(hj:∀ j,j<i->sgn ((14+j:Nat):Int)≠text):vj text=some i:=by
 unfold vj;rw[List.find?_range_eq_some];exact⟨by simpa using h,by simpa using hi,λj hj'=>by simpa using hj j hj'⟩
theorem jlV {text:Lt}(hj:∀ j,j<17->sgn ((14+j:Nat):Int)≠text):vj text=none:=by
 unfold vj;rw[List.find?_range_eq_none];exact λj hj'=>by simpa using hj j hj'
def zE:List AV:=[.int .i64 0,.int .i64 0,.str [],.nils,.int .i64 0,.int .i64 0]
theorem jtu (hb:NB base)(t:Tk)(x y:Ex):Tot base 129 [.agg t.cells,.agg (eE x),.agg (eE y)] (.agg (eE (QY t x y))):=by
 refine hb.tot ?_ (by first|rfl|simp[pa,pc,ya,Tk.cells_p]) rfl;refine jE juL haa (hb.pur 129 1 dc) ?_;simp only[jql,jr,ζ,η,θ,κ];rw[(by unfold jk0;simp only[qq];rfl:jk0=_)];repeat' first|apply jb<;>intro _|simp(disch:=try exact dzD) only[r6,δ,ε]
 have hC:=Cl.new st0 t.cells;have hs:qb γ 9 (.ptr 0 1) (.str t.text) (nw (nw (nw (nw st0 t.cells) (eE x)) (eE y)) zE).h=true:=gM jly jlx (((hC.nw _).nw _).nw _) (QbI (QaW 3)) rfl rfl;unfold zE at hs;refine yA (λmm L s=>∃ i:Nat,i<=17/\mm=17 - i/\s=nw (nw (nw (nw st0 t.cells) (eE x)) (eE y)) zE/\(∀ j,j<i->sgn ((14+j:Nat):Int)≠t.text)/\Has L 3 (.ptr 0 0)/\Has L 4 (.ptr 1 0)/\Has L 5 (.ptr 2 0)/\Has L 6 (.ptr 3 0)/\Has L 7 (.int .i64 ((14+i:Nat):Int))) ?_ 17 ?_
 .rintro mm L s ⟨i,hi,rfl,rfl,hj,i3,i4,i5,i6,i7⟩;unfold zE;have hS:=jka hb ((14+i:Nat):Int);repeat' first|apply jb<;>intro _|simp(disch:=try exact dzD) only[ja i3,ja i4,ja i5,ja i6,ja i7,hS,hs,↓jsO,r6,δ,ε]
  .have e:QY t x y=.mk ((14+i:Nat):Int) 0 [] [x,y] t.line t.col:=by unfold QY;rw[jlW om ‹_› hj]
   rw[e];refine jfd (ks:=[x,y]) (cs:=eE x ++ eE y) ?_ (by simp[fl]) (Qaa _);simp(disch:=first|assumption|decide|omega|(simp only[jg,jn,jp,jt,jo,yu,ξ,φ];first|done|omega)) only[jB,jD,jz];exact Cl.new _ _
  .refine⟨17 - (i+1),om,i+1,om,rfl,λj hj'=>?_,?_⟩
   .by_cases h:j=i
    .rw[h];assumption
    .exact hj j om
   .rw[show((14+(i+1):Nat):Int)=((14+i:Nat):Int)+1 by omega];simp(disch:=decide) only[h12,i3,i4,i5,i6]
  .have e:QY t x y=.mk 0 0 [] [] 0 0:=by unfold QY;rw[jlV λj hj'=>hj j om]
   rw[e];exact Y1
 .refine⟨0,om,rfl,rfl,λj hj=>absurd hj (Qas _),?_⟩;rw[show((14+0:Nat):Int)=14 from rfl];simp(disch:=decide) only[h12]
theorem jmW {P:Program}{f:FuncId}{xs:List AV}{st:St}{v:AV}{R:St->Prop}(h:∀ K Kp:AV->St->Prop,(∀ s,R s->K v s)->XB P base f xs st K Kp):∃ s,R s/\∀ K Kp:AV->St->Prop,XB P base f xs st K Kp=K v s:=by
 obtain⟨r,⟨N,D,h1⟩,h4⟩:=h (λv' s'=>v'=v/\R s') (λ_ _=>False) λs hs=>⟨rfl,hs⟩;cases r with
 |no=>exact h4.elim
 |pn v s=>exact h4.elim
 |ok v' s'=>
  obtain⟨rfl,hR⟩:=h4;exact⟨_,hR,λK Kp=>propext ⟨λ⟨r2,⟨N2,D2,h2⟩,h3⟩=>by
   have e1:=h1 (max N N2) (Qap ..) (max D D2) (Qap ..);have e2:=h2 (max N N2) (Qaq ..) (max D D2) (Qaq ..);rw[e1] at e2;subst e2;exact h3,λh=>⟨_,⟨N,D,h1⟩,h⟩⟩⟩
theorem jo4 (hb:NB base)(xs:List Ex)(hn:xs.length<=4611686018427387904)(f:FuncId)(caps:List AV)(q:Ex->Bool){R:St->Prop}(hR:∀ s t:St,R s->R (bk t s))(hR2:∀ s:St,R s->R s.bare)
  (hq:∀ y∈xs,∀ s:St,R s->∃ s',R s'/\∀ K Kp:AV->St->Prop,XB γ base f (.agg (eE y) :: caps) s K Kp=K (.bool (q y)) s') {st:St} (h0:R st) :
  ∃ s',R s'/\∀ K Kp:AV->St->Prop,XB γ base 166 [.lst xs.length (fl eE xs),.fn f caps] st K Kp=K (.int .i64 (fi q xs)) s':=by
 refine jmW λK Kp hK=>?_;refine zP juq haa (hb.at0 166 dc dc _ _) ?_;simp only[jp0,jr,ζ,η,θ,κ];rw[(by unfold jkG;simp only[qq];rfl:jkG=_)];have h0:=hR2 _ h0;have hK:∀ s,R s->K (.int .i64 (fi q xs)) (bk st s):=λs h=>hK _ (hR _ _ h);have hbk:bk st st.bare=st:=rfl;have hbc:back st st.bare=st:=rfl;have hbb:st.bare.bare=st.bare:=rfl;generalize st.bare=s0 at *;repeat' first|apply jb<;>intro _|simp(disch:=try exact dzD) only[r6,δ,ε]
 refine jV xs.length (λk L s=>R s/\(∀ j (h1:j<xs.length),j<k->q xs[j]=false)/\Has L 0 (.lst xs.length (fl eE xs))/\Has L 1 (.fn f caps)) ?_ (λk L s hk hI hi hn=>?_) (λL s hI=>?_)
 .refine⟨h0,λj _ hj=>absurd hj (Qas _),?_⟩;simp(disch:=decide) only[h12]
 .obtain⟨hs,h0,i0,i1⟩:=hI;obtain⟨s',hs',e⟩:=hq xs[k] (ω hk) s hs;repeat' first|apply jb<;>intro _|simp(disch:=try exact dzD) only[ja i0,ja i1,ja hi,e,r6,δ,ε]
  .have:=hK _ (hR2 _ hs');rw[u7 hk (λj hj=>h0 j om hj) ‹_›] at this;exact this
  .refine⟨⟨hs',λj h1 hj=>?_,?_⟩,?_⟩
   .rcases Qat j k with h|h
    .exact h0 j h1 h
    .have:j=k:=om
     subst this;simpa using ‹¬ q xs[j]=true›
   .simp(disch:=decide) only[h12,i0,i1]
   .simp(disch:=decide) only[h12,hi,hn]
 .obtain⟨hs,h0,i0,i1⟩:=hI;repeat' first|apply jb<;>intro _|simp(disch:=try exact dzD) only[r6,δ,ε]
  have:=hK _ (hR2 _ hs);rw[u6 λj hj=>h0 j hj hj] at this;exact this
theorem jsL (hb:NB base)(xs:List Ex)(hn:xs.length<=4611686018427387904)(f:FuncId)(caps:List AV)(q:Ex->Bool){R:St->Prop}(hR:∀ s t:St,R s->R (bk t s))(hR2:∀ s:St,R s->R s.bare)
  (hq:∀ y∈xs,∀ s:St,R s->∃ s',R s'/\∀ K Kp:AV->St->Prop,XB γ base f (.agg (eE y) :: caps) s K Kp=K (.bool (q y)) s') {st:St} (h0:R st) :
  ∃ s',R s'/\∀ K Kp:AV->St->Prop,XB γ base 150 [.lst xs.length (fl eE xs),.fn f caps] st K Kp=K (.bool (xs.any q)) s':=by
 refine jmW λK Kp hK=>?_;refine zP juw haa (hb.at0 150 dc dc _ _) ?_;simp only[jp6,jr,ζ,η,θ,κ];rw[(by unfold jkM;simp only[qq];rfl:jkM=_)];have h0:=hR2 _ h0;have hK:∀ s,R s->K (.bool (xs.any q)) (bk st s):=λs h=>hK _ (hR _ _ h);have hbk:bk st st.bare=st:=rfl;have hbc:back st st.bare=st:=rfl;have hbb:st.bare.bare=st.bare:=rfl;generalize st.bare=s0 at *;obtain⟨s',hs',e⟩:=jo4 hb xs hn f caps q hR hR2 hq h0;repeat' first|apply jb<;>intro _|simp(disch:=try exact dzD) only[e,r6,δ,ε]
 rw[jbX];exact hK _ hs'
def zg:Nat->Ex->Bool
 |0,_=>false
 |d+1,x=>decide (1<=x.op) && decide (x.op<31) && decide ((x.kids.length:Int)=if 5<=x.op/\x.op<=13 then 1 else if 14<=x.op/\x.op<31 then 2 else 0) && uX x && x.kids.all (zg d)
theorem jq2:Go.Ev.isAgg γ 3=some false:=Qa0
theorem jq1:Go.Ev.sizeOf γ 3=some 1:=Qa0
theorem jnk:Go.Ev.isAgg γ 27=some false:=Qa0
theorem jnj:Go.Ev.sizeOf γ 27=some 1:=Qa0
theorem jbp:Go.Ev.isAgg γ 29=some true:=Qa0
theorem jbo:Go.Ev.sizeOf γ 29=some 6:=Qa0
theorem jrl {t:TypeId}{b k:Nat}{cs:List AV}{s:St}(h1:Go.Ev.isAgg γ t=some true)(h2:Go.Ev.sizeOf γ t=some k)(C:Cl s b cs)(hi:cs.length=k)(hk:0<k)(hc:cs.all eqs=true):qb γ t (.ptr b 0) (.agg cs) s.h=true:=
 Zq h1 h2 hk (by rw[C.len];omega) (by rw[C.ratsP k 0 om,Qbd,<-hi,Qab]) hc
theorem jve (hb:NB base){y:Ex}{d b:Nat}{v:Bool}(hd:d<=60)(ih:Tot base 130 [.agg (eE y),.int .i64 (d:Int)] (.bool v)){st:St}(C:Cl st b [.int .i64 ((d+1:Nat):Int)])(K Kp:AV->St->Prop) :
  XB γ base 151 [.agg (eE y),.ptr b 0] st K Kp=K (.bool (!v)) (nw st (eE y)):=by
 refine jgf (λK Kp hK=>?_) K Kp;refine zP juv haa (hb.at0 151 dc dc _ _) ?_;simp only[jp5,jr,ζ,η,θ,κ];rw[(by unfold jkL;simp only[qq];rfl:jkL=_)];have hK:K (.bool (!v)) (bk st (nw st.bare (eE y))):=hK;have C:=C.bar;have hbk:bk st st.bare=st:=rfl;have hbc:back st st.bare=st:=rfl;have hbb:st.bare.bare=st.bare:=rfl;generalize st.bare=s0 at *;have L0:=C.lt;have e:((d+1:Nat):Int) - 1=(d:Int):=om
 (have zz:=C.r;repeat' first|apply jb<;>intro _|simp(disch:=try exact qW) only[ih,e,C.q,C.r,r6,δ,ε])
 exact hK
theorem Vn (d:Nat)(x:Ex):zg (d+1) x=(decide (1<=x.op) && decide (x.op<31) && decide ((x.kids.length:Int)=if 5<=x.op/\x.op<=13 then 1 else if 14<=x.op/\x.op<31 then 2 else 0) && uX x && x.kids.all (zg d)):=rfl
theorem jfS {α:Type}(p:α->Bool):∀ xs:List α,xs.all p = !(xs.any λx=>!p x)
 |[]=>rfl
 |x :: xs=>by rw[QaD,List.any_cons,jfS p xs];cases p x<;>simp
theorem jow (hb:NB base):∀ (d:Nat),d<=60->∀ x:Ex,szE x<=BIG->Tot base 130 [.agg (eE x),.int .i64 (d:Int)] (.bool (zg d x)):=by
 intro d;induction d with
 |zero=>
  intro _ x hx;refine hb.tot ?_ (by first|rfl|simp[pa,pc,ya,Tk.cells_p]) rfl;refine jE jqL haa (hb.pur 130 1 dc) ?_;simp only[jlo,jr,ζ,η,θ,κ];rw[(by unfold jce;simp only[qq];rfl:jce=_)];repeat' first|apply jb<;>intro _|simp(disch:=try exact dzD) only[r6,δ,ε]
  all_goals exact G0.v rfl rfl
 |succ d ih=>
  intro hd x hx;refine hb.tot ?_ (by first|rfl|simp[pa,pc,ya,Tk.cells_p]) rfl;refine jE jqL haa (hb.pur 130 1 dc) ?_;simp only[jlo,jr,ζ,η,θ,κ];rw[(by unfold jce;simp only[qq];rfl:jce=_)];have hs1:∀ k v,k<6->(eE x).getD k .bad=v->eqs v=true->qb γ 3 (.ptr 0 k) v (nw (nw st0 (eE x)) [.int .i64 ((d+1:Nat):Int)]).h=true:=λk v hk hv hc=>gM jq2 jq1 ((Cl.new st0 (eE x)).nw _) (by rw[zR];exact hk) hv hc;have hs2:qb γ 27 (.ptr 0 3) (.lst x.kids.length (fl eE x.kids)) (nw (nw st0 (eE x)) [.int .i64 ((d+1:Nat):Int)]).h=true:=gM jnk jnj ((Cl.new st0 (eE x)).nw _) (by rw[zR];decide) (jsi x 3) rfl;have hs3:qb γ 29 (.ptr 0 0) (.agg (eE x)) (nw (nw st0 (eE x)) [.int .i64 ((d+1:Nat):Int)]).h=true:=jrl jbp jbo ((Cl.new st0 (eE x)).nw _) (zR x) dc (by rw[qA];rfl);have hkl:=YW x.kids;have hsz:=Yo x;have hB:BIG=1099511627776:=rfl;have hs:=Vn d x;obtain⟨s',_,e⟩:=jsL hb x.kids om 151 [.ptr 1 0] (λy=>!zg d y) (R:=λs=>Cl s 1 [.int .i64 ((d+1:Nat):Int)]) (λs t h=>⟨h.lt,h.row,h.len,h.cell⟩) (λs h=>h.bar)
   (λy hy s C=>⟨nw s (eE y),C.nw _,λK Kp=>jve hb om (ih om y (by
    obtain⟨k,hk,rfl⟩:=List.getElem_of_mem hy;have:=XY hk;omega)) C K Kp⟩) (Cl.new (nw st0 (eE x)) [.int .i64 ((d+1:Nat):Int)])
  repeat' first|apply jb<;>intro _|simp(disch:=try exact dzD) only[jrP hb,jrO hb x om,hs1,hs2,hs3,e,r6,δ,ε]
  .refine G0.v ?_ rfl;rw[hs];simp;omega
  .refine G0.v ?_ rfl;rw[hs];simp;omega
  .refine G0.v ?_ rfl;rw[hs];simp[*]
  .refine G0.v ?_ rfl;rw[hs];simp[*]
  .refine G0.v ?_ rfl;rw[hs,jfS];first|(simp[*];done)|(simp[*];omega)|(simp;intro _;refine⟨⟨⟨om,om⟩,by simp_all⟩,by simp_all⟩)
theorem jpr (hb:NB base)(x:Ex)(hx:szE x<=BIG):Tot base 102 [.agg (eE x)] (.bool (zg 60 x)):=by
 refine hb.tot ?_ (by first|rfl|simp[pa,pc,ya,Tk.cells_p]) rfl;refine jE x95 haa (hb.pur 102 1 dc) ?_;simp only[y95,jr,ζ,η,θ,κ];rw[(by unfold z95;simp only[qq];rfl:z95=_)];have:Tot base 130 [.agg (eE x),.int .i64 60] (.bool (zg 60 x)):=jow hb 60 (μ _) x hx;repeat' first|apply jb<;>intro _|simp(disch:=try exact dzD) only[this,r6,δ,ε]
 exact G0.v rfl rfl
def tk (ts:List Tk)(i:Nat):Tk:=ts.getD i ⟨0,[],0,0,0⟩
theorem jnm {ts:List Tk}{i:Nat}(h:i<ts.length):ts[i]=tk ts i:=by simp[tk,Qac,h]
def pC (ts:List Tk)(i d:Nat):List AV:=[.lst ts.length (fl Tk.cells ts),.int .i64 (i:Int),.int .i64 (d:Int)]
theorem Zv (hb:NB base){ts:List Tk}{i d:Nat}(hi:i<ts.length):Met γ base 73 (pC ts i d) [] (.ok (.agg (tk ts i).cells)) (pC ts i d):=by
 refine PM.met ?_ rfl λp st=>hb.no 73 dc _ _;refine qe x49 haa (hb.pur 73 3 dc) rfl ?_;simp only[y49,jr,ζ,η,θ,κ];rw[(by unfold z49;simp only[qq];rfl:z49=_)];unfold pC;repeat' first|apply jb<;>intro _|simp(disch:=try exact dzD) only[hi,r6,δ,ε]
 rw[jnm hi];refine G1.done ?_ rfl rfl (FzD.agg (.pc haa));simp(disch:=first|assumption|decide|omega|(simp only[jg,jn,jp,jt,jo,yu,ξ,φ];first|done|omega)) only[jB,jD,jz];exact Cl.new _ _
theorem WI (S:Lq):(S.map AV.str).all pc=true:=by induction S with|nil=>rfl|cons x S ih=>simp[pc]
theorem jim (hb:NB base){ts:List Tk}{i d:Nat}(hi:i<ts.length)(h2:i<=1000000)(S:Lq)(hS:S.length<=1000000) :
  (isM (tk ts i) S=true->PM γ base 86 (pC ts i d) [.lst S.length (S.map .str)] (.ok (.tup [.agg (tk ts i).cells,.bool true])) (pC ts (i+1) d)) /\
  (isM (tk ts i) S=false->PM γ base 86 (pC ts i d) [.lst S.length (S.map .str)] (.ok (.tup [.agg (tk ts i).cells,.bool false])) (pC ts i d)):=by
 have N:=λst p=>@Zv base hb ts i d hi st p;unfold pC at *;constructor<;>intro h
 .refine qe x76 haa (hb.pur 86 3 dc) rfl ?_;simp only[y76,jr,ζ,η,θ,κ];rw[(by unfold z76;simp only[qq];rfl:z76=_)];repeat' first|apply jb<;>intro _|simp(disch:=try exact dzD) only[N,jsW hb (tk ts i) S hS,h,r6,δ,ε]
  (refine G1.done cyD haa haa ?_;try exact vyD)
 .refine qe x76 haa (hb.pur 86 3 dc) rfl ?_;simp only[y76,jr,ζ,η,θ,κ];rw[(by unfold z76;simp only[qq];rfl:z76=_)];repeat' first|apply jb<;>intro _|simp(disch:=try exact dzD) only[N,jsW hb (tk ts i) S hS,h,r6,δ,ε]
  (refine G1.done cyD haa haa ?_;try exact vyD)
theorem jq9 (hb:NB base){ts:List Tk}{i d:Nat}(hi:i<ts.length)(h2:i<=1000000)(S:Lq)(hS:S.length<=1000000){st:St}{p:Nat}(C:Cl st p (pC ts i d))(K Kp:AV->St->Prop) :
  XB γ base 86 [.ptr p 0,.lst S.length (S.map .str)] st K Kp=ifW (isM (tk ts i) S=true) (K (.tup [.agg (tk ts i).cells,.bool true]) (wr st p 0 (pC ts (i+1) d))) (K (.tup [.agg (tk ts i).cells,.bool false]) (wr st p 0 (pC ts i d))):=by
 have T:=jim hb hi h2 (d:=d) S hS;cases h:isM (tk ts i) S with
 |true=>rw[Gx rfl];exact(T.1 h).xb C rfl (λst=>hb.no 86 dc _ _) K Kp
 |false=>rw[Gy dc];exact(T.2 h).xb C rfl (λst=>hb.no 86 dc _ _) K Kp
theorem Zl (hb:NB base){ts:List Tk}{i d:Nat}(hi:i<ts.length)(h2:i<=1000000)(S:Lq){cs:List AV}{n:Nat}(hc:S.map .str=cs)(hn:S.length=n)(hS:n<=1000000)(st:St)(p b m:Nat)(x:Bool)(C:Cl st p (pC ts i d))(D:Cl st b cs)(hne:p≠b)(K Kp:AV->St->Prop) :
  XB γ base 86 [.ptr p 0,.slice b 0 n m 1 x] st K Kp=ifW (isM (tk ts i) S=true) (K (.tup [.agg (tk ts i).cells,.bool true]) (wr (kl b st) p 0 (pC ts (i+1) d))) (K (.tup [.agg (tk ts i).cells,.bool false]) (wr (kl b st) p 0 (pC ts i d))):=by
 subst hc hn;have T:=jim hb hi h2 (d:=d) S hS;have F:Fza st [.slice b 0 S.length m 1 x] [.lst S.length (S.map .str)] [b]:=Fza.sl D hac (WI S) .nil;have C':Cl (kills [b] st) p (pC ts i d):=(jU hne).symm▸C;cases h:isM (tk ts i) S with
 |true=>rw[Gx rfl];exact(T.1 h).xbk C' F rfl (λst=>hb.no 86 dc _ _) K Kp
 |false=>rw[Gy dc];exact(T.2 h).xbk C' F rfl (λst=>hb.no 86 dc _ _) K Kp
theorem jmg (hb:NB base)(t:Tk)(S:Lq){cs:List AV}{n:Nat}(hc:S.map .str=cs)(hn:S.length=n)(hS:n<=1000000)(st:St)(b m:Nat)(x:Bool)(D:Cl st b cs)(K Kp:AV->St->Prop) :
  XB γ base 119 [.agg t.cells,.slice b 0 n m 1 x] st K Kp=K (.bool (isM t S)) (kl b st):=by
 subst hc hn;have F:Fza st [.agg t.cells,.slice b 0 S.length m 1 x] [.agg t.cells,.lst S.length (S.map .str)] [b]:=Fza.pa haa (Fza.sl D hac (WI S) .nil);exact(jsX hb t S hS).xf F (λst=>hb.no 119 dc _ _) K Kp
theorem jrF (hb:NB base){ts:List Tk}{i d:Nat}(hi:i<ts.length)(h2:i<=1000000)(c:Lt) :
  (isM (tk ts i) [c]=true->PM γ base 121 (pC ts i d) [.str c] (.ok (.tup [])) (pC ts (i+1) d)) /\
  (isM (tk ts i) [c]=false->PM γ base 121 (pC ts i d) [.str c] (.pn (er (tk ts i))) (pC ts i d)):=by
 have T:=Zl hb hi h2 (d:=d) [c] (cs:=[.str c]) (n:=1) rfl rfl dc;unfold pC at *;constructor<;>intro h
 .refine qe jqM haa (hb.pur 121 3 dc) rfl ?_;simp only[jlp,jr,ζ,η,θ,κ];rw[(by unfold G8;simp only[qq];rfl:G8=_)];repeat' first|apply jb<;>intro _|simp(disch:=try exact dzD) only[T,h,QI hb,r6,δ,ε]
  (refine G1.done cyD haa haa ?_;try exact vyD)
 .refine qe jqM haa (hb.pur 121 3 dc) rfl ?_;simp only[jlp,jr,ζ,η,θ,κ];rw[(by unfold G8;simp only[qq];rfl:G8=_)];repeat' first|apply jb<;>intro _|simp(disch:=try exact dzD) only[T,h,QI hb,r6,δ,ε]
  (refine G1.done cyD haa haa ?_;try exact vyD)
theorem PM.two {P:Program}{f:FuncId}{cs xs c1 c2:List AV}{o1 o2:Oc}{q:Bool}(h:(q=true->PM P base f cs xs o1 c1)/\(q=false->PM P base f cs xs o2 c2))(hp:xs.all pa=true)(hb:∀ p st,base.run f (.ptr p 0 :: xs) st=.no){st:St}{p:Nat}(C:Cl st p cs)(K Kp:AV->St->Prop) :
  XB P base f (.ptr p 0 :: xs) st K Kp=ifW (q=true) (YZ o1 K Kp (wr st p 0 c1)) (YZ o2 K Kp (wr st p 0 c2)):=by
 cases hq:q with
 |true=>rw[Gx rfl];exact(h.1 hq).xb C hp (hb p) K Kp
 |false=>rw[Gy dc];exact(h.2 hq).xb C hp (hb p) K Kp
theorem Xc (hb:NB base){ts:List Tk}{i d:Nat}(hi:i<ts.length)(h2:i<=1000000)(c:Lt){st:St}{p:Nat}(C:Cl st p (pC ts i d))(K Kp:AV->St->Prop) :
  XB γ base 121 [.ptr p 0,.str c] st K Kp=ifW (isM (tk ts i) [c]=true) (K (.tup []) (wr st p 0 (pC ts (i+1) d))) (Kp (er (tk ts i)) (wr st p 0 (pC ts i d))):=
 PM.two (o1:=.ok _) (o2:=.pn _) (jrF hb hi h2 c) rfl (λ_ _=>hb.no 121 dc _ _) C K Kp
theorem WP (hb:NB base){ts:List Tk}{i d:Nat}(hi:i<ts.length)(h2:i<=1000000){st:St}{p:Nat}(C:Cl st p (pC ts i d))(K Kp:AV->St->Prop) :
  XB γ base 120 [.ptr p 0] st K Kp=ifW (decide ((tk ts i).kind=1)=true) (K (.agg (tk ts i).cells) (wr st p 0 (pC ts (i+1) d))) (Kp (er (tk ts i)) (wr st p 0 (pC ts i d))):=by
 refine PM.two (o1:=.ok _) (o2:=.pn _) ?_ rfl (λ_ _=>hb.no 120 dc _ _) C K Kp;have N:=λst p=>@Zv base hb ts i d hi st p;unfold pC at *;clear C;constructor<;>intro h
 .have h':((tk ts i).kind:Int)=1:=by simp at h;omega
  refine qe jqN haa (hb.pur 120 3 dc) rfl ?_;simp only[jlq,jr,ζ,η,θ,κ];rw[(by unfold jcf;simp only[qq];rfl:jcf=_)];repeat' first|apply jb<;>intro _|simp(disch:=try exact dzD) only[N,h',QI hb,r6,δ,ε]
  (refine G1.done cyD haa haa ?_;try exact vyD)
 .have h':¬ ((tk ts i).kind:Int)=1:=by simp at h;omega
  refine qe jqN haa (hb.pur 120 3 dc) rfl ?_;simp only[jlq,jr,ζ,η,θ,κ];rw[(by unfold jcf;simp only[qq];rfl:jcf=_)];repeat' first|apply jb<;>intro _|simp(disch:=try exact dzD) only[N,h',QI hb,r6,δ,ε]
  (refine G1.done cyD haa haa ?_;try exact vyD)
theorem jiQ (hb:NB base){ts:List Tk}{i d:Nat}(hi:i<ts.length)(h2:d<=1000000){st:St}{p:Nat}(C:Cl st p (pC ts i d))(K Kp:AV->St->Prop) :
  XB γ base 146 [.ptr p 0] st K Kp=ifW (decide (60<d+1)=true) (Kp (er (tk ts i)) (wr st p 0 (pC ts i (d+1)))) (K (.tup []) (wr st p 0 (pC ts i (d+1)))):=by
 refine PM.two (o1:=.pn _) (o2:=.ok _) ?_ rfl (λ_ _=>hb.no 146 dc _ _) C K Kp;have N:=λst p=>@Zv base hb ts i (d+1) hi st p;have e:((d:Int)+1)=((d+1:Nat):Int):=om
 unfold pC at *;clear C;constructor<;>intro h
 .have h':(60:Int)<((d+1:Nat):Int):=by simp at h;omega
  refine qe jqK haa (hb.pur 146 3 dc) rfl ?_;simp only[jln,jr,ζ,η,θ,κ];rw[(by unfold jcd;simp only[qq];rfl:jcd=_)];repeat' first|apply jb<;>intro _|simp(disch:=try exact dzD) only[N,h',QI hb,e,r6,δ,ε]
  (refine G1.done cyD haa haa ?_;try exact vyD)
 .have h':¬ (60:Int)<((d+1:Nat):Int):=by simp at h;omega
  refine qe jqK haa (hb.pur 146 3 dc) rfl ?_;simp only[jln,jr,ζ,η,θ,κ];rw[(by unfold jcd;simp only[qq];rfl:jcd=_)];repeat' first|apply jb<;>intro _|simp(disch:=try exact dzD) only[N,h',QI hb,e,r6,δ,ε]
  (refine G1.done cyD haa haa ?_;try exact vyD)
abbrev Lev:=Lq×Nat
def zC:Lq:=[[45],[33],[88],[70],[71],[89],[90],[79],[72]]
def kS (text:Lt):Nat:=5+zC.idxOf text
inductive PR where
 |ok (x:Ex) (j:Nat)
 |er (t:Tk)
mutual
def zb (ts:List Tk):Nat->List Lev->Nat->Nat->Option PR
 |0,_,_,_=>none
 |n+1,[],i,d=>Q1 ts n i d
 |n+1,v :: l,i,d=>match zb ts n l i d with
  |some (.ok x j)=>Xr ts n v l x j d
  |r=>r
def Xr (ts:List Tk):Nat->Lev->List Lev->Ex->Nat->Nat->Option PR
 |0,_,_,_,_,_=>none
 |n+1,v,l,x,i,d=>
  if isM (tk ts i) v.1=true then
   (if v.2=1 then(match zb ts n (v :: l) (i+1) d with
    |some (.ok y j)=>some (.ok (QY (tk ts i) x y) j)
    |r=>r)
   else(match zb ts n l (i+1) d with
    |some (.ok y j)=>if v.2=2 then some (.ok (QY (tk ts i) x y) j) else Xr ts n v l (QY (tk ts i) x y) j d
    |r=>r))
  else some (.ok x i)
def Q1 (ts:List Tk):Nat->Nat->Nat->Option PR
 |0,_,_=>none
 |n+1,i,d=>
  if isM (tk ts i) zC=true then
   (if 60<d+1 then some (.er (tk ts (i+1))) else(match Q1 ts n (i+1) (d+1) with
    |some (.ok x j)=>some (.ok (.mk (kS (tk ts i).text:Nat) 0 [] [x] (tk ts i).line (tk ts i).col) j)
    |r=>r))
  else YV ts n i d
def YV (ts:List Tk):Nat->Nat->Nat->Option PR
 |0,_,_=>none
 |n+1,i,d=>
  if(tk ts i).kind=2 then some (.ok (.mk 1 (tk ts i).num [] [] (tk ts i).line (tk ts i).col) (i+1))
  else if(tk ts i).kind=1 then some (.ok (.mk 3 0 (tk ts i).text [] (tk ts i).line (tk ts i).col) (i+1))
  else if isM (tk ts i) [[116,114,117,101]]=true then some (.ok (.mk 2 1 [] [] (tk ts i).line (tk ts i).col) (i+1))
  else if isM (tk ts i) [[102,97,108,115,101]]=true then some (.ok (.mk 2 0 [] [] (tk ts i).line (tk ts i).col) (i+1))
  else if isM (tk ts i) [[40]]=true then
   (if 60<d+1 then some (.er (tk ts (i+1))) else(match zb ts n Jv (i+1) (d+1) with
    |some (.ok x j)=>if isM (tk ts j) [[41]]=true then some (.ok x (j+1)) else some (.er (tk ts j))
    |r=>r))
  else some (.er (tk ts i))
end
structure Wds (ts:List Tk):Prop where
 len:ts.length<=1000000
 next:∀ i,i<ts.length->(tk ts i).kind≠5->i+1<ts.length
 txt:∀ i,(tk ts i).text.length<=65536
theorem VJ {t:Tk}{S:Lq}(h:isM t S=true):(t.kind=3\/t.kind=4)/\t.text∈S:=by
 simpa[isM] using h
theorem Wds.isM {ts:List Tk}(W:Wds ts){i:Nat}(hi:i<ts.length){S:Lq}(h:isM (tk ts i) S=true):i+1<ts.length:=W.next i hi (by have:=(VJ h).1;omega)
def Sz (ts:List Tk)(i:Nat)(a:Nat)(r:PR):Prop:=match r with | .ok x j=>i<=j/\j<ts.length/\szE x<=a+(j - i) * 65537 | .er _=>True
theorem Xw (op num:Int)(nm:Lt)(ks:List Ex)(l c:Int):szE (.mk op num nm ks l c)=yP ks+nm.length+1:=rfl
theorem jop (t:Tk)(x y:Ex):szE (QY t x y)<=szE x+szE y+1:=by
 unfold QY;split
 .rw[Xw];simp[yP]
 .rw[Xw];simp[yP]
theorem kJ {ts:List Tk}(W:Wds ts):∀ n,(∀ lv i d r,zb ts n lv i d=some r->i<ts.length->Sz ts i 0 r)/\(∀ v l x i d r,Xr ts n v l x i d=some r->i<ts.length->Sz ts i (szE x) r)/\(∀ i d r,Q1 ts n i d=some r->i<ts.length->Sz ts i 0 r)/\(∀ i d r,YV ts n i d=some r->i<ts.length->Sz ts i 0 r):=by
 intro n;induction n with
 |zero=>exact⟨λ_ _ _ _ h=>(by simp[zb] at h),λ_ _ _ _ _ _ h=>(by simp[Xr] at h),λ_ _ _ h=>(by simp[Q1] at h),λ_ _ _ h=>(by simp[YV] at h)⟩
 |succ n ih=>
  obtain⟨iE,iL,iP,iV⟩:=ih;refine⟨λlv i d r h hi=>?_,λv l x i d r h hi=>?_,λi d r h hi=>?_,λi d r h hi=>?_⟩
  .cases lv with
   |nil=>unfold zb at h;exact iP i d r h hi
   |cons v l=>
    unfold zb at h;cases hx:zb ts n l i d with
    |none=>rw[hx] at h;cases h
    |some q=>cases q with
     |er t=>rw[hx] at h;cases h;trivial
     |ok x j=>
      rw[hx] at h;have h1:=iE l i d _ hx hi;have h2:=iL v l x j d r h h1.2.1;cases r with
      |er t=>trivial
      |ok y k=>
       simp only[Sz] at h1 h2 ⊢;obtain⟨a1,a2,a3⟩:=h1;obtain⟨b1,b2,b3⟩:=h2;refine⟨om,b2,?_⟩;have:(k - i) * 65537=(k - j) * 65537+(j - i) * 65537:=by rw[<-QaI];congr 1;omega
       omega
  .unfold Xr at h;by_cases c:isM (tk ts i) v.1=true
   .rw[if_pos c] at h;have hi1:=W.isM hi c;have key:∀ lv y j,zb ts n lv (i+1) d=some (.ok y j)->i<=j/\j<ts.length/\szE (QY (tk ts i) x y)<=szE x+(j - i) * 65537:=λlv y j he=>by
     have h1:=iE lv (i+1) d _ he hi1;simp only[Sz] at h1;obtain⟨a1,a2,a3⟩:=h1;have:=jop (tk ts i) x y;have:(j - i) * 65537=(j - (i+1)) * 65537+65537:=by rw[<-QaR];congr 1;omega
     exact⟨om,a2,om⟩
    by_cases w1:v.2=1
    .rw[if_pos w1] at h;cases he:zb ts n (v :: l) (i+1) d with
     |none=>rw[he] at h;cases h
     |some q=>cases q with
      |er t=>rw[he] at h;cases h;trivial
      |ok y j=>rw[he] at h;cases h;exact key _ y j he
    .rw[if_neg w1] at h;cases he:zb ts n l (i+1) d with
     |none=>rw[he] at h;cases h
     |some q=>cases q with
      |er t=>rw[he] at h;cases h;trivial
      |ok y j=>
       rw[he] at h;have hk:=key _ y j he;by_cases w2:v.2=2
       .simp only[w2,if_true] at h;cases h;exact hk
       .simp only[w2,if_false] at h;have h2:=iL v l _ j d r h hk.2.1;cases r with
        |er t=>trivial
        |ok z k=>
         simp only[Sz] at h2 ⊢;obtain⟨b1,b2,b3⟩:=h2;refine⟨om,b2,?_⟩;have:(k - i) * 65537=(k - j) * 65537+(j - i) * 65537:=by rw[<-QaI];congr 1;omega
         omega
   .rw[if_neg c] at h;cases h;exact⟨μ _,hi,om⟩
  .unfold Q1 at h;by_cases c:isM (tk ts i) zC=true
   .rw[if_pos c] at h;have hi1:=W.isM hi c;by_cases hd:60<d+1
    .rw[if_pos hd] at h;cases h;trivial
    .rw[if_neg hd] at h;cases he:Q1 ts n (i+1) (d+1) with
     |none=>rw[he] at h;cases h
     |some q=>cases q with
      |er t=>rw[he] at h;cases h;trivial
      |ok y j=>
       rw[he] at h;cases h;have h1:=iP (i+1) (d+1) _ he hi1;simp only[Sz] at h1 ⊢;obtain⟨a1,a2,a3⟩:=h1;have:(j - i) * 65537=(j - (i+1)) * 65537+65537:=by rw[<-QaR];congr 1;omega
       refine⟨om,a2,?_⟩;rw[Xw];simp[yP];omega
   .rw[if_neg c] at h;exact iV i d r h hi
  .unfold YV at h;have ht:=W.txt i;have leaf:∀ (x:Ex),szE x<=65537->i+1<ts.length->Sz ts i 0 (.ok x (i+1)):=λx hx h1=>⟨om,h1,om⟩;by_cases k2:(tk ts i).kind=2
   .rw[if_pos k2] at h;cases h;exact leaf _ (by rw[Xw];simp[yP]) (W.next i hi om)
   rw[if_neg k2] at h;by_cases k1:(tk ts i).kind=1
   .rw[if_pos k1] at h;cases h;exact leaf _ (by rw[Xw];simp[yP];omega) (W.next i hi om)
   rw[if_neg k1] at h;split at h
   .cases h;exact leaf _ (by rw[Xw];simp[yP]) (W.isM hi ‹_›)
   split at h
   .cases h;exact leaf _ (by rw[Xw];simp[yP]) (W.isM hi ‹_›)
   split at h
   .rename_i c;have hi1:=W.isM hi c;by_cases hd:60<d+1
    .rw[if_pos hd] at h;cases h;trivial
    .rw[if_neg hd] at h;cases he:zb ts n Jv (i+1) (d+1) with
     |none=>rw[he] at h;cases h
     |some q=>cases q with
      |er t=>rw[he] at h;cases h;trivial
      |ok y j=>
       rw[he] at h;have h1:=iE Jv (i+1) (d+1) _ he hi1;simp only[Sz] at h1;obtain⟨a1,a2,a3⟩:=h1;dsimp only at h;by_cases c2:isM (tk ts j) [[41]]=true
       .rw[if_pos c2] at h;cases h;have:=W.isM a2 c2;simp only[Sz];exact⟨om,this,ψ a3 (Nat.add_le_add_left (Qav _ om) _)⟩
       .rw[if_neg c2] at h;cases h;trivial
   .cases h;trivial
def Ans (base:Bs)(f:FuncId)(c xs:List AV)(ts:List Tk)(d:Nat):PR->Prop
 |.ok x j=>PM γ base f c xs (.ok (.agg (eE x))) (pC ts j d)
 |.er t=>∃ i' d',PM γ base f c xs (.pn (er t)) (pC ts i' d')
def okL (lv:List Lev):Prop:=lv.length<=8/\∀ v∈lv,v.1.length<=6
def IsE (base:Bs)(ts:List Tk)(n:Nat):Prop:=∀ lv i d r,zb ts n lv i d=some r->i<ts.length->d<=60->okL lv->Ans base 100 (pC ts i d) [.lst lv.length (fl XE lv)] ts d r
def IsP (base:Bs)(ts:List Tk)(n:Nat):Prop:=∀ i d r,Q1 ts n i d=some r->i<ts.length->d<=60->Ans base 128 (pC ts i d) [] ts d r
def IsV (base:Bs)(ts:List Tk)(n:Nat):Prop:=∀ i d r,YV ts n i d=some r->i<ts.length->d<=60->Ans base 145 (pC ts i d) [] ts d r
theorem ju9:Go.Ev.isAgg γ 2=some false:=Qa0
theorem ju8:Go.Ev.sizeOf γ 2=some 1:=Qa0
theorem jtf:Go.Ev.isAgg γ 146=some true:=Qa0
theorem jte:Go.Ev.sizeOf γ 146=some 5:=Qa0
theorem sm2 {b o:Nat}{v:AV}{h:T AO}(ho:o<qp h b)(hv:rat h b o=v)(hc:eqs v=true):(qb γ 2 (.ptr b o) v h=true)=True:=eq_true (Qz ju9 ju8 ho hv hc)
theorem sm9 {b o:Nat}{v:AV}{h:T AO}(ho:o<qp h b)(hv:rat h b o=v)(hc:eqs v=true):(qb γ 9 (.ptr b o) v h=true)=True:=eq_true (Qz jly jlx ho hv hc)
theorem yX (k:IntKind)(n:Int):eqs (.int k n)=true:=nr rfl
theorem yW (l:Lt):eqs (.str l)=true:=nr rfl
theorem jod (hb:NB base){ts:List Tk}(W:Wds ts){n:Nat}(ihE:IsE base ts n):IsV base ts (n+1):=by
 intro i d r h hi hd;have hN:=λst p=>@Zv base hb ts i d hi st p;have wl:=W.len;have hx:(i:Int)+1=((i+1:Nat):Int):=om
 unfold YV at h;by_cases k2:(tk ts i).kind=2
 .rw[if_pos k2] at h;cases h;have k2':((tk ts i).kind:Int)=2:=om
  show PM _ _ _ _ _ _ _;unfold pC at *;refine qe W9 haa (hb.pur 145 3 dc) rfl ?_;simp only[Wn,jr,ζ,η,θ,κ];rw[(by unfold QV;simp only[qq];rfl:QV=_)]
  (have zz:=aI @yX @yW;repeat' first|apply jb<;>intro _|simp(disch:=try exact qW) only[hN,k2',sm2,yX,yW,r6,δ,ε])
  (refine G1.done cyD haa haa ?_;try exact vyD)
 rw[if_neg k2] at h;have k2':¬ ((tk ts i).kind:Int)=2:=om
 by_cases k1:(tk ts i).kind=1
 .rw[if_pos k1] at h;cases h;have k1':((tk ts i).kind:Int)=1:=om
  show PM _ _ _ _ _ _ _;unfold pC at *;refine qe W9 haa (hb.pur 145 3 dc) rfl ?_;simp only[Wn,jr,ζ,η,θ,κ];rw[(by unfold QV;simp only[qq];rfl:QV=_)]
  (have zz:=aI @yX @yW;repeat' first|apply jb<;>intro _|simp(disch:=try exact qW) only[hN,k2',k1',sm9,yX,yW,r6,δ,ε])
  (refine G1.done cyD haa haa ?_;try exact vyD)
 rw[if_neg k1] at h;have k1':¬ ((tk ts i).kind:Int)=1:=om
 have T:=jmg hb (tk ts i) [[116,114,117,101]] (cs:=[.str [116,114,117,101]]) (n:=1) rfl rfl dc;have F:=jmg hb (tk ts i) [[102,97,108,115,101]] (cs:=[.str [102,97,108,115,101]]) (n:=1) rfl rfl dc;have B:=jmg hb (tk ts i) [[40]] (cs:=[.str [40]]) (n:=1) rfl rfl dc;by_cases c1:isM (tk ts i) [[116,114,117,101]]=true
 .rw[if_pos c1] at h;cases h;show PM _ _ _ _ _ _ _;unfold pC at *;refine qe W9 haa (hb.pur 145 3 dc) rfl ?_;simp only[Wn,jr,ζ,η,θ,κ];rw[(by unfold QV;simp only[qq];rfl:QV=_)];repeat' first|apply jb<;>intro _|simp(disch:=try exact dzD) only[hN,k2',k1',T,c1,r6,δ,ε]
  (refine G1.done cyD haa haa ?_;try exact vyD)
 rw[if_neg c1] at h;by_cases c2:isM (tk ts i) [[102,97,108,115,101]]=true
 .rw[if_pos c2] at h;cases h;show PM _ _ _ _ _ _ _;unfold pC at *;refine qe W9 haa (hb.pur 145 3 dc) rfl ?_;simp only[Wn,jr,ζ,η,θ,κ];rw[(by unfold QV;simp only[qq];rfl:QV=_)];repeat' first|apply jb<;>intro _|simp(disch:=try exact dzD) only[hN,k2',k1',T,F,c1,c2,r6,δ,ε]
  (refine G1.done cyD haa haa ?_;try exact vyD)
 rw[if_neg c2] at h;by_cases c3:isM (tk ts i) [[40]]=true
 .rw[if_pos c3] at h;have hi1:=W.isM hi c3;have O:=λst p=>@jiQ base hb ts (i+1) d hi1 om st p;by_cases hd2:60<d+1
  .rw[if_pos hd2] at h;cases h;refine⟨i+1,d+1,?_⟩;unfold pC at *;refine qe W9 haa (hb.pur 145 3 dc) rfl ?_;simp only[Wn,jr,ζ,η,θ,κ];rw[(by unfold QV;simp only[qq];rfl:QV=_)];repeat' first|apply jb<;>intro _|simp(disch:=try exact dzD) only[hN,k2',k1',T,F,B,c1,c2,c3,O,hx,hd2,r6,δ,ε]
   (refine G1.done cyD haa haa ?_;try exact vyD)
  .rw[if_neg hd2] at h;cases he:zb ts n Jv (i+1) (d+1) with
   |none=>rw[he] at h;cases h
   |some q=>
    have A:=ihE _ _ _ _ he hi1 om ⟨dc,dc⟩;have hL:=jdc hb;have hz:=(kJ W n).1 _ _ _ _ he hi1;cases q with
    |er t=>
     rw[he] at h;cases h;obtain⟨i',d',A⟩:=A;have E:∀ st p,Cl st p (pC ts (i+1) (d+1))->∀ K Kp,XB γ base 100 [.ptr p 0,.lst 8 (fl XE Jv)] st K Kp=_:=λst p C K Kp=>A.xb C rfl (λst=>hb.no 100 dc _ _) K Kp;refine⟨i',d',?_⟩;unfold pC at *;refine qe W9 haa (hb.pur 145 3 dc) rfl ?_;simp only[Wn,jr,ζ,η,θ,κ];rw[(by unfold QV;simp only[qq];rfl:QV=_)];repeat' first|apply jb<;>intro _|simp(disch:=try exact dzD) only[hN,k2',k1',T,F,B,c1,c2,c3,O,hx,hd2,hL,E,r6,δ,ε]
     (refine G1.done cyD haa haa ?_;try exact vyD)
    |ok x j=>
     rw[he] at h;dsimp only at h;have A:PM _ _ _ _ _ _ _:=A;have E:∀ st p,Cl st p (pC ts (i+1) (d+1))->∀ K Kp,XB γ base 100 [.ptr p 0,.lst 8 (fl XE Jv)] st K Kp=_:=λst p C K Kp=>A.xb C rfl (λst=>hb.no 100 dc _ _) K Kp;have hj:j<ts.length:=hz.2.1;have M:=λst p=>@Xc base hb ts j d hj om [41] st p;have e1:((d+1:Nat):Int) - 1=(d:Int):=om
     by_cases c4:isM (tk ts j) [[41]]=true
     .rw[if_pos c4] at h;cases h;show PM _ _ _ _ _ _ _;unfold pC at *;refine qe W9 haa (hb.pur 145 3 dc) rfl ?_;simp only[Wn,jr,ζ,η,θ,κ];rw[(by unfold QV;simp only[qq];rfl:QV=_)];repeat' first|apply jb<;>intro _|simp(disch:=try exact dzD) only[hN,k2',k1',T,F,B,c1,c2,c3,O,hx,hd2,hL,E,e1,M,c4,r6,δ,ε]
      (refine G1.done cyD haa haa ?_;try exact vyD)
     .rw[if_neg c4] at h;cases h;refine⟨j,d,?_⟩;unfold pC at *;refine qe W9 haa (hb.pur 145 3 dc) rfl ?_;simp only[Wn,jr,ζ,η,θ,κ];rw[(by unfold QV;simp only[qq];rfl:QV=_)];repeat' first|apply jb<;>intro _|simp(disch:=try exact dzD) only[hN,k2',k1',T,F,B,c1,c2,c3,O,hx,hd2,hL,E,e1,M,c4,r6,δ,ε]
      (refine G1.done cyD haa haa ?_;try exact vyD)
 .rw[if_neg c3] at h;cases h;refine⟨i,d,?_⟩;unfold pC at *;refine qe W9 haa (hb.pur 145 3 dc) rfl ?_;simp only[Wn,jr,ζ,η,θ,κ];rw[(by unfold QV;simp only[qq];rfl:QV=_)];repeat' first|apply jb<;>intro _|simp(disch:=try exact dzD) only[hN,k2',k1',T,F,B,c1,c2,c3,QI hb,r6,δ,ε]
  (refine G1.done cyD haa haa ?_;try exact vyD)
theorem jeY:∀ k:Nat,k<9->sgn ((5+k:Nat):Int)=zC.getD k []:=dc
theorem joZ {x:Lt}(h:x∈zC):zC.idxOf x<9/\sgn ((5+zC.idxOf x:Nat):Int)=x/\∀ j,j<zC.idxOf x->sgn ((5+j:Nat):Int)≠x:=by
 have h9:zC.idxOf x<9:=List.idxOf_lt_length_of_mem h;refine⟨h9,?_,λj hj=>?_⟩
 .rw[jeY _ h9,Qak,Qaf (show zC.idxOf x<zC.length from h9)];simp
 .rw[jeY _ om,Qak,Qaf (show j<zC.length by show j<9;omega)];intro he;have hlt:j<zC.findIdx (· == x):=hj;have hno:=List.not_of_lt_findIdx hlt;have he':zC[j]'(show j<zC.length by show j<9;omega)=x:=he;rw[he'] at hno;simp at hno
theorem jlU (hb:NB base){ts:List Tk}(W:Wds ts){n:Nat}(ihP:IsP base ts n)(ihV:IsV base ts n):IsP base ts (n+1):=by
 intro i d r h hi hd;have wl:=W.len;have hx:(i:Int)+1=((i+1:Nat):Int):=om
 have T:=Zl hb hi (d:=d) om zC (cs:=[.str [45],.str [33],.str [88],.str [70],.str [71],.str [89],.str [90],.str [79],.str [72]]) (n:=9) rfl rfl dc;unfold Q1 at h;by_cases c1:isM (tk ts i) zC=true
 .rw[if_pos c1] at h;have hi1:=W.isM hi c1;have O:=λst p=>@jiQ base hb ts (i+1) d hi1 om st p;by_cases hd2:60<d+1
  .rw[if_pos hd2] at h;cases h;refine⟨i+1,d+1,?_⟩;unfold pC at *;refine qe jcs haa (hb.pur 128 3 dc) rfl ?_;simp only[Ha,jr,ζ,η,θ,κ];rw[(by unfold vZ;simp only[qq];rfl:vZ=_)];repeat' first|apply jb<;>intro _|simp(disch:=try exact dzD) only[T,c1,O,hd2,r6,δ,ε]
   (refine G1.done cyD haa haa ?_;try exact vyD)
  .rw[if_neg hd2] at h;cases he:Q1 ts n (i+1) (d+1) with
   |none=>rw[he] at h;cases h
   |some q=>
    have A:=ihP _ _ _ he hi1 om;have hz:=(kJ W n).2.2.1 _ _ _ he hi1;cases q with
    |er t=>
     rw[he] at h;cases h;obtain⟨i',d',A⟩:=A;have E:∀ st p,Cl st p (pC ts (i+1) (d+1))->∀ K Kp,XB γ base 128 [.ptr p 0] st K Kp=_:=λst p C K Kp=>A.xb C rfl (λst=>hb.no 128 dc _ _) K Kp;refine⟨i',d',?_⟩;unfold pC at *;refine qe jcs haa (hb.pur 128 3 dc) rfl ?_;simp only[Ha,jr,ζ,η,θ,κ];rw[(by unfold vZ;simp only[qq];rfl:vZ=_)];repeat' first|apply jb<;>intro _|simp(disch:=try exact dzD) only[T,c1,O,hd2,E,r6,δ,ε]
     (refine G1.done cyD haa haa ?_;try exact vyD)
    |ok x j=>
     rw[he] at h;cases h;have A:PM _ _ _ _ _ _ _:=A;have E:∀ st p,Cl st p (pC ts (i+1) (d+1))->∀ K Kp,XB γ base 128 [.ptr p 0] st K Kp=_:=λst p C K Kp=>A.xb C rfl (λst=>hb.no 128 dc _ _) K Kp;have hj:j<ts.length:=hz.2.1;have e1:((d+1:Nat):Int) - 1=(d:Int):=om
     show PM _ _ _ _ _ _ _;unfold pC at *;refine qe jcs haa (hb.pur 128 3 dc) rfl ?_;simp only[Ha,jr,ζ,η,θ,κ];rw[(by unfold vZ;simp only[qq];rfl:vZ=_)];repeat' first|apply jb<;>intro _|simp(disch:=try exact dzD) only[T,c1,O,hd2,E,e1,r6,δ,ε]
     obtain⟨x1,x2,x3⟩:=joZ (VJ c1).2;refine WD λu hu=>?_;have n0:u.nx=5:=by rw[hu];rfl
     have C0:Cl u 0 [.lst ts.length (fl Tk.cells ts),.int .i64 (j:Int),.int .i64 (d:Int)]:=by
      rw[hu]
      (try exact cyD)
     have C1:Cl u 1 [.int .i64 0,.int .i64 0,.str [],.nils,.int .i64 0,.int .i64 0]:=by
      rw[hu]
      (try exact cyD)
     have C3:Cl u 3 (tk ts i).cells:=by
      rw[hu]
      (try exact cyD)
     have C4:Cl u 4 (eE x):=by
      rw[hu]
      (try exact cyD)
     clear hu;have hs:qb γ 9 (.ptr 3 1) (.str (tk ts i).text) u.h=true:=gM jly jlx C3 (QbI (QaW 3)) rfl rfl;refine yA (λmm L s=>∃ k:Nat,k<=zC.idxOf (tk ts i).text/\mm=zC.idxOf (tk ts i).text - k/\s=u/\Has L 0 (.ptr 0 0)/\Has L 2 (.ptr 1 0)/\Has L 3 (.ptr 3 0)/\Has L 5 (.ptr 4 0)/\Has L 6 (.int .i64 ((5+k:Nat):Int))) ?_ (zC.idxOf (tk ts i).text) ?_
     .rintro mm L s ⟨k,hk,rfl,rfl,i0,i2,i3,i5,i6⟩;have hS:=jka hb ((5+k:Nat):Int);by_cases hk2:k=zC.idxOf (tk ts i).text
      .rw[<-hk2] at x2
       (have zz:=a4 @n0 C0.r C1.r (aI C3.r C4.r);repeat' first|apply jb<;>intro _|simp(disch:=try exact qW) only[ja i0,ja i2,ja i3,ja i5,ja i6,hS,hs,x2,C0.q,C1.q,C3.q,C4.q,n0,C0.r,C1.r,C3.r,C4.r,r6,δ,ε])
       rw[show kS (tk ts i).text=5+k by unfold kS;rw[<-hk2],<-qA];refine G1.done ?_ haa haa (jfd (ks:=[x]) (b:=5) (cs:=eE x) ?_ (by rw[Qf]) dc)
       ·(have zz:=aI C0.q (aI @n0 C0.r);try exact qt)
       .rw[jz,jB dc,<-n0];exact Cl.new s _
      .have x3':=x3 k om
       (have zz:=a4 @n0 C0.r C1.r (aI C3.r C4.r);repeat' first|apply jb<;>intro _|simp(disch:=try exact qW) only[ja i0,ja i2,ja i3,ja i5,ja i6,hS,hs,x3',C0.q,C1.q,C3.q,C4.q,n0,C0.r,C1.r,C3.r,C4.r,r6,δ,ε])
       refine⟨zC.idxOf (tk ts i).text - (k+1),om,k+1,om,rfl,?_⟩;rw[show((5+(k+1):Nat):Int)=((5+k:Nat):Int)+1 by omega];simp(disch:=decide) only[h12,i0,i2,i3,i5]
     .refine⟨0,om,rfl,rfl,?_⟩;rw[show((5+0:Nat):Int)=5 from rfl];simp(disch:=decide) only[h12]
 .rw[if_neg c1] at h;have A:=ihV _ _ _ h hi hd;cases r with
  |er t=>
   obtain⟨i',d',A⟩:=A;have E:∀ st p,Cl st p (pC ts i d)->∀ K Kp,XB γ base 145 [.ptr p 0] st K Kp=_:=λst p C K Kp=>A.xb C rfl (λst=>hb.no 145 dc _ _) K Kp;refine⟨i',d',?_⟩;unfold pC at *;refine qe jcs haa (hb.pur 128 3 dc) rfl ?_;simp only[Ha,jr,ζ,η,θ,κ];rw[(by unfold vZ;simp only[qq];rfl:vZ=_)];repeat' first|apply jb<;>intro _|simp(disch:=try exact dzD) only[T,c1,E,r6,δ,ε]
   (refine G1.done cyD haa haa ?_;try exact vyD)
  |ok x j=>
   have A:PM _ _ _ _ _ _ _:=A;have E:∀ st p,Cl st p (pC ts i d)->∀ K Kp,XB γ base 145 [.ptr p 0] st K Kp=_:=λst p C K Kp=>A.xb C rfl (λst=>hb.no 145 dc _ _) K Kp;show PM _ _ _ _ _ _ _;unfold pC at *;refine qe jcs haa (hb.pur 128 3 dc) rfl ?_;simp only[Ha,jr,ζ,η,θ,κ];rw[(by unfold vZ;simp only[qq];rfl:vZ=_)];repeat' first|apply jb<;>intro _|simp(disch:=try exact dzD) only[T,c1,E,r6,δ,ε]
   (refine G1.done cyD haa haa ?_;try exact vyD)
theorem gw {α:Type}{enc:α->List AV}{z:Nat}(hz:∀ x,(enc x).length=z)(x:α)(xs:List α){k:IntKind}{n:Nat}(hn:n=xs.length+1){st:St}{K:AV->St->Prop}:jq (Wp z (.lst n (fl enc (x :: xs))) (some (.int k 1)) none st) K=K (.lst xs.length (fl enc xs)) st:=by
 subst hn;have e1:QcA 1 (xs.length+1)=true:=qw om;have e2:QcA (xs.length+1) (xs.length+1)=true:=qw (μ _);have e3:QcA (QcC (xs.length+1) z) (jQ (fl enc (x :: xs)))=true:=qw (by rw[jM,zH hz];exact μ _);have e4:(AV.int k 1)=.int k ((1:Nat):Int):=rfl;have e5:yj (zr (fl enc (x :: xs)) (QcC 1 z)) (QcC (QcD (xs.length+1) 1) z)=fl enc xs:=by
  rw[qN,yR];show((fl enc (x :: xs)).drop (1 * z)).take ((xs.length+1 - 1) * z)=_;rw[HM hz,Nat.add_sub_cancel];show(fl enc xs).take _=_;rw[<-zH hz,Qab]
 rw[e4];simp only[Wp,optA,Hw,e1,e2,e3,cond_true,jq];rw[e5];rfl
theorem ui (v:Lev):(XE v).length=2:=nr rfl
theorem kY (v:Lev)(l:List Lev){st:St}{K:AV->St->Prop}:jq (Xl (.lptr (fl XE (v :: l)) 0) st) K=K (.lst v.1.length (v.1.map .str)) st:=JD (by rw[Xh,ν,ui];omega)
theorem Gj (v:Lev)(l:List Lev){st:St}{K:AV->St->Prop}:jq (Xl (.lptr (fl XE (v :: l)) 1) st) K=K (.int .i64 (v.2:Int)) st:=JD (by rw[Xh,ν,ui];omega)
theorem jcF {b:Nat}{cs:List AV}{h:T AO}(ho:0+5<=qp h b)(hv:rats h b 0 5=cs)(hc:cs.all eqs=true):(qb γ 146 (.ptr b 0) (.agg cs) h=true)=True:=eq_true (Zq jtf jte dc ho hv hc)
theorem Xk {b:Nat}{cs:List AV}{h:T AO}(ho:0+6<=qp h b)(hv:rats h b 0 6=cs)(hc:cs.all eqs=true):(qb γ 29 (.ptr b 0) (.agg cs) h=true)=True:=eq_true (Zq jbp jbo dc ho hv hc)
theorem Xo (x:Ex):(eE x).all eqs=true:=nr (by rw[qA];rfl)
theorem WA (t:Tk):t.cells.all eqs=true:=nr rfl
def EK (ts:List Tk)(d:Nat)(r:PR)(v:AV)(s:St):Prop:=match r with | .ok y j=>G1 3 (pC ts j d) (.agg (eE y)) v s | .er _=>False
def EP (ts:List Tk)(r:PR)(v:AV)(s:St):Prop:=match r with | .ok _ _=>False | .er t=>∃ i' d',G1 3 (pC ts i' d') (er t) v s
theorem jhi (ts:List Tk)(d:Nat)(y:Ex)(j:Nat)(v:AV)(s:St):EK ts d (.ok y j) v s=G1 3 (pC ts j d) (.agg (eE y)) v s:=nr rfl
theorem jnU (ts:List Tk)(t:Tk)(v:AV)(s:St):EP ts (.er t) v s = ∃ i' d',G1 3 (pC ts i' d') (er t) v s:=nr rfl
theorem jmK {f:FuncId}{F:XF}(hl:jy γ f=some F)(hnd:F.body.nd=true)(hm:base.pur f=3){xs:List AV}{ts:List Tk}{i d:Nat}{r:PR}
  (h:xC γ base F.body (jr F.ps (.ptr 0 0 :: xs)) (nw st0 (pC ts i d)) (XQ γ F.res (EK ts d r)) λv _ s=>EP ts r v s.bare):Ans base f (pC ts i d) xs ts d r:=by
 rw[<-Hy] at h;obtain⟨q,he,hq⟩:=Y2 (st:=ZX (pC ts i d)) (K:=EK ts d r) (Kp:=EP ts r) hl hnd h;cases r with
 |ok y j=>
  refine PM.of hm rfl ⟨q,he,?_⟩;cases q<;>first|exact hq|exact hq.elim
 |er t=>
  cases q with
  |no=>exact hq.elim
  |ok v s=>exact(hq:False).elim
  |pn v s=>
   obtain⟨i',d',hq⟩:=(hq:∃ i' d',G1 3 (pC ts i' d') (er t) v s);exact⟨i',d',PM.of hm rfl ⟨_,he,hq⟩⟩
theorem jr3 (hb:NB base){ts:List Tk}(W:Wds ts){n:Nat}(ihE:∀ m,m<=n->IsE base ts m)(ihP:IsP base ts n):IsE base ts (n+1):=by
 intro lv i d r h hi hd ok;have wl:=W.len;unfold zb at h;cases lv with
 |nil=>
  dsimp only at h;have A:=ihP _ _ _ h hi hd;cases r with
  |er t=>
   obtain⟨i',d',A⟩:=A;have E:∀ st p,Cl st p (pC ts i d)->∀ K Kp,XB γ base 128 [.ptr p 0] st K Kp=_:=λst p C K Kp=>A.xb C rfl (λst=>hb.no 128 dc _ _) K Kp;refine⟨i',d',?_⟩;unfold pC at *;refine qe x93 haa (hb.pur 100 3 dc) rfl ?_;simp only[y93,jr,ζ,η,θ,κ];rw[(by unfold z93;simp only[qq];rfl:z93=_)];repeat' first|apply jb<;>intro _|simp(disch:=try exact dzD) only[E,r6,δ,ε]
   (refine G1.done cyD haa haa ?_;try exact vyD)
  |ok x j=>
   have A:PM _ _ _ _ _ _ _:=A;have E:∀ st p,Cl st p (pC ts i d)->∀ K Kp,XB γ base 128 [.ptr p 0] st K Kp=_:=λst p C K Kp=>A.xb C rfl (λst=>hb.no 128 dc _ _) K Kp;show PM _ _ _ _ _ _ _;unfold pC at *;refine qe x93 haa (hb.pur 100 3 dc) rfl ?_;simp only[y93,jr,ζ,η,θ,κ];rw[(by unfold z93;simp only[qq];rfl:z93=_)];repeat' first|apply jb<;>intro _|simp(disch:=try exact dzD) only[E,r6,δ,ε]
   (refine G1.done cyD haa haa ?_;try exact vyD)
 |cons v l=>
  dsimp only at h;have hlen:(0:Int)<((l.length+1:Nat):Int):=om
  have hlen2:¬ ((l.length+1:Nat):Int)=0:=om
  cases he:zb ts n l i d with
  |none=>rw[he] at h;cases h
  |some q=>
   have A:=ihE n (μ _) _ _ _ _ he hi hd ⟨by have:=ok.1;simp at this;omega,λw hw=>ok.2 w (Qci _ hw)⟩;have hz:=(kJ W n).1 _ _ _ _ he hi;cases q with
   |er t=>
    rw[he] at h;cases h;obtain⟨i',d',A⟩:=A;have E:∀ st p,Cl st p (pC ts i d)->∀ K Kp,XB γ base 100 [.ptr p 0,.lst l.length (fl XE l)] st K Kp=_:=λst p C K Kp=>A.xb C rfl (λst=>hb.no 100 dc _ _) K Kp;refine⟨i',d',?_⟩;unfold pC at *;refine qe x93 haa (hb.pur 100 3 dc) rfl ?_;simp only[y93,jr,ζ,η,θ,κ];rw[(by unfold z93;simp only[qq];rfl:z93=_)];repeat' first|apply jb<;>intro _|simp(disch:=try exact dzD) only[E,hlen2,gw ui v l,r6,δ,ε]
    (refine G1.done cyD haa haa ?_;try exact vyD)
   |ok x j=>
    rw[he] at h;dsimp only at h;have A:PM _ _ _ _ _ _ _:=A;have E:∀ st p,Cl st p (pC ts i d)->∀ K Kp,XB γ base 100 [.ptr p 0,.lst l.length (fl XE l)] st K Kp=_:=λst p C K Kp=>A.xb C rfl (λst=>hb.no 100 dc _ _) K Kp;have hj:j<ts.length:=hz.2.1;show Ans base 100 (pC ts i d) [.lst (v :: l).length (fl XE (v :: l))] ts d r;refine jmK x93 haa (hb.pur 100 3 dc) ?_;simp only[y93,jr,ζ,η,θ,κ];rw[(by unfold z93;simp only[qq];rfl:z93=_)];unfold pC at *;repeat' first|apply jb<;>intro _|simp(disch:=try exact dzD) only[E,hlen2,gw ui v l,r6,δ,ε]
    refine WD λu hu=>?_;have n0:3<=u.nx:=by rw[hu];exact μ _
    have C0:Cl u 0 (pC ts j d):=by
     rw[hu];unfold pC
     (try exact cyD)
    have C1:Cl u 1 [.int .i64 0,.int .i64 0,.str [],.nils,.int .i64 0,.int .i64 0]:=by
     rw[hu]
     (try exact cyD)
    have C2:Cl u 2 (eE x):=by
     rw[hu]
     (try exact cyD)
    clear hu E A;refine yA (λmm L s=>∃ (m i':Nat) (x':Ex),m<=n/\mm=m/\Xr ts m v l x' i' d=some r/\i'<ts.length/\3<=s.nx/\Cl s 0 (pC ts i' d)/\Cl s 1 [.int .i64 0,.int .i64 0,.str [],.nils,.int .i64 0,.int .i64 0]/\Cl s 2 (eE x')/\Has L 0 (.ptr 0 0)/\Has L 1 (.lst (l.length+1) (fl XE (v :: l)))/\Has L 4 (.ptr 1 0)/\Has L 5 (.ptr 2 0)) ?_ n ?_
    .rintro m L s ⟨_,i',x',hm,rfl,hl,hi',n0,C0,C1,C2,i0,i1,i4,i5⟩;cases m with
     |zero=>simp[Xr] at hl
     |succ m=>
     unfold Xr at hl;have hx:(i':Int)+1=((i'+1:Nat):Int):=om
     have T:=λst p=>@jq9 base hb ts i' d hi' om v.1 (by have:=ok.2 v hac;omega) st p;have R2:rats s.h 2 0 6=eE x':=(C2.ratsP 6 0 (by rw[zR];decide)).trans (by rw[Qbd,<-zR x',Qab]);have l2:=C2.len;rw[zR] at l2;have L0:=C0.lt;have L1:=C1.lt;have L2:=C2.lt;by_cases c1:isM (tk ts i') v.1=true
     .rw[if_pos c1] at hl;have hi1:=W.isM hi' c1;have hw:=λy=>jtu hb (tk ts i') x' y;by_cases w1:v.2=1
      .rw[if_pos w1] at hl;have w1':(v.2:Int)=1:=om
       cases he2:zb ts m (v :: l) (i'+1) d with
       |none=>rw[he2] at hl;cases hl
       |some q=>
        have A:=ihE m om _ _ _ _ he2 hi1 hd ok;cases q with
        |er t=>
         rw[he2] at hl;cases hl;obtain⟨i2,d2,A⟩:=A;have E:∀ st p,Cl st p (pC ts (i'+1) d)->∀ K Kp,XB γ base 100 [.ptr p 0,.lst (l.length+1) (fl XE (v :: l))] st K Kp=_:=λst p C K Kp=>A.xb C rfl (λst=>hb.no 100 dc _ _) K Kp;unfold pC at *
         (have zz:=a4 @Xo @WA @R2 (aI @l2 (aI C0.r C1.r));repeat' first|apply jb<;>intro _|simp(disch:=try exact qW) only[ja i0,ja i1,ja i4,ja i5,T,c1,E,w1',kY,Gj,jcF,Xk,He i5,jnU,R2,C0.q,C1.q,Xo,WA,R2,l2,C0.r,C1.r,r6,δ,ε])
         refine⟨i2,d2,?_⟩;unfold pC
         (refine G1.done (by have zz:=a4 C0.q C1.q C2.q (aI C0.r (aI C1.r C2.r));exact qt) haa haa ?_;try exact vyD)
        |ok y j=>
         rw[he2] at hl;cases hl;have A:PM _ _ _ _ _ _ _:=A;have E:∀ st p,Cl st p (pC ts (i'+1) d)->∀ K Kp,XB γ base 100 [.ptr p 0,.lst (l.length+1) (fl XE (v :: l))] st K Kp=_:=λst p C K Kp=>A.xb C rfl (λst=>hb.no 100 dc _ _) K Kp;unfold pC at *
         (have zz:=a4 @Xo @WA @R2 (aI @l2 (aI C0.r C1.r));repeat' first|apply jb<;>intro _|simp(disch:=try exact qW) only[ja i0,ja i1,ja i4,ja i5,T,c1,E,w1',kY,Gj,jcF,Xk,He i5,jhi,<-qA,hw,R2,C0.q,C1.q,Xo,WA,R2,l2,C0.r,C1.r,r6,δ,ε])
         unfold pC
         (refine G1.done (by have zz:=a4 C0.q C1.q C2.q (aI C0.r (aI C1.r C2.r));exact qt) haa haa ?_;try exact vyD)
      .rw[if_neg w1] at hl;have w1':¬ (v.2:Int)=1:=om
       cases he2:zb ts m l (i'+1) d with
       |none=>rw[he2] at hl;cases hl
       |some q=>
        have A:=ihE m om _ _ _ _ he2 hi1 hd ⟨by have:=ok.1;simp at this;omega,λw hw=>ok.2 w (Qci _ hw)⟩;have hz2:=(kJ W m).1 _ _ _ _ he2 hi1;cases q with
        |er t=>
         rw[he2] at hl;cases hl;obtain⟨i2,d2,A⟩:=A;have E:∀ st p,Cl st p (pC ts (i'+1) d)->∀ K Kp,XB γ base 100 [.ptr p 0,.lst l.length (fl XE l)] st K Kp=_:=λst p C K Kp=>A.xb C rfl (λst=>hb.no 100 dc _ _) K Kp;unfold pC at *
         (have zz:=a4 @Xo @WA @R2 (aI @l2 (aI C0.r C1.r));repeat' first|apply jb<;>intro _|simp(disch:=try exact qW) only[ja i0,ja i1,ja i4,ja i5,T,c1,E,w1',kY,Gj,jcF,Xk,He i5,jnU,gw ui v l,R2,C0.q,C1.q,Xo,WA,R2,l2,C0.r,C1.r,r6,δ,ε])
         refine⟨i2,d2,?_⟩;unfold pC
         (refine G1.done (by have zz:=a4 C0.q C1.q C2.q (aI C0.r (aI C1.r C2.r));exact qt) haa haa ?_;try exact vyD)
        |ok y j=>
         rw[he2] at hl;dsimp only at hl;have A:PM _ _ _ _ _ _ _:=A;have hj2:j<ts.length:=hz2.2.1;have E:∀ st p,Cl st p (pC ts (i'+1) d)->∀ K Kp,XB γ base 100 [.ptr p 0,.lst l.length (fl XE l)] st K Kp=_:=λst p C K Kp=>A.xb C rfl (λst=>hb.no 100 dc _ _) K Kp;by_cases w2:v.2=2
         .rw[if_pos w2] at hl;cases hl;have w2':(v.2:Int)=2:=om
          unfold pC at *
          (have zz:=a4 @Xo @WA @R2 (aI @l2 (aI C0.r C1.r));repeat' first|apply jb<;>intro _|simp(disch:=try exact qW) only[ja i0,ja i1,ja i4,ja i5,T,c1,E,w1',w2',kY,Gj,jcF,Xk,He i5,jhi,<-qA,hw,gw ui v l,R2,C0.q,C1.q,Xo,WA,R2,l2,C0.r,C1.r,r6,δ,ε])
          unfold pC
          (refine G1.done (by have zz:=a4 C0.q C1.q C2.q (aI C0.r (aI C1.r C2.r));exact qt) haa haa ?_;try exact vyD)
         .rw[if_neg w2] at hl;have w2':¬ (v.2:Int)=2:=om
          unfold pC at *
          (have zz:=a4 @Xo @WA @R2 (aI @l2 (aI C0.r C1.r));repeat' first|apply jb<;>intro _|simp(disch:=try exact qW) only[ja i0,ja i1,ja i4,ja i5,T,c1,E,w1',w2',kY,Gj,jcF,Xk,He i5,<-qA,hw,gw ui v l,R2,C0.q,C1.q,Xo,WA,R2,l2,C0.r,C1.r,r6,δ,ε])
          refine⟨m,om,m,j,QY (tk ts i') x' y,om,rfl,hl,hj2,om,?_,?_,?_,?_⟩
          ·(have zz:=a4 C0.q C1.q C2.q (aI C0.r (aI C1.r C2.r));try exact qt)
          ·(have zz:=a4 C0.q C1.q C2.q (aI C0.r (aI C1.r C2.r));try exact qt)
          ·(have zz:=a4 C0.q C1.q C2.q (aI C0.r (aI C1.r C2.r));try exact qt)
          .simp(disch:=decide) only[h12,i0,i1,i4,i5]
     .rw[if_neg c1] at hl;cases hl;unfold pC at *
      (have zz:=a4 @R2 @l2 C0.r C1.r;repeat' first|apply jb<;>intro _|simp(disch:=try exact qW) only[ja i0,ja i1,ja i4,ja i5,T,c1,kY,jhi,<-qA,R2,C0.q,C1.q,R2,l2,C0.r,C1.r,r6,δ,ε])
      unfold pC
      (refine G1.done (by have zz:=a4 C0.q C1.q C2.q (aI C0.r (aI C1.r C2.r));exact qt) haa haa ?_;try exact vyD)
    .refine⟨n,j,x,μ _,rfl,h,hj,n0,C0,C1,C2,?_⟩;simp(disch:=decide) only[h12]
mutual
def Ex.ev (q:Ex->Prop):Ex->Prop
 |.mk o n nm ks l c=>q (.mk o n nm ks l c)/\Ex.evs q ks
def Ex.evs (q:Ex->Prop):List Ex->Prop
 |[]=>True
 |x :: xs=>x.ev q/\Ex.evs q xs
end
def atW (ts:List Tk)(x:Ex):Prop:=x.op≠4/\∃ k,k<ts.length/\(tk ts k).kind≠5/\x.line=(tk ts k).line/\x.col=(tk ts k).col
def GoodR (ts:List Tk)(i:Nat):PR->Prop
 |.ok x j=>i<=j/\j<ts.length/\x.ev (atW ts)
 |.er t=>∃ k,k<ts.length/\t=tk ts k
theorem GoodR.le {ts:List Tk}{i j:Nat}{r:PR}(h:GoodR ts j r)(hij:i<=j):GoodR ts i r:=by
 cases r with
 |ok x k=>exact⟨ψ hij h.1,h.2⟩
 |er t=>exact h
def okT (l:List Lev):Prop:=∀ v∈l,∀ s∈v.1,(vj s).isSome=true
theorem hY:okT Jv:=by
 have:(Jv.all λv=>v.1.all λs=>(vj s).isSome)=true:=by decide +kernel
 intro v hv s hs;rw[Qai] at this;have h:=this v hv;rw[Qai] at h;exact h s hs
theorem WN {ts:List Tk}{k:Nat}(hk:k<ts.length)(h5:(tk ts k).kind≠5){o n:Int}{nm:Lt}{ks:List Ex}(ho:o≠4)(h:Ex.evs (atW ts) ks):(Ex.mk o n nm ks (tk ts k).line (tk ts k).col).ev (atW ts):=
 ⟨⟨ho,k,hk,h5,rfl,rfl⟩,h⟩
theorem jii {ts:List Tk}{k:Nat}(hk:k<ts.length)(h5:(tk ts k).kind≠5){x y:Ex}(hx:x.ev (atW ts))(hy:y.ev (atW ts))(ht:(vj (tk ts k).text).isSome=true):(QY (tk ts k) x y).ev (atW ts):=by
 unfold QY;split
 .refine WN hk h5 om ⟨hx,hy,trivial⟩
 .rename_i h;rw[h] at ht;cases ht
theorem Gw {t:Tk}{S:Lq}(h:isM t S=true):t.kind≠5:=by have:=(VJ h).1;omega
def Anw (f:Nat->Option PR)(Q:PR->Prop):Prop:=∃ N r,Q r/\∀ n,N<=n->f n=some r
theorem Anw.mono {f:Nat->Option PR}{Q R:PR->Prop}(h:Anw f Q)(k:∀ r,Q r->R r):Anw f R:=by
 obtain⟨N,r,h1,h2⟩:=h;exact⟨N,r,k r h1,h2⟩
theorem jnZ {f g:Nat->Option PR}{Q:PR->Prop}(h:Anw f Q)(k:∀ n,g (n+1)=f n):Anw g Q:=by
 obtain⟨N,r,h1,h2⟩:=h;refine⟨N+1,r,h1,λn hn=>?_⟩;obtain⟨m,rfl⟩:∃ m,n=m+1:=⟨n - 1,om⟩;rw[k,h2 m om]
theorem Wl {g:Nat->Option PR}{Q:PR->Prop}(r:PR)(hQ:Q r)(k:∀ n,g (n+1)=some r):Anw g Q:=by
 refine⟨1,r,hQ,λn hn=>?_⟩;obtain⟨m,rfl⟩:∃ m,n=m+1:=⟨n - 1,om⟩;exact k m
theorem G3 {f g:Nat->Option PR}{Q R:PR->Prop}(F:Ex->Nat->Nat->Option PR)(h:Anw f Q)(k:∀ n,g (n+1)=(match f n with|some (.ok x j)=>F x j n|r=>r))(he:∀ t,Q (.er t)->R (.er t))(ho:∀ x j,Q (.ok x j)->Anw (F x j) R):Anw g R:=by
 obtain⟨N,r,h1,h2⟩:=h;cases r with
 |er t=>
  refine⟨N+1,.er t,he t h1,λn hn=>?_⟩;obtain⟨m,rfl⟩:∃ m,n=m+1:=⟨n - 1,om⟩;rw[k,h2 m om]
 |ok x j=>
  obtain⟨M,r,h3,h4⟩:=ho x j h1;refine⟨max N M+1,r,h3,λn hn=>?_⟩;obtain⟨m,rfl⟩:∃ m,n=m+1:=⟨n - 1,om⟩;rw[k,h2 m om];exact h4 m om
theorem G2 {f:Nat->Option PR}{Q:PR->Prop}(r:PR)(hQ:Q r)(k:∀ n,f n=some r):Anw f Q:=⟨0,r,hQ,λn _=>k n⟩
structure AnsM (ts:List Tk)(m:Nat):Prop where
 e:∀ i d l,i<ts.length->ts.length<=i+m->d<=60->okT l->Anw (λn=>zb ts n l i d) (GoodR ts (i+1))
 p:∀ i d,i<ts.length->ts.length<=i+m->d<=60->Anw (λn=>Q1 ts n i d) (GoodR ts (i+1))
 o:∀ i d v l x,i<ts.length->ts.length<=i+m->d<=60->okT (v :: l)->x.ev (atW ts)->Anw (λn=>Xr ts n v l x i d) (GoodR ts i)
theorem jsM {ts:List Tk}(W:Wds ts):∀ m,AnsM ts m
 |0=>⟨λi d l h1 h2=>by omega,λi d h1 h2=>by omega,λi d v l x h1 h2=>by omega⟩
 |m+1=>by
  have ih:=jsM W m;have hv:∀ i d,i<ts.length->ts.length<=i+(m+1)->d<=60->Anw (λn=>YV ts n i d) (GoodR ts (i+1)):=by
   intro i d hi hm hd;by_cases h2:(tk ts i).kind=2
   .exact Wl (.ok (.mk 1 (tk ts i).num [] [] (tk ts i).line (tk ts i).col) (i+1)) ⟨μ _,W.next i hi om,WN hi om dc (ks:=[]) trivial⟩ λn=>by simp only[YV];rw[if_pos h2]
   by_cases h1:(tk ts i).kind=1
   .exact Wl (.ok (.mk 3 0 (tk ts i).text [] (tk ts i).line (tk ts i).col) (i+1)) ⟨μ _,W.next i hi om,WN hi om dc (ks:=[]) trivial⟩ λn=>by simp only[YV];rw[if_neg h2,if_pos h1]
   by_cases ht:isM (tk ts i) [[116,114,117,101]]=true
   .exact Wl (.ok (.mk 2 1 [] [] (tk ts i).line (tk ts i).col) (i+1)) ⟨μ _,W.isM hi ht,WN hi (Gw ht) dc (ks:=[]) trivial⟩ λn=>by simp only[YV];rw[if_neg h2,if_neg h1,if_pos ht]
   by_cases hf:isM (tk ts i) [[102,97,108,115,101]]=true
   .exact Wl (.ok (.mk 2 0 [] [] (tk ts i).line (tk ts i).col) (i+1)) ⟨μ _,W.isM hi hf,WN hi (Gw hf) dc (ks:=[]) trivial⟩ λn=>by simp only[YV];rw[if_neg h2,if_neg h1,if_neg ht,if_pos hf]
   by_cases hp:isM (tk ts i) [[40]]=true
   .have hi1:=W.isM hi hp;by_cases h60:60<d+1
    .exact Wl (.er _) ⟨i+1,hi1,rfl⟩ λn=>by simp only[YV];rw[if_neg h2,if_neg h1,if_neg ht,if_neg hf,if_pos hp,if_pos h60]
    .refine G3 (λx j n=>if isM (tk ts j) [[41]]=true then some (.ok x (j+1)) else some (.er (tk ts j))) (ih.e (i+1) (d+1) Jv hi1 om om hY) (λn=>by simp only[YV];rw[if_neg h2,if_neg h1,if_neg ht,if_neg hf,if_pos hp,if_neg h60]<;>rfl) (λt h=>h) λx j h=>?_;by_cases hq:isM (tk ts j) [[41]]=true
     .exact G2 (.ok x (j+1)) ⟨by have:=h.1;omega,W.isM h.2.1 hq,h.2.2⟩ λn=>if_pos hq
     .exact G2 (.er (tk ts j)) ⟨j,h.2.1,rfl⟩ λn=>if_neg hq
   .exact Wl (.er _) ⟨i,hi,rfl⟩ λn=>by simp only[YV];rw[if_neg h2,if_neg h1,if_neg ht,if_neg hf,if_neg hp]
  have hp:∀ i d,i<ts.length->ts.length<=i+(m+1)->d<=60->Anw (λn=>Q1 ts n i d) (GoodR ts (i+1)):=by
   intro i d hi hm hd;by_cases hp:isM (tk ts i) zC=true
   .have hi1:=W.isM hi hp;by_cases h60:60<d+1
    .exact Wl (.er _) ⟨i+1,hi1,rfl⟩ λn=>by simp only[Q1];rw[if_pos hp,if_pos h60]
    .refine G3 (λx j n=>some (.ok (.mk (kS (tk ts i).text:Nat) 0 [] [x] (tk ts i).line (tk ts i).col) j)) (ih.p (i+1) (d+1) hi1 om om) (λn=>by simp only[Q1];rw[if_pos hp,if_neg h60]<;>rfl) (λt h=>h) λx j h=>?_;exact G2 (.ok (.mk (kS (tk ts i).text:Nat) 0 [] [x] (tk ts i).line (tk ts i).col) j) ⟨by have:=h.1;omega,h.2.1,WN hi (Gw hp) (by unfold kS;omega) (ks:=[x]) ⟨h.2.2,trivial⟩⟩ λn=>rfl
   .exact jnZ (hv i d hi hm hd) λn=>by simp only[Q1];rw[if_neg hp]
  have he:∀ l i d,i<ts.length->ts.length<=i+(m+1)->d<=60->okT l->Anw (λn=>zb ts n l i d) (GoodR ts (i+1)):=by
   intro l;induction l with
   |nil=>intro i d hi hm hd hl;exact jnZ (hp i d hi hm hd) λn=>by simp only[zb]
   |cons v l ihl=>
    intro i d hi hm hd hl;refine G3 (λx j n=>Xr ts n v l x j d) (ihl i d hi hm hd λw hw=>hl w (Qci _ hw)) (λn=>by simp only[zb]<;>rfl) (λt h=>h) λx j h=>?_;exact(ih.o j d v l x h.2.1 (by have:=h.1;omega) hd hl h.2.2).mono λr hr=>hr.le h.1
  refine⟨λi d l h1 h2 h3 h4=>he l i d h1 h2 h3 h4,hp,λi d v l x hi hm hd hl hx=>?_⟩;by_cases hs:isM (tk ts i) v.1=true
  .have hi1:=W.isM hi hs;have ht:(vj (tk ts i).text).isSome=true:=hl v (List.mem_cons_self ..) _ (VJ hs).2;have hl':okT l:=λw hw=>hl w (Qci _ hw);by_cases hw:v.2=1
   .refine G3 (λy j n=>some (.ok (QY (tk ts i) x y) j)) (ih.e (i+1) d (v :: l) hi1 om hd hl) (λn=>by simp only[Xr];rw[if_pos hs,if_pos hw]<;>rfl) (λt h=>h) λy j h=>?_;exact G2 (.ok (QY (tk ts i) x y) j) ⟨by have:=h.1;omega,h.2.1,jii hi (Gw hs) hx h.2.2 ht⟩ λn=>rfl
   .refine G3 (λy j n=>if v.2=2 then some (.ok (QY (tk ts i) x y) j) else Xr ts n v l (QY (tk ts i) x y) j d) (ih.e (i+1) d l hi1 om hd hl') (λn=>by simp only[Xr];rw[if_pos hs,if_neg hw]<;>rfl) (λt h=>h) λy j h=>?_;have hxy:=jii hi (Gw hs) hx h.2.2 ht;by_cases h2:v.2=2
    .exact G2 (.ok (QY (tk ts i) x y) j) ⟨by have:=h.1;omega,h.2.1,hxy⟩ λn=>if_pos h2
    .obtain⟨N,r,h3,h4⟩:=ih.o j d v l _ h.2.1 (by have:=h.1;omega) hd hl hxy;exact⟨N,r,h3.le (by have:=h.1;omega),λn hn=>(if_neg h2).trans (h4 n hn)⟩
  .exact Wl (.ok x i) ⟨μ _,hi,hx⟩ λn=>by simp only[Xr];rw[if_neg hs]
theorem reads (hb:NB base){ts:List Tk}(W:Wds ts):∀ n,IsE base ts n/\IsP base ts n/\IsV base ts n:=by
 have key:∀ n,∀ m,m<=n->IsE base ts m/\IsP base ts m/\IsV base ts m:=by
  intro n;induction n with
  |zero=>
   intro m hm;obtain rfl:m=0:=om
   exact⟨λ_ _ _ _ h=>(by simp[zb] at h),λ_ _ _ h=>(by simp[Q1] at h),λ_ _ _ h=>(by simp[YV] at h)⟩
  |succ n ih=>
   intro m hm;by_cases h:m<=n
   .exact ih m h
   .obtain rfl:m=n+1:=om
    obtain⟨h1,h2,h3⟩:=ih n (μ _);exact⟨jr3 hb W (λk hk=>(ih k hk).1) h2,jlU hb W h2 h3,jod hb W h1⟩
 exact λn=>key n n (μ _)
def Ui (ts:List Tk)(i:Nat)(r0:PR):PR:=match r0 with
 |.er t=>.er t
 |.ok x j=>if zg 60 x=true then .ok x j else .er (tk ts i)
def EvR (ts:List Tk)(i:Nat)(r:PR):Prop:=∃ N,∀ n,N<=n->zb ts n Jv i 0=some r
theorem EvR.uniq {ts:List Tk}{i:Nat}{r q:PR}(h:EvR ts i r)(k:EvR ts i q):r=q:=by
 obtain⟨N,h⟩:=h;obtain⟨M,k⟩:=k;have:=(h (max N M) (Qap ..)).symm.trans (k (max N M) (Qaq ..));exact Option.some.inj this
open Classical in
def yC (ts:List Tk)(i:Nat):PR:=if h:∃ r,EvR ts i r then Ui ts i h.choose else .er (tk ts i)
theorem Uj {ts:List Tk}{i:Nat}{r:PR}(h:EvR ts i r):yC ts i=Ui ts i r:=by
 unfold yC;rw[dif_pos ⟨r,h⟩];have:=(⟨r,h⟩:∃ r,EvR ts i r).choose_spec;rw[this.uniq h]
theorem evR {ts:List Tk}(W:Wds ts){i:Nat}(hi:i<ts.length):∃ r,GoodR ts (i+1) r/\EvR ts i r:=by
 obtain⟨N,r,hg,hr⟩:=(jsM W ts.length).e i 0 Jv hi om dc hY;exact⟨r,hg,N,hr⟩
theorem kE (hb:NB base){ts:List Tk}(W:Wds ts){i:Nat}(hi:i<ts.length):Ans base 72 (pC ts i 0) [] ts 0 (yC ts i):=by
 obtain⟨r,_,hr⟩:=evR W hi;rw[Uj hr];obtain⟨N,hr⟩:=hr;have he:=hr N (μ _);have A:=(reads hb W N).1 _ _ _ _ he hi om ⟨dc,dc⟩;have hz:=(kJ W N).1 _ _ _ _ he hi;have hN:=λst p=>@Zv base hb ts i 0 hi st p;have hL:=jdc hb;cases r with
 |er t=>
  obtain⟨i',d',A⟩:=A;have E:∀ st p,Cl st p (pC ts i 0)->∀ K Kp,XB γ base 100 [.ptr p 0,.lst 8 (fl XE Jv)] st K Kp=_:=λst p C K Kp=>A.xb C rfl (λst=>hb.no 100 dc _ _) K Kp;refine⟨i',d',?_⟩;unfold pC at *;refine qe x48 haa (hb.pur 72 3 dc) rfl ?_;simp only[y48,jr,ζ,η,θ,κ];rw[(by unfold z48;simp only[qq];rfl:z48=_)];repeat' first|apply jb<;>intro _|simp(disch:=try exact dzD) only[hN,hL,E,r6,δ,ε]
  (refine G1.done cyD haa haa ?_;try exact vyD)
 |ok x j=>
  have A:PM _ _ _ _ _ _ _:=A;have E:∀ st p,Cl st p (pC ts i 0)->∀ K Kp,XB γ base 100 [.ptr p 0,.lst 8 (fl XE Jv)] st K Kp=_:=λst p C K Kp=>A.xb C rfl (λst=>hb.no 100 dc _ _) K Kp;have hx:szE x<=BIG:=by
   have h1:=hz.2.2;have h2:(j - i) * 65537<=1000000 * 65537:=Qav _ (by have:=W.len;have:=hz.2.1;omega);have h3:1000000 * 65537<=BIG:=dc
   exact ψ h1 (by rw[Qaj];exact ψ h2 h3)
  have hR:=jpr hb x hx;unfold Ui;dsimp only;by_cases c:zg 60 x=true
  .rw[if_pos c];show PM _ _ _ _ _ _ _;unfold pC at *;refine qe x48 haa (hb.pur 72 3 dc) rfl ?_;simp only[y48,jr,ζ,η,θ,κ];rw[(by unfold z48;simp only[qq];rfl:z48=_)];repeat' first|apply jb<;>intro _|simp(disch:=try exact dzD) only[hN,hL,E,hR,c,<-qA,r6,δ,ε]
   (refine G1.done cyD haa haa ?_;try exact vyD)
  .rw[if_neg c];refine⟨j,0,?_⟩;unfold pC at *;refine qe x48 haa (hb.pur 72 3 dc) rfl ?_;simp only[y48,jr,ζ,η,θ,κ];rw[(by unfold z48;simp only[qq];rfl:z48=_)];repeat' first|apply jb<;>intro _|simp(disch:=try exact dzD) only[hN,hL,E,hR,c,QI hb,r6,δ,ε]
   (refine G1.done cyD haa haa ?_;try exact vyD)
def z15:XC:=(ov [TA 2,o9 3 [oB,oB,oB]] (oY [IZ 9,Oy 10 64 9,oz 8 10,Tx 11 8,Ty 12 8,TM 11,o6 3 3 12] (Id [OP 13 3,oI 14 13,ow 15 (O8 .neq 14)] 15 (Lj [La 16 6 2 2 29,La 17 3 3 3 45,Tz 6 2 16 [(0,45)],TV 3 3 17])) (O9 [o4 (.defer (oR 65 []) [3])] [TZ 18,Iw 19 [.nils,oB,oB] [((0,1),18)],ol 20 (.box 19),oy 5 20] (oY [Ld 21,Oy 22 72 21,TA 6,TW 6 22] (ov [Ld 23,Oy 24 73 23,o9 7 [oB,oK,oB,oB,oB],o6 5 7 24] (OA [OP 25 7,oI 26 25,O4 27 .neq 26 5] 27 [oV 28 5 7,Oy 29 74 28])) (Lj [La 30 6 6 6 29,La 31 3 3 3 45,Tz 6 2 30 [(0,45)],TV 3 3 31])))))
def y15:XF:=⟨[0],z15,[(.cA 2 6),(.cA 3 3)]⟩
theorem x15:jy γ 54=some y15:=Qa0
def z9:XC:=(ov [o9 2 [.nils,.nils,.nils],o9 3 [oB,oB,oB]] (oY [IZ 7,Oy 8 64 7,oz 6 8,Tx 9 6,Ty 10 6,TM 9,o6 3 3 10] (Id [OP 11 3,oI 12 11,ow 13 (O8 .neq 12)] 13 (Lj [La 14 3 2 2 26,La 15 3 3 3 45,Tz 3 2 14 [(0,45)],TV 3 3 15])) (ov [o4 (.defer (oR 65 []) [3])] (oY [TZ 16,Iw 17 [.nils,oB,oB] [((0,1),16)],ol 18 (.box 17),oy 5 18] (.dops [Tr 19 5,(TS 20 66 19 0 [],some [OQ 20,Ik (T1 21 3) 3 45 [(0,0)],Ia (o4 (.i (.mv IJ))) 0,Ia (o4 (.i (.mv IJ))) 0]),OO 21 3 3 3 45 [(0,0)],Tz 3 2 20 [(0,45)],TV 3 3 21]) .ret))))
def y9:XF:=⟨[0],z9,[(.cA 2 3),(.cA 3 3)]⟩
theorem x9:jy γ 52=some y9:=Qa0
def z78:XC:=(ov [o9 2 [oK,.nils,oB,oB]] (O9 [IZ 7,Oy 8 120 7,o9 3 [oB,oK,oB,oB,oB],o6 5 3 8] [Tw 9 3,oI 10 9,Tm 11 3,oI 12 11,oF 13 4 3,oI 14 13,Iw 15 [oK,.nils,oB,oB] [((0,1),10),((2,1),12),((3,1),14)],o9 4 [oK,.nils,oB,oB],o6 4 4 15] (IV [IZ 16,OB 17 121 16 (o8 [123])] 0 (.block 1 (.seq (Id [IZ 18,Oy 19 73 18,ol 20 (.fld1 0 19),O4 21 .eql 20 1] 21 (.dops [IY 22 1 4,Tt 23 22 22 106,IP (I5 24 23),IP (IZ 25),(TS 26 73 25 0 [(2,106)],OK),(Iy (OB 27 87 24 26) 0 [],OK)])) (Os [IY 28 1 4,Tt 29 28 28 106,IP (IZ 30),(TS 31 120 30 0 [(1,106)],OK),IP (ol 32 (.fld1 1 31)),IP (TJ 33 1 oK [((0,1),32)]),I4 (Or 34 1 16 29 33) 0 [],IY 35 1 4,TV 1 35 34] (ov [IZ 37,TJ 38 1 oK [OU 0 44],OB 39 86 37 38,oz 36 39,Tx 40 36,Ty 41 36,ol 5 (.alloc [oB,oK,oB,oB,oB]),o6 5 5 40,oy 6 41] (Id [T0 42,OW 43 42] 43 (OL [IZ 44,OB 45 121 44 (o8 [125])] [oV 46 4 4,o6 4 2 46])))))))))
def y78:XF:=⟨[0],z78,[(.cA 2 4)]⟩
theorem x78:jy γ 88=some y78:=Qa0
def jf2:XC:=(.seq (ov [IZ 45,TJ 46 1 oK [OU 0 61],OB 47 86 45 46,oz 44 47,Tx 48 44,Ty 49 44,ol 7 (.alloc [oB,oK,oB,oB,oB]),o6 5 7 48,oy 8 49] (OA [oy 50 8] 50 [IZ 51,Oy 52 72 51,Iu 53 1 6 OJ [((0,6),52)],oF 54 4 4,o6 1 54 53])) (OL [IZ 55,OB 56 121 55 (o8 [59])] [oV 57 7 4,o6 7 2 57]))
def jf3:XC:=(.seq (ov [IZ 21,TJ 22 1 oK [Ov 0 [98,111,111,108]],OB 23 86 21 22,oz 20 23,Tx 24 20,Ty 25 20,ol 5 (.alloc [oB,oK,oB,oB,oB]),o6 5 5 24,oy 6 25] (oL [oy 26 6] 26 (.ops [Tw 27 4,o6 1 27 (o8 [98,111,111,108])]) (oL [IZ 28,Oy 29 73 28,ol 30 (.fld1 0 29),O4 31 .eql 30 1] 31 (.ops [IZ 32,Oy 33 120 32,ol 34 (.fld1 1 33),Tw 35 4,o6 1 35 34]) (O9 [IZ 36,Oy 37 122 36,Lg 38 4,o6 1 38 37] [IZ 39,OB 40 121 39 (o8 [46,46])] (.ops [IZ 41,Oy 42 122 41,Tm 43 4,o6 1 43 42]))))) jf2)
def z79:XC:=(O9 [o9 2 [oK,oK,oB,oB,.nils,oB,oB]] [IZ 9,Oy 10 120 9,o9 3 [oB,oK,oB,oB,oB],o6 5 3 10] (O9 [Tw 11 3,oI 12 11,Tm 13 3,oI 14 13,oF 15 4 3,oI 16 15,Iw 17 [oK,oK,oB,oB,.nils,oB,oB] [((0,1),12),((5,1),14),((6,1),16)],o9 4 [oK,oK,oB,oB,.nils,oB,oB],o6 7 4 17] [IZ 18,OB 19 121 18 (o8 [58])] jf3))
def y79:XF:=⟨[0],z79,[(.cA 2 7)]⟩
theorem x79:jy γ 89=some y79:=Qa0
def Kz:XC:=(O9 [o9 2 [oB,oB,oK,.nils,oB,oB,.nils]] [IZ 7,Oy 8 72 7,Iw 9 [oB,oB,oK,.nils,oB,oB,.nils] [((0,6),8)],o9 3 [oB,oB,oK,.nils,oB,oB,.nils],o6 7 3 9] (IV [IZ 10,OB 11 121 10 (o8 [100,111])] 0 (.block 1 (.seq (Id [IZ 12,Oy 13 73 12,ol 14 (.fld1 0 13),O4 15 .eql 14 1] 15 (.dops [IY 16 6 3,Tt 17 16 16 118,IP (I5 18 17),IP (IZ 19),(TS 20 73 19 0 [(2,118)],OK),(Iy (OB 21 87 18 20) 0 [],OK)])) (ov [IZ 22,Oy 23 120 22,o9 4 [oB,oK,oB,oB,oB],o6 5 4 23] (oY [IZ 24,OB 25 121 24 (o8 [58,61])] (.dops [IY 26 6 3,Tt 27 26 26 118,IY 28 1 4,Tt 29 28 28 9,IP (IZ 30),(TS 31 72 30 0 [(1,9),(3,118)],some [OQ 31,Ia (Tm 32 4) 0,Ik (oI 33 32) 32 3 [(1,0)],Ia (oF 34 4 4) 0,Ik (oI 35 34) 34 3 [(3,0)],OQ 36,OQ 37,OQ 38,OQ 39,Ia (o4 (.i (.mv IJ))) 0]),IY 32 3 4,On 33 32 32 3 [(1,0)],IY 34 4 4,On 35 34 34 3 [(3,0)],TG 36 [oK,oB,oB,oK,.nils,oB,oB,oB,oB] [((0,1),29),((1,6),31),((7,1),33),((8,1),35)],IP (Iu 37 1 9 [oK,oB,oB,oK,.nils,oB,oB,oB,oB] [((0,9),36)]),I4 (Or 38 9 104 27 37) 0 [],IY 39 6 3,TV 1 39 38]) (ov [IZ 41,TJ 42 1 oK [OU 0 44],OB 43 86 41 42,oz 40 43,Tx 44 40,Ty 45 40,ol 5 (.alloc [oB,oK,oB,oB,oB]),o6 5 5 44,oy 6 45] (Id [T0 46,OW 47 46] 47 (OL [IZ 48,OB 49 121 48 (o8 [59])] [oV 50 7 3,o6 7 2 50])))))))))
def jge:XF:=⟨[0],Kz,[(.cA 2 7)]⟩
theorem jls:jy γ 123=some jge:=Qa0
def z80:XC:=(ov [o9 2 [oK,.nils,oB,oB]] (O9 [IZ 7,Oy 8 120 7,o9 3 [oB,oK,oB,oB,oB],o6 5 3 8] [Tw 9 3,oI 10 9,Tm 11 3,oI 12 11,oF 13 4 3,oI 14 13,Iw 15 [oK,.nils,oB,oB] [((0,1),10),((2,1),12),((3,1),14)],o9 4 [oK,.nils,oB,oB],o6 4 4 15] (IV [IZ 16,OB 17 121 16 (o8 [123])] 0 (.block 1 (oY [IZ 19,TJ 20 1 oK [Ov 0 [119,104,101,110]],OB 21 86 19 20,oz 18 21,Tx 22 18,Ty 23 18,o9 5 [oB,oK,oB,oB,oB],o6 5 5 22,oy 6 23] (Id [T0 24,OW 25 24] 25 (OL [IZ 26,OB 27 121 26 (o8 [125])] [oV 28 4 4,o6 4 2 28])) (ov [Tw 29 4,oI 30 29,I5 31 30,oV 32 5 5,OB 33 87 31 32] (.dops [IY 34 1 4,Tt 35 34 34 114,IP (IZ 36),(TS 37 123 36 0 [(1,114)],OK),IP (Iu 38 1 7 [oB,oB,oK,.nils,oB,oB,.nils] [((0,7),37)]),I4 (Or 39 7 96 35 38) 0 [],IY 40 1 4,TV 1 40 39])))))))
def y80:XF:=⟨[0],z80,[(.cA 2 4)]⟩
theorem x80:jy γ 90=some y80:=Qa0
def z37:XC:=(ov [o9 2 [.nils,.nils,.nils]] (IV [o9 3 [.nils,.nils,.nils]] 0 (.block 1 (T9 [IZ 7,TJ 8 3 oK [Ov 0 [101,110,117,109],Ov 1 [118,97,114],Ov 2 [112,114,111,99,101,115,115]],OB 9 86 7 8,oz 6 9,Tx 10 6,Ty 11 6,o9 4 [oB,oK,oB,oB,oB],o6 5 4 10,oy 5 11] 2 (oL [Ld 25,TN 26 25,oz 27 26,Oz 28 27 0 4,Ox 29 27 28,Te 30 27 .neq 29 5,Tc 31 27 30,oy 24 31] 24 (.ops [oV 32 5 4,Oy 33 74 32]) (oL [Ld 35,TN 36 35,oy 34 36] 34 (o5 [T1 37 3,o6 3 2 37]) (oL [Tw 39 4,oI 40 39,T7 41 40 [101,110,117,109],oy 38 41] 38 (ov [OP 42 3,oI 43 42,I5 44 43,oV 45 5 4,OB 46 87 44 45] (.dops [IY 47 0 3,Tt 48 47 47 22,IP (IZ 49),(TS 50 88 49 0 [(1,22)],OK),IP (Iu 51 1 4 [oK,.nils,oB,oB] [((0,4),50)]),I4 (Or 52 4 56 48 51) 0 [],IY 53 0 3,TV 1 53 52])) (oL [Tw 55 4,oI 56 55,T7 57 56 [118,97,114],oy 54 57] 54 (ov [Tw 58 3,oI 59 58,I5 60 59,oV 61 5 4,OB 62 87 60 61] (.dops [IY 63 1 3,Tt 64 63 63 23,IP (IZ 65),(TS 66 89 65 0 [(1,23)],OK),IP (Iu 67 1 7 [oK,oK,oB,oB,.nils,oB,oB] [((0,7),66)]),I4 (Or 68 7 88 64 67) 0 [],IY 69 1 3,TV 1 69 68])) (ov [Lg 12 3,oI 13 12,I5 14 13,oV 15 5 4,OB 16 87 14 15] (.dops [IY 17 2 3,Tt 18 17 17 24,IP (IZ 19),(TS 20 90 19 0 [(1,24)],OK),IP (Iu 21 1 4 [oK,.nils,oB,oB] [((0,4),20)]),I4 (Or 22 4 56 18 21) 0 [],IY 23 2 3,TV 1 23 22]))))))))))
def y37:XF:=⟨[0],z37,[(.cA 2 3)]⟩
theorem x37:jy γ 66=some y37:=Qa0
def W6:XC:=(.block 0 (oL [ow 7 (.gen .eql 20 true 5 (.c .nilif))] 7 (.ops [Ld 2]) (oL [ol 8 (.assert 5 45),ow 9 (.ext 8 1),ow 10 (.ext 8 0)] 9 (ov [o9 3 [oB,oB,oB],o6 3 3 10] (.ops [IZ 11,T1 12 3,IR 13 11,o6 3 13 12])) (ov [TM 5] (.ops [TZ 6,o4 (.pan 6)])))))
def G9:XH:=⟨[0],(some 5),true,[],W6,[]⟩
theorem jqJ:jbL γ 65=some G9:=Qa0
def jk2:XC:=(OV Tv (T8 [oy 7 1,IQ 8 7,I3 9] 0 10 9 8 10 0 1 [Lk 11 7 9,oI 12 11,oy 6 12] (Iz [T0 13,IZ 14,ow 15 (.strb .eql 13 14)] 15 [Tb 4]) 16 9 9 16) Tv)
def jqn:XF:=⟨[0,1],jk2,[(.t 4)]⟩
theorem juN:jy γ 106=some jqn:=Qa0
def z84:XC:=(OL Ll [IZ 3,TJ 4 19 oK [Ov 0 [101,110,117,109],Ov 1 [118,97,114],Ov 2 [98,111,111,108],Ov 3 [112,114,111,99,101,115,115],Ov 4 [119,104,101,110],Ov 5 [100,111],Ov 6 [116,114,117,101],Ov 7 [102,97,108,115,101],OU 8 88,OU 9 70,OU 10 71,OU 11 85,OU 12 82,OU 13 89,OU 14 90,OU 15 79,OU 16 72,OU 17 83,OU 18 84],OB 5 106 3 4,Tq 5])
def y84:XF:=⟨[0],z84,[(.t 2)]⟩
theorem x84:jy γ 81=some y84:=Qa0
def z83:XC:=(OL Ll [IZ 3,ol 4 (oJ .geq 3 (TF 97)),TZ 5,I0 6 5 0,Ih 7 5 (oJ .leq 6 (TF 122)),Tc 8 5 7,oz 9 8,II 10 9 0,Ig 11 9 (oJ .geq 10 (TF 65)),II 12 9 11,I0 13 12 0,Ih 14 12 (oJ .leq 13 (TF 90)),Lm 15 9 12 14 oX,Td 16 9 15,Tq 16])
def y83:XF:=⟨[0],z83,[(.t 2)]⟩
theorem x83:jy γ 79=some y83:=Qa0
def z85:XC:=(OL Ll [IZ 3,ol 4 (oJ .geq 3 (TF 48)),TZ 5,I0 6 5 0,Ih 7 5 (oJ .leq 6 (TF 57)),Tc 8 5 7,Tq 8])
def y85:XF:=⟨[0],z85,[(.t 2)]⟩
theorem x85:jy γ 80=some y85:=Qa0
def z56:XC:=(OV Ll (IV [I3 3] 0 (.seq (O5 [oz 4 3,IZ 5,ol 6 (.lenS 5),I6 7 4 6] 7 (.exit 0)) (IA 1 (Iz [IZ 10,oz 11 3,ol 12 (.ixStr 10 11),Oy 13 79 12,TN 14 13,oz 15 14,I0 16 15 3,Ih 17 15 (TK 16),I0 18 15 17,II 19 18 0,II 20 18 3,Ig 21 18 (.ixStr 19 20),Li 22 18 80 [21],TT 23 18 22,II 24 18 23,I0 25 24 0,I0 26 24 3,Ih 27 24 (.ixStr 25 26),Ih 28 24 (oJ .neq 27 (TF 95)),Lm 29 18 24 28 oX,Ih 30 15 (.pick 18 Ii 29),I7 31 15 30 oX] 31 Ll) [oz 8 3,TB 9 8 1,oy 3 9]))) [IZ 32,ol 33 (.lenS 32),ol 34 (O8 .gtr 33),oz 35 34,I0 36 35 0,Ih 37 35 (.lenS 36),Te 38 35 .leq 37 32,Tc 39 35 38,oz 40 39,I0 41 40 0,Tn 42 (40,true) 81 [41],Ih 43 40 (IB 42),Tc 44 40 43,Tq 44])
def y56:XF:=⟨[0],z56,[(.t 2)]⟩
theorem x56:jy γ 58=some y56:=Qa0
def z16:XC:=(oY [TU 1,Ib 2 oK] (Id [Tm 3 1,oI 4 3,I5 5 4,O4 6 .eql 5 2] 6 (Lj [IY 7 3 1,Tt 8 7 7 27,IP (Il 9 6 8 ON),La 10 6 9 9 29,(TS 11 104 10 0 [],some [OQ 11,OQ 12,Ia (OP 13 1) 0,Ik (oI 14 13) 13 3 [(2,0)],OQ 15,OQ 16,OQ 17,Ia (Tm 18 1) 0,Ik (oI 19 18) 18 27 [(3,0),(7,0)],Ia (Il 20 6 19 Th) 0,Ik (Ta 21 20) 20 29 [(5,0),(9,0)],OQ 22,OQ 23,Ia (Ib 2 Ir) 0]),IP (OT 12 11 (o8 [32])),IY 13 0 1,On 14 13 13 3 [(2,0)],(TS 15 105 14 0 [],some [OQ 15,OQ 16,OQ 17,Ia (Tm 18 1) 0,Ik (oI 19 18) 18 27 [(3,0),(7,0)],Ia (Il 20 6 19 Th) 0,Ik (Ta 21 20) 20 29 [(5,0),(9,0)],OQ 22,OQ 23,Ia (Ib 2 Ir) 0]),IP (OT 16 12 15),IP (OT 17 16 (o8 [32])),IY 18 3 1,On 19 18 18 27 [(3,0),(7,0)],IP (Il 20 6 19 Th),OO 21 6 20 20 29 [(5,0),(9,0)],(TS 22 104 21 0 [],OK),IP (OT 23 17 22),IP (Tq 23)])) (.seq (Id [Tm 24 1,oI 25 24,I5 26 25,O4 27 .eql 26 1] 27 (.seq (Id [OP 28 1,oI 29 28,O4 30 .gtr 29 6] 30 (Lj [IY 31 0 1,Tt 32 31 31 3,(TS 33 105 32 0 [],some [OQ 33,OQ 34,Ia (Tm 35 1) 0,Ik (oI 36 35) 35 27 [(2,0)],Ia (Il 37 6 36 ON) 0,Ik (Ta 38 37) 37 29 [(4,0)],OQ 39,OQ 40,Ia (Ib 2 Ir) 0]),IP (OT 34 33 (o8 [32])),IY 35 3 1,On 36 35 35 27 [(2,0)],IP (Il 37 6 36 ON),OO 38 6 37 37 29 [(4,0)],(TS 39 104 38 0 [],OK),IP (OT 40 34 39),IP (Tq 40)])) (Lj [IY 41 0 1,Tt 42 41 41 3,(TS 43 105 42 0 [],some [OQ 43,Ia (Tm 44 1) 0,Ik (oI 45 44) 44 27 [(1,0)],Ia (Il 46 6 45 ON) 0,Ik (Ta 47 46) 46 29 [(3,0)],OQ 48,OQ 49,Ia (Ib 2 Ir) 0]),IY 44 3 1,On 45 44 44 27 [(1,0)],IP (Il 46 6 45 ON),OO 47 6 46 46 29 [(3,0)],(TS 48 104 47 0 [],OK),IP (OT 49 43 48),IP (Tq 49)]))) (Lb [OP 50 1,oI 51 50,O4 52 .eql 51 1] 52 [Tw 53 1,oI 54 53,Oy 55 77 54,Tq 55] (OY (Id [OP 56 1,oI 57 56,O4 58 .eql 57 2] 58 (OY (Iz [Tw 59 1,oI 60 59,O4 61 .eql 60 1] 61 [Tq (o8 [116,114,117,101])]) [Tq (o8 [102,97,108,115,101])])) [Lg 62 1,oI 63 62,Tq 63]))))
def y16:XF:=⟨[0],z16,[(.t 2)]⟩
theorem x16:jy γ 78=some y16:=Qa0
def z51:XC:=(Og [TU 1,Ib 2 oK] [Tm 3 1,oI 4 3,I5 5 4,ow 6 (TK 5)] 6 [Ta 7 1,Oy 8 78 7,Tq 8] (o5 [Ta 9 1,Oy 10 78 9,OT 11 (o8 [40]) 10,OT 12 11 (o8 [41]),Tq 12]))
def y51:XF:=⟨[0],z51,[(.t 2)]⟩
theorem x51:jy γ 104=some y51:=Qa0
def z53:XC:=(Og [Ib 2 oK] [IZ 3,ow 4 (O8 .lss 3)] 4 [IZ 5,ol 6 (.un .neg 5),Oy 7 77 6,OT 8 (o8 [45]) 7,Tq 8] (Lb [IZ 9,O4 10 .lss 9 10] 10 [IZ 11,IZ 12,TB 13 12 1,ol 14 (.slStr (o8 [48,49,50,51,52,53,54,55,56,57]) (some 11) (some 13)),Tq 14] (TO [Lc 15,IG (Ic 16 .quo 15 10),(Oy 17 77 16,some [OQ 17,IK 18 0 0,Ia (Ic 19 .rem 18 10) 0,IK 20 0 0,Ia (Ic 21 .rem 20 10) 0,Ia (TB 22 21 1) 0,Ia (ol 23 (.slStr (o8 [48,49,50,51,52,53,54,55,56,57]) (some 19) (some 22))) 0,OQ 24,Ia (Ib 2 Ir) 0]),Lc 18,IG (Ic 19 .rem 18 10),Lc 20,IG (Ic 21 .rem 20 10),IG (TB 22 21 1),IG (ol 23 (.slStr (o8 [48,49,50,51,52,53,54,55,56,57]) (some 19) (some 22))),IG (OT 24 17 23),IG (Tq 24)] .ret)))
def y53:XF:=⟨[0],z53,[(.t 2)]⟩
theorem x53:jy γ 77=some y53:=Qa0
def z18:XC:=(ov [TU 1,Ib 2 oK,I3 3] (Og [Ib 4 oK] [OP 19 1,oI 20 19,I5 21 20,Ic 22 .gtr 21 32,oz 23 22,Oq 24 23 1 1,Ow 25 23 24,TR 26 23 25,O7 27 23 .gtr 26 32,Td 28 23 27,oz 29 28,Oq 30 29 2 1,Ow 31 29 30,TR 32 29 31,O7 33 29 .gtr 32 32,Lf 34 29 33] 34 [Ib 2 oK,O0 3 141] (.seq (T8 [OP 35 1,Oi 36 35,IQ 37 36,I3 38] 0 39 38 37 39 0 1 [Il 40 4 36 38,oV 41 4 40,o9 6 [oK,.nils,oB,oB],o6 4 6 41] (Og [oV 43 4 6,Oy 44 56 43,oz 42 44,Tx 45 42,Ty 46 42,oy 7 45,oy 8 46] [oz 47 8,OW 48 47] 48 [Ib 2 oK,O0 3 141] (.ops [TZ 49,oz 50 7,OT 51 49 50,TM 51])) 52 38 38 52) (.seq (T8 [Tw 53 1,Oi 54 53,IQ 55 54,I3 56] 2 57 56 55 57 2 3 [Il 58 7 54 56,oV 59 7 58,o9 10 [oK,oK,oB,oB,.nils,oB,oB],o6 7 10 59] (Og [oV 61 7 10,Oy 62 57 61,oz 60 62,Tx 63 60,Ty 64 60,oy 11 63,oy 12 64] [oz 65 12,OW 66 65] 66 [Ib 2 oK,O0 3 141] (.ops [TZ 67,oz 68 11,OT 69 67 68,TM 69])) 70 56 56 70) (OY (Oe [Lg 71 1,Oi 72 71,IQ 73 72,I3 74] 4 (To 75 74 73) 75 4 5 (Og [Il 76 4 72 74,oV 77 4 76,o9 14 [oK,.nils,oB,oB],o6 4 14 77] [OP 78 14,oI 79 78,Oy 80 58 79,TN 81 80,oz 82 81,Oq 83 82 1 14,Ow 84 82 83,TR 85 82 84,O7 86 82 .gtr 85 32,Lf 87 82 86] 87 [Ib 2 oK,O0 3 141] (oY [TZ 88,OP 89 14,oI 90 89,OT 91 (o8 [112,114,111,99,101,115,115,32]) 90,OT 92 91 (o8 [32,123,10]),OT 93 88 92,TM 93] (T8 [Tw 94 14,Oi 95 94,IQ 96 95,I3 97] 6 98 97 96 98 6 7 [Il 99 7 95 97,oV 100 7 99,o9 16 [oB,oB,oK,.nils,oB,oB,.nils],o6 7 16 100] (Og [oV 102 7 16,Oy 103 59 102,oz 101 103,Tx 104 101,Ty 105 101,oy 17 104,oy 18 105] [oz 106 18,OW 107 106] 107 [Ib 2 oK,O0 3 141] (.ops [TZ 108,oz 109 17,OT 110 108 109,TM 110])) 111 97 97 111) (.ops [TZ 112,OT 113 112 (o8 [125,10]),TM 113]))) 114 74 1 74 114) [TZ 115,Tq 115,I3 3])))))
def y18:XF:=⟨[0],z18,[(.t 2),(.t 3)]⟩
theorem x18:jy γ 35=some y18:=Qa0
def z54:XC:=(Og [TU 1,Ib 2 oK,Om 3] [OP 7 1,oI 8 7,Oy 9 58 8,TN 10 9,oz 11 10,Oq 12 11 1 1,Ow 13 11 12,TR 14 11 13,O7 15 11 .lss 14 1,Td 16 11 15,oz 17 16,Oq 18 17 1 1,Ow 19 17 18,TR 20 17 19,O7 21 17 .gtr 20 32,Lf 22 17 21] 22 (TH (Ib 2 oK) 3) (OV [OP 23 1,oI 24 23,OT 25 (o8 [101,110,117,109,32]) 24,OT 26 25 (o8 [32,123,32]),TM 26] (Oe [Tw 27 1,Oi 28 27,IQ 29 28,I3 30] 0 (To 31 30 29) 31 0 1 (Og [oz 32 30,Lk 33 28 30,oI 34 33,oy 5 32,oy 6 34] [T0 35,Oy 36 58 35,OW 37 36] 37 (TH (Ib 2 oK) 3) (.seq (OA [Ld 38,ow 39 (O8 .gtr 38)] 39 [TZ 40,OT 41 40 (o8 [44,32]),TM 41]) (.ops [TZ 42,T0 43,OT 44 42 43,TM 44]))) 45 30 1 30 45) [TZ 46,OT 47 46 (o8 [32,125,10]),Tq 47,Tb 3]))
def y54:XF:=⟨[0],z54,[(.t 2),(.t 3)]⟩
theorem x54:jy γ 56=some y54:=Qa0
def jf7:XC:=(Lb [oF 57 4 1,oI 58 57,I5 59 58,Ic 60 .gtr 59 1,oz 61 60,Oq 62 61 0 1,Ow 63 61 62,Li 64 61 58 [63],TT 65 61 64,Lf 66 61 65] 66 (TH (Ib 2 oK) 3) (OY (Oe [oF 67 4 1,Oi 68 67,IQ 69 68,I3 70] 0 (To 71 70 69) 71 0 1 (Og [Il 72 6 68 70,Ta 73 72,TA 6,TW 6 73] [Ta 74 6,Oy 75 11 74,OW 76 75] 76 (TH (Ib 2 oK) 3) (.ops [TZ 77,Ta 78 6,Oy 79 78 78,OT 80 (o8 [32,61,32]) 79,OT 81 77 80,TM 81])) 82 70 1 70 82) [TZ 83,OT 84 83 (o8 [59,10]),Tq 84,Tb 3]))
def z55:XC:=(ov [TU 1,Ib 2 oK,Om 3] (oY [OP 7 1,oI 8 7,OT 9 (o8 [118,97,114,32]) 8,OT 10 9 (o8 [32,58,32]),TM 10] (oL [Tw 11 1,oI 12 11,ow 13 (.strb .eql 12 (.c oK))] 13 (Lb [Lg 14 1,oI 15 14,Oy 16 76 15,TN 17 16,oz 18 17,Oq 19 18 3 1,Ow 20 18 19,Li 21 18 76 [20],TT 22 18 21,Lf 23 18 22] 23 (TH (Ib 2 oK) 3) (.dops [Tr 24 4,IY 25 2 1,Tt 26 25 25 2,(TS 27 77 26 0 [],some [OQ 27,OQ 28,Ia (Tm 29 1) 0,Ik (oI 30 29) 29 2 [(2,0)],OQ 31,OQ 32,OQ 33,Ia (Ib 4 Ir) 0]),IP (OT 28 27 (o8 [46,46])),IY 29 3 1,On 30 29 29 2 [(2,0)],(TS 31 77 30 0 [],OK),IP (OT 32 28 31),IP (OT 33 24 32),IP (TM 33)])) (Lb [Lg 34 1,oI 35 34,ol 36 (O8 .neq 35),oz 37 36,Oq 38 37 3 1,Ow 39 37 38,Ig 40 37 (O8 .neq 39),Td 41 37 40,oz 42 41,Oq 43 42 1 1,Ow 44 42 43,Ig 45 42 (.strb .neq 44 (o8 [98,111,111,108])),II 46 42 45,Oz 47 46 1 1,Ox 48 46 47,Tn 49 (46,true) 58 [48],Ih 50 46 (IB 49),Lm 51 42 46 50 oX,Lf 52 42 51] 52 (TH (Ib 2 oK) 3) (.ops [TZ 53,Tw 54 1,oI 55 54,OT 56 53 55,TM 56]))) jf7))
def y55:XF:=⟨[0],z55,[(.t 2),(.t 3)]⟩
theorem x55:jy γ 57=some y55:=Qa0
def z57:XC:=(Og [TU 1,Ib 2 oK,Om 3] [OP 7 1,Ta 8 7,Oy 9 11 8,TN 10 9,oz 11 10,Oq 12 11 6 1,Ow 13 11 12,TR 14 11 13,O7 15 11 .lss 14 1,Td 16 11 15,oz 17 16,Oq 18 17 6 1,Ow 19 17 18,TR 20 17 19,O7 21 17 .gtr 20 32,Lf 22 17 21] 22 (TH (Ib 2 oK) 3) (OV [OP 23 1,Ta 24 23,Oy 25 78 24,OT 26 (o8 [32,32,119,104,101,110,32]) 25,OT 27 26 (o8 [32,100,111,32]),TM 27] (Oe [oF 28 6 1,Oi 29 28,IQ 30 29,I3 31] 0 (To 32 31 30) 32 0 1 (Og [oz 33 31,Il 34 9 29 31,oV 35 9 34,o9 6 [oK,oB,oB,oK,.nils,oB,oB,oB,oB],oy 5 33,o6 9 6 35] [OP 36 6,oI 37 36,Oy 38 58 37,TN 39 38,oz 40 39,Oq 41 40 1 6,O1 42 40 6 41,Li 43 40 11 [42],TT 44 40 43,Lf 45 40 44] 45 (TH (Ib 2 oK) 3) (.seq (OA [Ld 46,ow 47 (O8 .gtr 46)] 47 [TZ 48,OT 49 48 (o8 [44,32]),TM 49]) (.dops [Tr 50 4,IY 51 0 6,Tt 52 51 51 9,IP (OT 53 52 (o8 [32,58,61,32])),IY 54 1 6,La 55 6 54 54 29,(TS 56 78 55 0 [(3,9)],OK),IP (OT 57 53 56),IP (OT 58 50 57),IP (TM 58)]))) 59 31 1 31 59) [TZ 60,OT 61 60 (o8 [59,10]),Tq 61,Tb 3]))
def y57:XF:=⟨[0],z57,[(.t 2),(.t 3)]⟩
theorem x57:jy γ 59=some y57:=Qa0
section
variable {P:Program} {e:En} {st:St} {K:AV->St->Prop}
def GY (P:Program)(t:TypeId)(v:AV)(st:St):ER:=(Zf P (O v) t).run E0 st
theorem jjo (x:A)(t:TypeId):wK P base (.i (.assert x t)) e st K=on1 e x λv=>jq (GY P t v st) K:=k_1 rfl (λ_=>rfl) K
end
theorem W8 {P:Program}(res:List RV)(m:Md)(K:Md->St->Prop)(L:Sl)(st:St):jhg P res m K (.go L st)=yJ P res L st λ_=>K m st:=nr rfl
theorem jsI (t:Tk)(st:St)(K:AV->St->Prop):jq (GY γ 45 (er t) st) K=K (.tup [.agg [.int .i64 151,.int .i64 (t.line:Int),.int .i64 (t.col:Int)],.bool true]) st:=by
 have:GY γ 45 (er t) st=.ok (.tup [.agg [.int .i64 151,.int .i64 (t.line:Int),.int .i64 (t.col:Int)],.bool true]) st:=Qa0
 rw[this];rfl
theorem jjI (st:St)(K:AV->St->Prop):jq (XO γ .eql 20 true .nilif .nilif st) K=K (.bool true) st:=by
 have:XO γ .eql 20 true .nilif .nilif st=.ok (.bool true) st:=Qa0
 rw[this];rfl
theorem jsd (t:Tk)(st:St)(K:AV->St->Prop):jq (XO γ .eql 20 true (er t) .nilif st) K=K (.bool false) st:=by
 have:XO γ .eql 20 true (er t) .nilif st=.ok (.bool false) st:=Qa0
 rw[this];rfl
theorem jb1 {P:Program}{f:FuncId}{xs:List AV}{m m1:Md}{st s1:St}(h:∀ K:Md->St->Prop,K m1 s1->DX P base f xs m st K)(K:Md->St->Prop):DX P base f xs m st K=K m1 s1:=by
 refine propext ⟨λ⟨m2,s2,⟨N2,D2,h2⟩,h3⟩=>?_,h K⟩;obtain⟨m',s',⟨N,D,h1⟩,rfl,rfl⟩:=h (λm' s'=>m'=m1/\s'=s1) ⟨rfl,rfl⟩;have e1:=h1 (max N N2) (Qap ..) (max D D2) (Qap ..);have e2:=h2 (max N N2) (Qaq ..) (max D D2) (Qaq ..);rw[e1] at e2;cases e2;exact h3
theorem jeA {fb:Nat}(st:St)(hfr:st.fr=[])(K:Md->St->Prop):DX γ base 65 [.ptr fb 0] .calm st K=K .calm st:=by
 refine jb1 (λK hK=>?_) K;refine Wa jqJ haa hfr ?_;simp only[G9,jr,ζ,η,θ,Yl,YX];rw[(by unfold W6;simp only[qq];rfl:W6=_)];repeat' first|apply jb<;>intro _|simp(disch:=try exact dzD) only[jjI,W8,r6,δ,ε]
 exact hK
theorem jhq {fb:Nat}(t:Tk){cs:List AV}(st:St)(hfr:st.fr=[])(C:Cl st fb cs)(hcs:cs.length=3)(K:Md->St->Prop) :
  DX γ base 65 [.ptr fb 0] (.pan (er t)) st K=K .done (wr (wr (nw st [.int .i64 0,.int .i64 0,.int .i64 0]) st.nx 0 [.int .i64 151,.int .i64 (t.line:Int),.int .i64 (t.col:Int)]) fb 0 [.int .i64 151,.int .i64 (t.line:Int),.int .i64 (t.col:Int)]):=by
 refine jb1 (λK hK=>?_) K;refine Wa jqJ haa hfr ?_;simp only[G9,jr,ζ,η,θ,Yl,YX];rw[(by unfold W6;simp only[qq];rfl:W6=_)];have hl:=C.lt;have l0:=C.len;have hne:¬ fb=st.nx:=om
 (have zz:=aI @l0 @hcs;repeat' first|apply jb<;>intro _|simp(disch:=try exact qW) only[jsd,jjo,jsI,W8,l0,hcs,r6,δ,ε])
 exact hK
theorem uE {fb:Nat}(st:St)(K:Md->St->Prop):DX γ base 65 [.ptr fb 0] .calm st.bare K=K .calm st.bare:=jeA st.bare rfl K
theorem Vs {fb:Nat}(t:Tk)(st:St)(h:qp st.h fb=3)(hn:fb<st.nx)(K:Md->St->Prop) :
  DX γ base 65 [.ptr fb 0] (.pan (er t)) st.bare K=K .done (wr (wr (nw st.bare [.int .i64 0,.int .i64 0,.int .i64 0]) st.nx 0 [.int .i64 151,.int .i64 (t.line:Int),.int .i64 (t.col:Int)]) fb 0 [.int .i64 151,.int .i64 (t.line:Int),.int .i64 (t.col:Int)]):=
 have C:Cl st fb (rats st.h fb 0 3):=Cl.of_rats hn h (Qn _ _ _ _) dc rfl
 jhq t st.bare rfl C.bar (Qn _ _ _ _) K
theorem jtl:Go.Ev.isAgg γ 45=some true:=Qa0
theorem jtk:Go.Ev.sizeOf γ 45=some 3:=Qa0
theorem Zo {b:Nat}{x y z:Int}{h:T AO}(ho:0+3<=qp h b)(hv:rats h b 0 3=[.int .i64 x,.int .i64 y,.int .i64 z]):(qb γ 45 (.ptr b 0) (.agg [.int .i64 x,.int .i64 y,.int .i64 z]) h=true)=True:=eq_true (Zq jtl jtk dc ho hv rfl)
theorem uL {b:Nat}{x y z w:Int}{n:Lt}{h:T AO}(ho:0+6<=qp h b)(hv:rats h b 0 6=[.int .i64 x,.int .i64 y,.str n,.nils,.int .i64 z,.int .i64 w]):(qb γ 29 (.ptr b 0) (.agg [.int .i64 x,.int .i64 y,.str n,.nils,.int .i64 z,.int .i64 w]) h=true)=True:=eq_true (Zq jbp jbo dc ho hv rfl)
section
variable {P:Program} {st:St} {K Kp:AV->St->Prop}
theorem Qv {f:FuncId}{vs:List AV}(h:st.fr=[(f,vs)])(res:List RV)(v:AV)(L:Sl):Uz P base res K Kp v L st=DX P base f vs (.pan v) st.bare λm' st'=>(match m' with
  |.calm=>yJ P res L st'.bare λvs=>K (zU vs) st'.bare
  |.pan v=>Kp v st'.bare
  |.done=>yJ P res L st'.bare λvs=>K (zU vs) st'.bare):=by
 have:Uz P base res K Kp v L st=yY P base res K Kp [(f,vs)] L st.bare (.pan v):=by show yY P base res K Kp st.fr L st.bare (.pan v)=_;rw[h]
 rw[this,jcl];rfl
theorem JT {f:FuncId}{vs:List AV}(h:st.fr=[(f,vs)])(res:List RV)(L:Sl):HW P base res K Kp (.rt L st)=DX P base f vs .calm st.bare λm' st'=>(match m' with
  |.calm=>yJ P res L st'.bare λvs=>K (zU vs) st'.bare
  |.pan v=>Kp v st'.bare
  |.done=>yJ P res L st'.bare λvs=>K (zU vs) st'.bare):=by
 have:HW P base res K Kp (.rt L st)=yY P base res K Kp [(f,vs)] L st.bare .calm:=by show yY P base res K Kp st.fr L st.bare .calm=_;rw[h]
 rw[this,jcl];rfl
theorem YU (h:st.fr=[])(res:List RV)(L:Sl):HW P base res K Kp (.rt L st)=yJ P res L st.bare λvs=>K (zU vs) st.bare:=by
 show yY P base res K Kp st.fr L st.bare .calm=_;rw[h];rfl
end
theorem jsb {s:St}{x:Ex}{q:Nat×Nat×Nat}{cs ds:List AV}(h:cs=eE x)(h2:ds=zW q):G0 (.tup [.agg (eE x),.agg (zW q)]) (.tup [.agg cs,.agg ds]) s:=by
 subst h h2;exact FzD.tup (.cons (.agg (.pc (ya x))) (.cons (.agg (.pc haa)) .nil))
theorem jdH {s:St}{q:Nat×Nat×Nat}{ds:List AV}(h2:ds=zW q):G0 (.tup [.agg (eE (.mk 0 0 [] [] 0 0)),.agg (zW q)]) (.tup [.agg [.int .i64 0,.int .i64 0,.str [],.nils,.int .i64 0,.int .i64 0],.agg ds]) s:=by
 subst h2;exact FzD.tup (.cons Y1 (.cons (.agg (.pc haa)) .nil))
def ex0:Ex:=.mk 0 0 [] [] 0 0
def yo (l:Lt):Ex×(Nat×Nat×Nat):=
 if(qu l).2.1≠0 then(ex0,(qu l).2) else match yC (qu l).1 0 with
  |.er t=>(ex0,(151,t.line,t.col))
  |.ok x j=>if(tk (qu l).1 j).kind=5 then(x,(0,0,0)) else(ex0,(151,(tk (qu l).1 j).line,(tk (qu l).1 j).col))
theorem ym {ts:List Tk}(W:Wds ts){i j:Nat}{x:Ex}(hi:i<ts.length)(h:yC ts i=.ok x j):i+1<=j/\j<ts.length/\x.ev (atW ts)/\zg 60 x=true:=by
 obtain⟨r,hg,hr⟩:=evR W hi;rw[Uj hr] at h;unfold Ui at h;cases r with
 |er t=>cases h
 |ok y k=>
  dsimp only at h;by_cases c:zg 60 y=true
  .rw[if_pos c] at h;cases h;exact⟨hg.1,hg.2.1,hg.2.2,c⟩
  .rw[if_neg c] at h;cases h
theorem js0 (hb:NB base)(hP:PI base)(l:Lt)(hl:l.length<=9223372036854775807)(hW:(qu l).2.1=0->Wds (qu l).1/\(qu l).1≠[]/\(qu l).2=(0,0,0)) :
  Tot base 54 [.str l] (.tup [.agg (eE (yo l).1),.agg (zW (yo l).2)]):=by
 refine hb.tot ?_ rfl rfl;refine Vo x15 (hb.pur 54 1 dc) ?_;simp only[y15,jr,ζ,η,θ,κ];rw[(by unfold z15;simp only[qq];rfl:z15=_)];have hC:=jn4 hb hP l hl;have f0:(zW (qu l).2)=[.int .i64 ((qu l).2.1:Int),.int .i64 ((qu l).2.2.1:Int),.int .i64 ((qu l).2.2.2:Int)]:=rfl;by_cases he:(qu l).2.1=0
 .obtain⟨W,hne,hz⟩:=hW he;have hi:0<(qu l).1.length:=Qbv.2 hne;have A:=kE hb W hi;unfold yo;rw[if_neg (by simp[he])];rw[hz] at hC;generalize (qu l).1=ts at *;have fz:zW (0,0,0)=[.int .i64 0,.int .i64 0,.int .i64 0]:=rfl;rw[fz] at hC;cases hr:yC ts 0 with
  |er t=>
   rw[hr] at A;obtain⟨i',d',A⟩:=A;have E:∀ st p,Cl st p [.lst ts.length (fl Tk.cells ts),.int .i64 0,.int .i64 0]->∀ K Kp,XB γ base 72 [.ptr p 0] st K Kp=_:=λst p C K Kp=>A.xb C rfl (λst=>hb.no 72 dc _ _) K Kp;unfold pC at *;repeat' first|apply jb<;>intro _|simp(disch:=try exact dzD) only[hC,E,w4,Qv (f:=65) (vs:=[.ptr 1 0]),JT (f:=65) (vs:=[.ptr 1 0]),YU,uE,Vs,r6,δ,ε]
   exact jdH rfl
  |ok x j=>
   rw[hr] at A;have A:PM _ _ _ _ _ _ _:=A;have hj:j<ts.length:=(ym W hi hr).2.1;have hN:=λst p=>@Zv base hb ts j 0 hj st p;have E:∀ st p,Cl st p [.lst ts.length (fl Tk.cells ts),.int .i64 0,.int .i64 0]->∀ K Kp,XB γ base 72 [.ptr p 0] st K Kp=_:=λst p C K Kp=>A.xb C rfl (λst=>hb.no 72 dc _ _) K Kp;dsimp only;by_cases k5:(tk ts j).kind=5
   .rw[if_pos k5];have k5':((tk ts j).kind:Int)=5:=om
    unfold pC at *
    (have zz:=@Xo;repeat' first|apply jb<;>intro _|simp(disch:=try exact qW) only[hC,E,hN,k5',w4,Qv (f:=65) (vs:=[.ptr 1 0]),JT (f:=65) (vs:=[.ptr 1 0]),YU,uE,Vs,Xk,uL,Zo,<-qA,Xo,r6,δ,ε])
    exact jsb rfl rfl
   .rw[if_neg k5];have k5':¬ ((tk ts j).kind:Int)=5:=om
    unfold pC at *;repeat' first|apply jb<;>intro _|simp(disch:=try exact dzD) only[hC,E,hN,k5',QI hb,w4,Qv (f:=65) (vs:=[.ptr 1 0]),JT (f:=65) (vs:=[.ptr 1 0]),YU,uE,Vs,Xk,uL,Zo,r6,δ,ε]
    exact jdH rfl
 .have he':¬ ((qu l).2.1:Int)=0:=om
  unfold yo;rw[if_pos he];rw[f0] at hC;generalize (qu l).1=ts at *;repeat' first|apply jb<;>intro _|simp(disch:=try exact dzD) only[hC,he',w4,Qv (f:=65) (vs:=[.ptr 1 0]),JT (f:=65) (vs:=[.ptr 1 0]),YU,uE,Vs,Xk,uL,Zo,r6,δ,ε]
  exact jdH rfl
inductive SR (α:Type) where
 |ok (x:α) (j:Nat)
 |er (t:Tk)
def Nbs (ts:List Tk):Prop:=∀ i,(tk ts i).num<=1000000
def AnS {α:Type}(base:Bs)(f:FuncId)(c xs:List AV)(ts:List Tk)(d:Nat)(enc:α->AV):SR α->Prop
 |.ok x j=>PM γ base f c xs (.ok (enc x)) (pC ts j d)
 |.er t=>∃ i' d',PM γ base f c xs (.pn (er t)) (pC ts i' d')
def SK {α:Type}(ts:List Tk)(d:Nat)(enc:α->AV)(r:SR α)(v:AV)(s:St):Prop:=match r with | .ok y j=>G1 3 (pC ts j d) (enc y) v s | .er _=>False
def SP {α:Type}(ts:List Tk)(r:SR α)(v:AV)(s:St):Prop:=match r with | .ok _ _=>False | .er t=>∃ i' d',G1 3 (pC ts i' d') (er t) v s
theorem jbu {α:Type}(ts:List Tk)(d:Nat)(enc:α->AV)(y:α)(j:Nat)(v:AV)(s:St):SK ts d enc (.ok y j) v s=G1 3 (pC ts j d) (enc y) v s:=nr rfl
theorem zS {α:Type}(ts:List Tk)(t:Tk)(v:AV)(s:St):SP (α:=α) ts (.er t) v s = ∃ i' d',G1 3 (pC ts i' d') (er t) v s:=nr rfl
theorem uG {α:Type}{f:FuncId}{F:XF}(hl:jy γ f=some F)(hnd:F.body.nd=true)(hm:base.pur f=3){xs:List AV}{ts:List Tk}{i d:Nat}{enc:α->AV}{r:SR α}
  (h:xC γ base F.body (jr F.ps (.ptr 0 0 :: xs)) (nw st0 (pC ts i d)) (XQ γ F.res (SK ts d enc r)) λv _ s=>SP ts r v s.bare):AnS base f (pC ts i d) xs ts d enc r:=by
 rw[<-Hy] at h;obtain⟨q,he,hq⟩:=Y2 (st:=ZX (pC ts i d)) (K:=SK ts d enc r) (Kp:=SP ts r) hl hnd h;cases r with
 |ok y j=>
  refine PM.of hm rfl ⟨q,he,?_⟩;cases q<;>first|exact hq|exact hq.elim
 |er t=>
  cases q with
  |no=>exact hq.elim
  |ok v s=>exact(hq:False).elim
  |pn v s=>
   obtain⟨i',d',hq⟩:=(hq:∃ i' d',G1 3 (pC ts i' d') (er t) v s);exact⟨i',d',PM.of hm rfl ⟨_,he,hq⟩⟩
def Zu (ts:List Tk)(i:Nat):SR Int:=
 if isM (tk ts i) [[45]]=true then(if(tk ts (i+1)).kind=2 then .ok (-((tk ts (i+1)).num:Int)) (i+2) else .er (tk ts (i+1)))
 else(if(tk ts i).kind=2 then .ok ((tk ts i).num:Int) (i+1) else .er (tk ts i))
theorem jc5 (hb:NB base){ts:List Tk}(W:Wds ts)(N:Nbs ts){i d:Nat}(hi:i<ts.length):AnS base 122 (pC ts i d) [] ts d (λn=>.int .i64 n) (Zu ts i):=by
 have wl:=W.len;have T:=Zl hb hi (d:=d) om [[45]] (cs:=[.str [45]]) (n:=1) rfl rfl dc;unfold Zu;by_cases c1:isM (tk ts i) [[45]]=true
 .rw[if_pos c1];have hi1:=W.isM hi c1;have hN:=λst p=>@Zv base hb ts (i+1) d hi1 st p;have hn:=N (i+1);by_cases k2:(tk ts (i+1)).kind=2
  .rw[if_pos k2];have k2':((tk ts (i+1)).kind:Int)=2:=om
   show PM _ _ _ _ _ _ _;unfold pC at *;refine qe jgi haa (hb.pur 122 3 dc) rfl ?_;simp only[jch,jr,ζ,η,θ,κ];rw[(by unfold W7;simp only[qq];rfl:W7=_)];repeat' first|apply jb<;>intro _|simp(disch:=try exact dzD) only[T,c1,hN,k2',r6,δ,ε]
   (refine G1.done cyD haa haa ?_;try exact vyD)
  .rw[if_neg k2];have k2':¬ ((tk ts (i+1)).kind:Int)=2:=om
   refine⟨i+1,d,?_⟩;unfold pC at *;refine qe jgi haa (hb.pur 122 3 dc) rfl ?_;simp only[jch,jr,ζ,η,θ,κ];rw[(by unfold W7;simp only[qq];rfl:W7=_)];repeat' first|apply jb<;>intro _|simp(disch:=try exact dzD) only[T,c1,hN,k2',QI hb,r6,δ,ε]
   (refine G1.done cyD haa haa ?_;try exact vyD)
 .rw[if_neg c1];have hN:=λst p=>@Zv base hb ts i d hi st p;have hn:=N i;by_cases k2:(tk ts i).kind=2
  .rw[if_pos k2];have k2':((tk ts i).kind:Int)=2:=om
   show PM _ _ _ _ _ _ _;unfold pC at *;refine qe jgi haa (hb.pur 122 3 dc) rfl ?_;simp only[jch,jr,ζ,η,θ,κ];rw[(by unfold W7;simp only[qq];rfl:W7=_)];repeat' first|apply jb<;>intro _|simp(disch:=try exact dzD) only[T,c1,hN,k2',r6,δ,ε]
   (refine G1.done cyD haa haa ?_;try exact vyD)
  .rw[if_neg k2];have k2':¬ ((tk ts i).kind:Int)=2:=om
   refine⟨i,d,?_⟩;unfold pC at *;refine qe jgi haa (hb.pur 122 3 dc) rfl ?_;simp only[jch,jr,ζ,η,θ,κ];rw[(by unfold W7;simp only[qq];rfl:W7=_)];repeat' first|apply jb<;>intro _|simp(disch:=try exact dzD) only[T,c1,hN,k2',QI hb,r6,δ,ε]
   (refine G1.done cyD haa haa ?_;try exact vyD)
structure EnumT where
 name:Lt
 vals:Lq
 line:Int
 col:Int
def enE (e:EnumT):List AV:=[.str e.name,.lst e.vals.length (e.vals.map .str),.int .i64 (e.line:Int),.int .i64 (e.col:Int)]
def XW (ts:List Tk):Nat->Nat->Lq->SR Lq
 |0,i,_=>.er (tk ts i)
 |n+1,i,vs=>if(tk ts i).kind=1 then
   (if 32<=vs.length then .er (tk ts i)
    else if isM (tk ts (i+1)) [[44]]=true then XW ts n (i+2) (vs ++ [(tk ts i).text])
    else if isM (tk ts (i+1)) [[125]]=true then .ok (vs ++ [(tk ts i).text]) (i+2)
    else .er (tk ts (i+1)))
  else .er (tk ts i)
def YR (ts:List Tk)(i:Nat):SR EnumT:=
 if(tk ts i).kind=1 then
  (if isM (tk ts (i+1)) [[123]]=true then(match XW ts ts.length (i+2) [] with
    |.ok vs j=>.ok ⟨(tk ts i).text,vs,(tk ts i).line,(tk ts i).col⟩ j
    |.er t=>.er t)
   else .er (tk ts (i+1)))
 else .er (tk ts i)
theorem vN (hb:NB base){n:Nat}(h:n<32)(t:Tk):Tot base 87 [.int .i64 (n:Int),.agg t.cells] (.tup []):=by
 have:=jiw hb n t;rw[if_neg om] at this;exact this
theorem vO (hb:NB base){n:Nat}(h:32<=n)(t:Tk):Ret base 87 [.int .i64 (n:Int),.agg t.cells] (.pn (er t)):=by
 have:=jiw hb n t;rw[if_pos h] at this;exact this
theorem jtd:Go.Ev.isAgg γ 106=some false:=Qa0
theorem jtc:Go.Ev.sizeOf γ 106=some 1:=Qa0
theorem Hm {b o:Nat}{v:AV}{h:T AO}(ho:o<qp h b)(hv:rat h b o=v)(hc:eqs v=true):(qb γ 106 (.ptr b o) v h=true)=True:=eq_true (Qz jtd jtc ho hv hc)
theorem Lv.eqs {lo hi n z:Nat}{s:St}{v:AV}{cs:List AV}(h:Lv lo hi s v n cs z):Go.Sy.eqs v=true:=by
 rcases h with ⟨rfl,_⟩|⟨b,rfl,_⟩<;>rfl
theorem Lv.cell {lo hi n z:Nat}{s:St}{v:AV}{cs:List AV}(h:Lv lo hi s v n cs z):v.cell=true:=by
 rcases h with ⟨rfl,_⟩|⟨b,rfl,_⟩<;>rfl
theorem Lv.cells {lo hi n z:Nat}{s:St}{v:AV}{cs:List AV}(h:Lv lo hi s v n cs z):v.cells=[v]:=by
 rcases h with ⟨rfl,_⟩|⟨b,rfl,_⟩<;>rfl
theorem Lv.plain {lo hi n z:Nat}{s:St}{v:AV}{cs:List AV}(h:Lv lo hi s v n cs z):v.plain=true:=by
 rcases h with ⟨rfl,_⟩|⟨b,rfl,_⟩<;>rfl
theorem Lv.len {lo hi n z:Nat}{s:St}{v:AV}{cs:List AV}(h:Lv lo hi s v n cs z)(st:St)(K:AV->St->Prop):jq (lenV v st) K=K (.int .i64 (n:Int)) st:=by
 rcases h with ⟨rfl,rfl,_⟩|⟨b,rfl,_⟩
 .exact jcy
 .exact jgm ..
theorem jC (z:Nat)(v:AV)(s:St):(apv z v s).cells=[apv z v s]:=by unfold apv;split<;>rfl
theorem jJ (z:Nat)(v:AV)(s:St):(apv z v s).plain=true:=by unfold apv;split<;>rfl
theorem jN (z:Nat)(v:AV)(s:St)(l:List AV):lall AV.cell (apv z v s :: l)=lall AV.cell l:=by unfold apv;split<;>rfl
theorem jsf (hb:NB base){ts:List Tk}(W:Wds ts){i d:Nat}(hi:i<ts.length):AnS base 88 (pC ts i d) [] ts d (λe=>.agg (enE e)) (YR ts i):=by
 have wl:=W.len;have N:=λst p=>@WP base hb ts i d hi om st p;unfold YR;by_cases k1:(tk ts i).kind=1
 .rw[if_pos k1];have hi1:i+1<ts.length:=W.next i hi om
  have M:=λst p=>@Xc base hb ts (i+1) d hi1 om [123] st p;by_cases c1:isM (tk ts (i+1)) [[123]]=true
  .rw[if_pos c1];have hi2:=W.isM hi1 c1;suffices h:∀ r:SR EnumT,(match XW ts ts.length (i+2) [] with
    |.ok vs j=>SR.ok ⟨(tk ts i).text,vs,(tk ts i).line,(tk ts i).col⟩ j
    |.er t=>.er t:SR EnumT)=r->AnS base 88 (pC ts i d) [] ts d (λe=>.agg (enE e)) r from h _ rfl
   intro r hr;refine uG x78 haa (hb.pur 88 3 dc) ?_;simp only[y78,jr,ζ,η,θ,κ];rw[(by unfold z78;simp only[qq];rfl:z78=_)];unfold pC at *;repeat' first|apply jb<;>intro _|simp(disch:=try exact dzD) only[N,k1,M,c1,r6,δ,ε]
   refine WD λu hu=>?_;have n0:u.nx=4:=by rw[hu];rfl
   have C0:Cl u 0 (pC ts (i+2) d):=by
    rw[hu];unfold pC
    (try exact cyD)
   have C1:Cl u 1 [.str [],.nils,.int .i64 0,.int .i64 0]:=by
    rw[hu]
    (try exact cyD)
   have C3:Cl u 3 [.str (tk ts i).text,.nils,.int .i64 ((tk ts i).line:Int),.int .i64 ((tk ts i).col:Int)]:=by
    rw[hu]
    (try exact cyD)
   clear hu N M;generalize (tk ts i).text=nm at *;generalize (tk ts i).line=ln at *;generalize (tk ts i).col=co at *;refine yA (λmm L s=>∃ (m i':Nat) (vs:Lq) (v:AV),mm=m/\ts.length<=i'+m/\i'<ts.length/\(match XW ts m i' vs with | .ok vs j=>SR.ok ⟨nm,vs,ln,co⟩ j | .er t=>.er t:SR EnumT)=r/\4<=s.nx/\Cl s 0 (pC ts i' d)/\Cl s 1 [.str [],.nils,.int .i64 0,.int .i64 0]/\Cl s 3 [.str nm,v,.int .i64 (ln:Int),.int .i64 (co:Int)]/\Lv 4 s.nx s v vs.length (vs.map .str) 1/\Has L 0 (.ptr 0 0)/\Has L 2 (.ptr 1 0)/\Has L 4 (.ptr 3 0)) ?_ ts.length ?_
   .rintro m L s ⟨_,i',vs,v,rfl,hm,hi',hl,n0,C0,C1,C3,V,i0,i2,i4⟩;clear hr;cases m with
    |zero=>omega
    |succ m=>
    unfold XW at hl;obtain⟨q,hq⟩:∃ q,q=s.nx:=⟨_,rfl⟩;rw[<-hq] at V;have hq':q<=s.nx:=QaM hq;have hN:=λst p=>@Zv base hb ts i' d hi' st p;have hM:=λst p=>@WP base hb ts i' d hi' om st p;have L0:=C0.lt;have L1:=C1.lt;have L3:=C3.lt;have ve:=V.eqs;have g3:rat s.h 3 1=v:=C3.cell 1 (QbI (QaW 2));have vl:=V.len;by_cases k1:(tk ts i').kind=1
    .rw[if_pos k1] at hl;have k1':((tk ts i').kind:Int)=1:=om
     have hi1:i'+1<ts.length:=W.next i' hi' om
     by_cases h32:32<=vs.length
     .rw[if_pos h32] at hl;subst hl;have R:=vO hb h32 (tk ts i');unfold pC at *
      (have zz:=a4 @g3 C0.r C1.r C3.r;repeat' first|apply jb<;>intro _|simp(disch:=try exact qW) only[ja i0,ja i2,ja i4,hN,k1',vl,R,Hm,ve,zS,C0.q,C1.q,C3.q,g3,C0.r,C1.r,C3.r,r6,δ,ε])
      refine⟨i',d,?_⟩;unfold pC
      (refine G1.done (by have zz:=a4 C0.q C1.q C3.q (aI C0.r (aI C1.r C3.r));exact qt) haa haa ?_;try exact vyD)
     .rw[if_neg h32] at hl;have R:=vN hb (show vs.length<32 by omega) (tk ts i');have T:=Zl hb hi1 (d:=d) om [[44]] (cs:=[.str [44]]) (n:=1) rfl rfl dc;have M:=λst p=>@Xc base hb ts (i'+1) d hi1 om [125] st p;have A:=λst bv xc xx K h hv=>@JK 4 q vs.length 1 st v (vs.map .str) K 16 bv xc xx h dc om om hv;have V2:∀ st m',Lv 4 q st v vs.length (vs.map .str) 1->4<=st.nx->m'=st.nx+1->Lv 4 m' (aps v st [.str (tk ts i').text]) (apv 1 v st) (vs ++ [(tk ts i').text]).length ((vs ++ [(tk ts i').text]).map .str) 1:=λst m' h h2 h3=>by
       rw[ν,QaU];exact h.put rfl h2 h3
      unfold pC at *
      (have zz:=a8 @g3 V.ln V.rts @jA @jG @jK @V (a4 @ve @jC @jJ (a4 @jN C0.r C1.r C3.r));repeat' first|apply jb<;>intro _|simp(disch:=try exact qW) only[ja i0,ja i2,ja i4,hN,hM,k1,k1',vl,R,Hm,ve,A,V.at,jC,C0.q,C1.q,C3.q,g3,V.ln,V.rts,jA,jG,jK,V,ve,jC,jJ,jN,C0.r,C1.r,C3.r,r6,δ,ε])
      rw[T _ 0 (s.nx+1+1) 1 true (by(have zz:=a8 C0.q C1.q C3.q @g3 V.ln V.rts C0.r (aI C1.r C3.r);try exact qt)) (by(have zz:=a8 C0.q C1.q C3.q @g3 V.ln V.rts C0.r (aI C1.r C3.r);try exact qt)) om]
      (have zz:=a8 @g3 V.ln V.rts @jC @jJ @jN C0.r (aI C1.r C3.r);repeat' first|apply jb<;>intro _|simp(disch:=try exact qW) only[ja i0,ja i2,ja i4,M,V.at,jC,jbu,zS,C0.q,C1.q,C3.q,g3,V.ln,V.rts,jC,jJ,jN,C0.r,C1.r,C3.r,r6,δ,ε])
      .rename_i c;rw[if_pos c] at hl;have hi2:=W.isM hi1 c;refine⟨m,om,m,i'+1+1,vs ++ [(tk ts i').text],?v,rfl,om,hi2,hl,om,?c0,?c1,?c3,?lv,?has⟩;case lv=>
        refine Lv.up (hi:=s.nx+2) ?_ om;simp(disch:=first|omega|(simp only[jg,jn,jp,jt];omega)) only[jA,jG,jK];refine V2 _ _ ?_ ?_ ?_;all_goals first|(simp only[jg,jn];done)|(simp only[jg,jn];omega)|(simp(disch:=first|omega|(simp only[jg,jn];omega)) only[jA,jG];exact V)
       case c0=>(have zz:=a8 C0.q C1.q C3.q @g3 V.ln V.rts @jC (a4 @jJ @jN C0.r (aI C1.r C3.r));try exact qt)
       case c1=>(have zz:=a8 C0.q C1.q C3.q @g3 V.ln V.rts @jC (a4 @jJ @jN C0.r (aI C1.r C3.r));try exact qt)
       case c3=>(have zz:=a8 C0.q C1.q C3.q @g3 V.ln V.rts @jC (a4 @jJ @jN C0.r (aI C1.r C3.r));try exact qt)
       case has=>simp(disch:=decide) only[h12,i0,i2,i4]
      .rename_i c c2;rw[if_neg c,if_pos c2] at hl;have hl:SR.ok (⟨nm,vs ++ [(tk ts i').text],ln,co⟩:EnumT) (i'+2)=r:=hl;subst hl;show G1 3 (pC ts (i'+2) d) (.agg (enE ⟨nm,vs ++ [(tk ts i').text],ln,co⟩)) _ _;refine G1.done ?_ haa haa (FzD.agg (.cons (.pc rfl) (.cons (Lv.fz (lo:=4) (hi:=s.nx+2) (z:=1) ?_ dc (WI _)) (.cons (.pc rfl) (.cons (.pc rfl) .nil)))))
       .unfold pC
        (have zz:=a8 C0.q C1.q C3.q @g3 V.ln V.rts @jC (a4 @jJ @jN C0.r (aI C1.r C3.r));try exact qt)
       .simp(disch:=first|omega|(simp only[jg,jn,jp,jt];omega)) only[jH,jA,jG,jK];refine V2 _ _ ?_ ?_ ?_;all_goals first|(simp only[jg,jn];done)|(simp only[jg,jn];omega)|(simp(disch:=first|omega|(simp only[jg,jn];omega)) only[jA,jG];exact V)
      .rename_i c c2;rw[if_neg c,if_neg c2] at hl;have hl:SR.er (tk ts (i'+1))=r:=hl;subst hl;refine⟨i'+1,d,?_⟩;unfold pC
       (refine G1.done (by have zz:=a8 C0.q C1.q C3.q @g3 V.ln V.rts @jC (a4 @jJ @jN C0.r (aI C1.r C3.r));exact qt) haa haa ?_;try exact vyD)
    .rw[if_neg k1] at hl;have k1':¬ ((tk ts i').kind:Int)=1:=om
     subst hl;unfold pC at *
     (have zz:=a4 @g3 C0.r C1.r C3.r;repeat' first|apply jb<;>intro _|simp(disch:=try exact qW) only[ja i0,ja i2,ja i4,hN,hM,k1,k1',Hm,ve,zS,C0.q,C1.q,C3.q,g3,C0.r,C1.r,C3.r,r6,δ,ε])
     refine⟨i',d,?_⟩;unfold pC
     (refine G1.done (by have zz:=a4 C0.q C1.q C3.q (aI C0.r (aI C1.r C3.r));exact qt) haa haa ?_;try exact vyD)
   .refine⟨ts.length,i+2,[],.nils,rfl,om,hi2,hr,om,C0,C1,C3,Lv.nil,?_⟩;simp(disch:=decide) only[h12]
  .rw[if_neg c1];refine⟨i+1,d,?_⟩;unfold pC at *;refine qe x78 haa (hb.pur 88 3 dc) rfl ?_;simp only[y78,jr,ζ,η,θ,κ];rw[(by unfold z78;simp only[qq];rfl:z78=_)];repeat' first|apply jb<;>intro _|simp(disch:=try exact dzD) only[N,k1,M,c1,r6,δ,ε]
   (refine G1.done cyD haa haa ?_;try exact vyD)
 .rw[if_neg k1];refine⟨i,d,?_⟩;unfold pC at *;refine qe x78 haa (hb.pur 88 3 dc) rfl ?_;simp only[y78,jr,ζ,η,θ,κ];rw[(by unfold z78;simp only[qq];rfl:z78=_)];repeat' first|apply jb<;>intro _|simp(disch:=try exact dzD) only[N,k1,r6,δ,ε]
  (refine G1.done cyD haa haa ?_;try exact vyD)
structure DeclT where
 name:Lt
 ty:Lt
 lo:Int
 hi:Int
 begins:List Ex
 line:Int
 col:Int
def qy (d:DeclT):List AV:=[.str d.name,.str d.ty,.int .i64 d.lo,.int .i64 d.hi,.lst d.begins.length (fl eE d.begins),.int .i64 (d.line:Int),.int .i64 (d.col:Int)]
def Vf (ts:List Tk)(i:Nat):SR (Lt×Int×Int):=
 if isM (tk ts i) [[98,111,111,108]]=true then .ok ([98,111,111,108],0,0) (i+1)
 else if(tk ts i).kind=1 then .ok ((tk ts i).text,0,0) (i+1)
 else match Zu ts i with
  |.er t=>.er t
  |.ok lo j=>if isM (tk ts j) [[46,46]]=true then(match Zu ts (j+1) with
   |.er t=>.er t
   |.ok hi k=>.ok ([],lo,hi) k) else .er (tk ts j)
def wX (ts:List Tk)(i:Nat):SR (List Ex):=
 if isM (tk ts i) [[61]]=true then(match yC ts (i+1) with
  |.er t=>.er t
  |.ok x j=>if isM (tk ts j) [[59]]=true then .ok [x] (j+1) else .er (tk ts j))
 else if isM (tk ts i) [[59]]=true then .ok [] (i+1) else .er (tk ts i)
def YS (ts:List Tk)(i:Nat):SR DeclT:=
 if(tk ts i).kind=1 then
  (if isM (tk ts (i+1)) [[58]]=true then(match Vf ts (i+2) with
    |.er t=>.er t
    |.ok y j=>(match wX ts j with
     |.er t=>.er t
     |.ok bs k=>.ok ⟨(tk ts i).text,y.1,y.2.1,y.2.2,bs,(tk ts i).line,(tk ts i).col⟩ k))
   else .er (tk ts (i+1)))
 else .er (tk ts i)
def zD:List AV:=[.str [],.str [],.int .i64 0,.int .i64 0,.nils,.int .i64 0,.int .i64 0]
theorem jtD {m d b cap:Nat}{s:St}{ks:List Ex}{ex:Bool}{cs:List AV}(C:Cl s b cs)(hc:cs=fl eE ks)(hm:m<=b):FzD m (d+3) s (.slice b 0 ks.length cap 6 ex) (.lst ks.length (fl eE ks)):=by
 subst hc;have hl:=zH zR ks;refine FzD.slice C.rw_ (QaM hl.symm) hm ?_;rw[<-hl,Qab];exact .pc (za ya ks)
theorem jhl (hb:NB base){ts:List Tk}(W:Wds ts){j:Nat}(hj:j<ts.length){nm ty:Lt}{lo hi:Int}{ln co:Nat}{r:SR DeclT}
  (hr:(match wX ts j with | .er t=>SR.er t | .ok bs k=>.ok ⟨nm,ty,lo,hi,bs,ln,co⟩ k)=r) {L:Sl} {s:St} (n0:4<=s.nx) (C0:Cl s 0 (pC ts j 0)) (C1:Cl s 1 zD)
  (C3:Cl s 3 [.str nm,.str ty,.int .i64 lo,.int .i64 hi,.nils,.int .i64 (ln:Int),.int .i64 (co:Int)]) (i0:Has L 0 (.ptr 0 0)) (i2:Has L 2 (.ptr 1 0)) (i4:Has L 4 (.ptr 3 0)) :
  xC γ base jf2 L s (XQ γ y79.res (SK ts 0 (λd=>.agg (qy d)) r)) λv _ s=>SP ts r v s.bare:=by
 have wl:=W.len;have L0:=C0.lt;have L1:=C1.lt;have L3:=C3.lt;have T:=Zl hb hj (d:=0) om [[61]] (cs:=[.str [61]]) (n:=1) rfl rfl dc;unfold wX at hr;unfold zD pC at *;rw[(by unfold jf2;simp only[qq];rfl:jf2=_)];simp only[y79];by_cases c1:isM (tk ts j) [[61]]=true
 .rw[if_pos c1] at hr;have hj1:=W.isM hj c1;have A:=kE hb W hj1;cases hw:yC ts (j+1) with
  |er t=>
   rw[hw] at hr A;have hr:SR.er t=r:=hr;subst hr;obtain⟨i',d',A⟩:=A;have E:∀ st p,Cl st p (pC ts (j+1) 0)->∀ K Kp,XB γ base 72 [.ptr p 0] st K Kp=_:=λst p C K Kp=>A.xb C rfl (λst=>hb.no 72 dc _ _) K Kp;unfold pC at *
   (have zz:=aI C0.r (aI C1.r C3.r);repeat' first|apply jb<;>intro _|simp(disch:=try exact qW) only[ja i0,ja i2,ja i4,T,c1,E,zS,C0.q,C1.q,C3.q,C0.r,C1.r,C3.r,r6,δ,ε])
   refine⟨i',d',?_⟩;unfold pC
   (refine G1.done (by have zz:=a4 C0.q C1.q C3.q (aI C0.r (aI C1.r C3.r));exact qt) haa haa ?_;try exact vyD)
  |ok x q=>
   rw[hw] at hr A;have A:PM _ _ _ _ _ _ _:=A;have E:∀ st p,Cl st p (pC ts (j+1) 0)->∀ K Kp,XB γ base 72 [.ptr p 0] st K Kp=_:=λst p C K Kp=>A.xb C rfl (λst=>hb.no 72 dc _ _) K Kp;have hq:q<ts.length:=(ym W hj1 hw).2.1;have M:=λst p=>@Xc base hb ts q 0 hq om [59] st p;unfold pC at *
   (have zz:=aI C0.r (aI C1.r C3.r);repeat' first|apply jb<;>intro _|simp(disch:=try exact qW) only[ja i0,ja i2,ja i4,T,c1,E,M,zS,jbu,C0.q,C1.q,C3.q,C0.r,C1.r,C3.r,r6,δ,ε])
   .rename_i c2;dsimp only at hr;rw[if_pos c2] at hr;have hr:SR.ok (⟨nm,ty,lo,hi,[x],ln,co⟩:DeclT) (q+1)=r:=hr;subst hr;show G1 3 (pC ts (q+1) 0) (.agg (qy ⟨nm,ty,lo,hi,[x],ln,co⟩)) _ _;refine G1.done ?_ haa haa (FzD.agg (.cons (.pc rfl) (.cons (.pc rfl) (.cons (.pc rfl) (.cons (.pc rfl) (.cons (jtD (ks:=[x]) (cs:=eE x) ?_ (by rw[Qf]) om) (.pc rfl)))))))
    .unfold pC
     (have zz:=a4 C0.q C1.q C3.q (aI C0.r (aI C1.r C3.r));try exact qt)
    ·(have zz:=a4 C0.q C1.q C3.q (aI C0.r (aI C1.r C3.r));try exact qt)
   .rename_i c2;dsimp only at hr;rw[if_neg c2] at hr;have hr:SR.er (tk ts q)=r:=hr;subst hr;refine⟨q,0,?_⟩;unfold pC
    (refine G1.done (by have zz:=a4 C0.q C1.q C3.q (aI C0.r (aI C1.r C3.r));exact qt) haa haa ?_;try exact vyD)
 .rw[if_neg c1] at hr;have M:=λst p=>@Xc base hb ts j 0 hj om [59] st p;unfold pC at *
  (have zz:=aI C0.r (aI C1.r C3.r);repeat' first|apply jb<;>intro _|simp(disch:=try exact qW) only[ja i0,ja i2,ja i4,T,c1,M,zS,jbu,C0.q,C1.q,C3.q,C0.r,C1.r,C3.r,r6,δ,ε])
  .rename_i c2;rw[if_pos c2] at hr;have hr:SR.ok (⟨nm,ty,lo,hi,[],ln,co⟩:DeclT) (j+1)=r:=hr;subst hr;show G1 3 (pC ts (j+1) 0) (.agg (qy ⟨nm,ty,lo,hi,[],ln,co⟩)) _ _;refine G1.done ?_ haa haa (FzD.agg (.cons (.pc rfl) (.cons (.pc rfl) (.cons (.pc rfl) (.cons (.pc rfl) (.cons .nils (.pc rfl)))))));unfold pC
   (have zz:=a4 C0.q C1.q C3.q (aI C0.r (aI C1.r C3.r));try exact qt)
  .rename_i c2;rw[if_neg c2] at hr;have hr:SR.er (tk ts j)=r:=hr;subst hr;refine⟨j,0,?_⟩;unfold pC
   (refine G1.done (by have zz:=a4 C0.q C1.q C3.q (aI C0.r (aI C1.r C3.r));exact qt) haa haa ?_;try exact vyD)
end Go.Sy
end
