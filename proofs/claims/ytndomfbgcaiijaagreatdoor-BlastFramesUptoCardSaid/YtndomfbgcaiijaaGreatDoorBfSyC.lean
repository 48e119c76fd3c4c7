import Derived.Test.YtndomfbgcaiijaaGreatDoorBfSyB
import Derived.Test.YtndomfbgcaiijaaGreatDoorProg
import Derived.KernelRfl
set_option linter.unusedVariables false
set_option linter.unusedSimpArgs false
theorem Qa0 {p:Prop}(h:p:=by kernel_rfl):p:=h
set_option maxHeartbeats 8000000
open Nat renaming reduceAdd -> γ, reduceSub -> ε, le_refl -> η, le_trans -> χ, zero_le -> Qae, zero_add -> Qaj, le_max_left -> Qao, le_max_right -> Qap, lt_or_ge -> Qaq, lt_of_lt_of_le -> Qat, mul_one -> Qaz, mul_le_mul_right -> QaA, ne_of_lt -> QaD, sub_zero -> QaF, not_lt_zero -> QaI, add_mul -> QaJ, succ_pos -> QaS, zero_mul -> QaV, lt_succ_self -> QaW, succ_mul -> QaX, le_of_eq -> QaY, le_succ -> Qbd, add_assoc -> Qbj, le_of_lt -> Qbo, add_zero -> Qbq, pow_le_pow_right -> Qbu, mod_eq_of_lt -> Qby, add_comm -> QbB, succ_lt_succ -> QbF, add_sub_cancel -> QbI, add_sub_cancel_left -> Qcs, lt_succ_of_lt -> Qct, beq -> QcA, succ -> QcB, ble -> QcC, add -> QcD, mul -> QcE, sub -> QcF
open Go.Proofs.Tryz renaming prog -> δ
open List renaming map_cons -> ζ, map_nil -> θ, getD_cons_zero -> κ, getD_cons_succ -> μ, length_cons -> τ, length_append -> υ, length_nil -> φ, range -> ω, getElem_mem -> Qaa, getD_eq_getElem?_getD -> Qab, length_map -> Qac, getElem?_eq_getElem -> Qad, getD -> Qaf, all_eq_true -> Qah, cons_append -> Qai, take_length -> Qak, nil_append -> Qam, length_take -> Qas, length_drop -> Qav, map_append -> Qay, all_cons -> QaC, take_zero -> QaG, all_append -> QaN, map_congr_left -> QaR, mem_cons -> QaT, append_nil -> QaU, take_of_length_le -> Qbb, map_map -> Qbc, getElem?_map -> Qbf, ext_getElem -> Qbg, eq_nil_of_length_eq_zero -> Qbi, drop_zero -> Qbl, range_succ -> Qbs, getElem?_append_left -> Qbt, getElem_cons_zero -> Qbv, drop_drop -> Qbw, take_append_drop -> QbD, take_succ_eq_append_getElem -> QbG, getElem?_take -> QbH, getElem?_append_right -> QbK, getElem_cons_succ -> QbN, length_pos_iff -> QbO, getElem?_drop -> QbR, take_add_one -> QbX, getElem_map -> QbY, foldl_append -> Qca, mem_cons_of_mem -> Qcc, take_succ_cons -> Qcr
open Int renaming zero_add -> ν, natCast_zero -> ξ, eq_ofNat_of_zero_le -> QbC, toNat_natCast -> Qck
open Bool renaming and_eq_true -> ψ, eq_iff_iff -> Qaw, or_eq_true -> QaE, not_eq_true' -> QaO, false_eq_true -> QaP, true_eq_false -> QbE
noncomputable section
namespace Go.Sy
open Go.Ev Go.RowKit
variable {s:St}{cs vs:List AV}{b o c i:Nat}{p a:Prop}
section
variable {P:Program} {base:Bs} {st:St} {K:AV->St->Prop} {e:En}
theorem jrs {b o k:Nat}(hpos:0<k)(h:o+k<=jV st.h b):jk (QV k (.ptr b o) st) K=K (.agg ((ω k).map λi=>rat st.h b (o+i))) st:=by
 obtain⟨n,zl,z,cs,hg⟩:=Xi (h:=st.h) (b:=b) om;rw[yV hg] at h;have e1:QcC (QcD o k) n=true:=qo h;simp only[QV,ya,hg,yg,e1,cond_true,jk,J8 hg,qm]
theorem jub {l:Lc}{n:Nat}(h:n<=l.length)(k:IntKind):jk (Jz (.str l) (some (.int k (n:Int))) none st) K=K (.str (l.drop n)) st:=by
 have e:qv (.int k (n:Int))=λF=>F n:=by funext F;show(force n F)=F n;rw[jF]
 have e1:QcC n l.length=true:=qo h;have e2:QcC l.length l.length=true:=qo (η _);simp only[Jz,zV,optA,e,jO,jF,e1,e2,cond_true,jk,qX,yX];rw[show QcF l.length n=(l.drop n).length by rw[Qav];rfl,Qak]
theorem jua {l:Lc}{n:Nat}(h:n<=l.length)(k:IntKind):jk (Jz (.str l) none (some (.int k (n:Int))) st) K=K (.str (l.take n)) st:=by
 have e:qv (.int k (n:Int))=λF=>F n:=by funext F;show(force n F)=F n;rw[jF]
 have e1:QcC n l.length=true:=qo h;have e2:QcC 0 n=true:=qo (Qae _);simp only[Jz,zV,optA,e,jO,jF,e1,e2,cond_true,jk,qX,yX];rfl
theorem jt9 {l:Lc}{a n:Nat}(h:a<=n)(h2:n<=l.length)(k k':IntKind):jk (Jz (.str l) (some (.int k (a:Int))) (some (.int k' (n:Int))) st) K=K (.str ((l.drop a).take (n - a))) st:=by
 have e:∀ (k:IntKind) (n:Nat),qv (.int k (n:Int))=λF=>F n:=λk n=>by funext F;show(force n F)=F n;rw[jF]
 have e1:QcC n l.length=true:=qo h2;have e2:QcC a n=true:=qo h;simp only[Jz,zV,optA,e,jO,jF,e1,e2,cond_true,jk,qX,yX];rfl
end
def nw (s:St)(cs:List AV):St:=⟨s.nx+1,(j2 (jK s.nx)).run (.row cs.length cs.length cs .e) s.h,s.dirty,s.fr⟩
def jgr (x:Option AO)(o:Nat)(vs:List AV):AO:=match x with|some (.row n zl z cs)=>.row n zl z (qk vs cs o)|_=>.row 0 1 [] (qk vs .e o)
def wr (s:St)(b o:Nat)(vs:List AV):St:=⟨s.nx,(j2 (jK b)).run (jgr (jv s.h b) o vs) s.h,min s.dirty b,s.fr⟩
def apO (x:Option AO)(vs:List AV):AO:=match x with|some (.row n zl z cs)=>.row (n+vs.length) zl z (qk vs cs n)|_=>.row vs.length 1 [] (qk vs .e 0)
def ap (s:St)(b:Nat)(vs:List AV):St:=⟨s.nx+1,(j2 (jK s.nx)).run (apO (jv s.h b) vs) ((j2 (jK b)).run .dead s.h),min s.dirty b,s.fr⟩
theorem jf (s:St)(cs:List AV):(nw s cs).nx=s.nx+1:=nr rfl
theorem ji (s:St)(b o:Nat)(vs:List AV):(wr s b o vs).nx=s.nx:=nr rfl
theorem jl (s:St):s.bare.nx=s.nx:=nr rfl
theorem Ww (s:St):s.bare.h=s.h:=nr rfl
theorem ZT (s:St)(cs:List AV):(nw s cs).fr=s.fr:=nr rfl
theorem uL (s:St)(b o:Nat)(vs:List AV):(wr s b o vs).fr=s.fr:=nr rfl
theorem je9 (s:St):s.bare.fr=[]:=nr rfl
theorem qp (h:b≠s.nx):jv (nw s cs).h b=jv s.h b:=by unfold nw;rw[jW,if_neg h]
theorem qW (h:c≠b):jv (wr s b o vs).h c=jv s.h c:=by unfold wr;rw[jW,if_neg h]
theorem HC (h:c≠s.nx)(h2:c≠b):jv (ap s b vs).h c=jv s.h c:=by unfold ap;rw[jW,if_neg h,jW,if_neg h2]
theorem jiW (s:St)(cs:List AV):jV (nw s cs).h s.nx=cs.length:=by unfold nw;rw[jcB,if_pos rfl]
theorem XE (h:b≠s.nx):jV (nw s cs).h b=jV s.h b:=yo (qp h)
theorem jhr (h:i<cs.length):rat (nw s cs).h s.nx i=cs.getD i .bad:=by unfold nw;rw[jeG,if_pos rfl,yP,XM,Qby h];rfl
theorem uk (h:b≠s.nx):rat (nw s cs).h b i=rat s.h b i:=yx (qp h) i
theorem vu (h:b=s.nx):jV (nw s cs).h b=cs.length:=by rw[h,jiW]
theorem GO (h:b=s.nx)(hi:i<cs.length):rat (nw s cs).h b i=cs.getD i .bad:=by rw[h,jhr hi]
theorem Xg (s:St)(b o:Nat)(vs:List AV)(c:Nat):jV (wr s b o vs).h c=jV s.h c:=by
 by_cases h:c=b
 .subst h;unfold wr jgr jV;rw[jW,if_pos rfl];cases jv s.h c with
  |none=>rfl
  |some x=>cases x<;>rfl
 .exact yo (qW h)
theorem UL (s:St)(b o:Nat)(vs:List AV)(i:Nat):rat (wr s b o vs).h b i=if o<=i/\i<o+vs.length then vs.getD (i - o) .bad else rat s.h b i:=by
 unfold wr rat;rw[jW,if_pos rfl];unfold jgr;cases jv s.h b with
 |none=>simp only[yU];congr 1;rw[yP,XM];rfl
 |some x=>cases x<;>simp only[yU]<;>(congr 1;rw[yP,XM];rfl)
theorem kU (h1:o<=i)(h2:i<o+vs.length):rat (wr s b o vs).h b i=vs.getD (i - o) .bad:=by rw[UL,if_pos ⟨h1,h2⟩]
theorem GL (h:i<o):rat (wr s b o vs).h b i=rat s.h b i:=by rw[UL,if_neg om]
theorem GN (h:o+vs.length<=i):rat (wr s b o vs).h b i=rat s.h b i:=by rw[UL,if_neg om]
theorem wb (h:c≠b):rat (wr s b o vs).h c i=rat s.h c i:=yx (qW h) i
theorem jmm (h:vf s.h c):vf (wr s b o vs).h c:=by
 by_cases hc:c=b
 .subst hc;unfold vf wr;rw[jW,if_pos rfl];obtain⟨n,zl,z,cs,e⟩:=h;rw[e];exact⟨_,_,_,_,rfl⟩
 .exact Jo (qW hc) h
structure Cl (s:St)(b:Nat)(cs:List AV):Prop where
 lt:b<s.nx
 row:vf s.h b
 len:jV s.h b=cs.length
 cell:∀ i,i<cs.length->rat s.h b i=cs.getD i .bad
theorem Cl.keep {s':St}(h:Cl s b cs)(hn:s.nx<=s'.nx)(k:jv s'.h b=jv s.h b):Cl s' b cs:=
 ⟨Qat h.lt hn,Jo k h.row,(yo k).trans h.len,λi hi=>(yx k i).trans (h.cell i hi)⟩
theorem Cl.new (s:St)(cs:List AV):Cl (nw s cs) s.nx cs:=
 ⟨QaW _,⟨_,_,_,_,by unfold nw;rw[jW,if_pos rfl]⟩,jiW s cs,λi hi=>jhr hi⟩
theorem Cl.nw (h:Cl s b cs)(ds:List AV):Cl (nw s ds) b cs:=h.keep (Qbd _) (qp (QaD h.lt))
theorem Cl.wrO (h:Cl s b cs)(hc:b≠c)(o:Nat)(vs:List AV):Cl (wr s c o vs) b cs:=h.keep (η _) (qW hc)
def upd:List AV->Nat->List AV->List AV
 |[],_,_=>[]
 |c :: cs,0,[]=>c :: cs
 |c :: cs,0,v :: vs=>v :: upd cs 0 vs
 |c :: cs,o+1,vs=>c :: upd cs o vs
theorem vi:∀ (cs:List AV) (o:Nat) (vs:List AV),(upd cs o vs).length=cs.length
 |[],_,_=>rfl
 |c :: cs,0,[]=>rfl
 |c :: cs,0,v :: vs=>by show(upd cs 0 vs).length+1=_;rw[vi cs 0 vs];rfl
 |c :: cs,o+1,vs=>by show(upd cs o vs).length+1=_;rw[vi cs o vs];rfl
theorem UW:∀ (cs:List AV) (o:Nat) (vs:List AV) (i:Nat),i<cs.length->(upd cs o vs).getD i .bad=if o<=i/\i<o+vs.length then vs.getD (i - o) .bad else cs.getD i .bad
 |[],_,_,_,h=>by simp at h
 |c :: cs,0,[],i,h=>by rw[if_neg hac];rfl
 |c :: cs,0,v :: vs,0,h=>by rw[if_pos hac];rfl
 |c :: cs,0,v :: vs,i+1,h=>by
  show(upd cs 0 vs).getD i .bad=_;rw[UW cs 0 vs i (by simpa using h)];by_cases hi:i<vs.length
  .rw[if_pos om,if_pos hae];rfl
  .rw[if_neg om,if_neg hae];rfl
 |c :: cs,o+1,vs,0,h=>by rw[if_neg om];rfl
 |c :: cs,o+1,vs,i+1,h=>by
  show(upd cs o vs).getD i .bad=_;rw[UW cs o vs i (by simpa using h)];by_cases hi:o<=i/\i<o+vs.length
  .rw[if_pos hi,if_pos om,Nat.add_sub_add_right]
  .rw[if_neg hi,if_neg om];rfl
theorem Cl.wr (h:Cl s b cs)(o:Nat)(vs:List AV):Cl (wr s b o vs) b (upd cs o vs):=
 ⟨h.lt,jmm h.row,by rw[Xg,h.len,vi],λi hi=>by
  rw[vi] at hi;rw[UL,UW _ _ _ _ hi,h.cell i hi]⟩
theorem Cl.ap (h:Cl s b cs)(vs:List AV):Cl (ap s b vs) s.nx (cs ++ vs):=by
 obtain⟨n,zl,z,ks,e⟩:=h.row;have hl:=h.len;rw[yV e] at hl;have eo:jv (Go.Sy.ap s b vs).h s.nx=some (.row (n+vs.length) zl z (qk vs ks n)):=by unfold Go.Sy.ap;rw[jW,if_pos rfl,e];rfl
 refine⟨QaW _,⟨_,_,_,_,eo⟩,by rw[yV eo,υ,hl],λi hi=>?_⟩;rw[J8 eo,yU];rw[υ] at hi;by_cases hc:n<=i/\i<n+vs.length
 .rw[if_pos hc,Qab,Qab,QbK om,hl]
 .have hi':i<cs.length:=om
  rw[if_neg hc,<-J8 e,h.cell i hi',Qab,Qab,Qbt hi']
theorem YI (cs:List AV):(AV.agg cs).cells=cs:=nr rfl
theorem uU (k:IntKind)(n:Int):(AV.int k n).cells=[.int k n]:=nr rfl
theorem uQ (l:Lc):(AV.str l).cells=[.str l]:=nr rfl
theorem wZ (b:Bool):(AV.bool b).cells=[.bool b]:=nr rfl
theorem ZW (b o n c z:Nat)(x:Bool):(AV.slice b o n c z x).cells=[.slice b o n c z x]:=nr rfl
theorem wY:AV.nils.cells=[.nils]:=nr rfl
theorem uS (b o:Nat):(AV.ptr b o).cells=[.ptr b o]:=nr rfl
theorem jc8:lall AV.cell []=true:=nr rfl
theorem jda (k:IntKind)(n:Int)(l:List AV):lall AV.cell (.int k n :: l)=lall AV.cell l:=nr rfl
theorem jc6 (x:Lc)(l:List AV):lall AV.cell (.str x :: l)=lall AV.cell l:=nr rfl
theorem jaB (x:Bool)(l:List AV):lall AV.cell (.bool x :: l)=lall AV.cell l:=nr rfl
theorem hZ (b o n c z:Nat)(x:Bool)(l:List AV):lall AV.cell (.slice b o n c z x :: l)=lall AV.cell l:=nr rfl
theorem jaA (l:List AV):lall AV.cell (.nils :: l)=lall AV.cell l:=nr rfl
theorem jc7 (b o:Nat)(l:List AV):lall AV.cell (.ptr b o :: l)=lall AV.cell l:=nr rfl
theorem jmg (a b:List AV)(h:lall AV.cell a=true):lall AV.cell (a ++ b)=lall AV.cell b:=by
 induction a with
 |nil=>rfl
 |cons c a ih=>
  have h':cond c.cell (lall AV.cell a) false=true:=h;cases hc:c.cell with
  |false=>rw[hc] at h';cases h'
  |true=>
   rw[hc] at h';show cond c.cell (lall AV.cell (a ++ b)) false=_;rw[hc];exact ih h'
section
variable {P:Program} {base:Bs} {st:St} {K:AV->St->Prop} {e:En}
theorem jhv (cs:List AV):jk (Ev.newRow st cs) K=K (.ptr st.nx 0) (nw st cs):=by
 simp only[Ev.newRow,jF,jO,St.alloc_eq,jk];rfl
theorem jof {v:AV}(h:lall AV.cell v.cells=true):jk (jmG v st) K=K (.ptr st.nx 0) (nw st v.cells):=by
 simp only[jmG,h,cond_true];exact jhv _
theorem jtw {k b o:Nat}{v:AV}(hk:0<k)(hc:v.cells.length=k)(hl:lall AV.cell v.cells=true)(ho:o+k<=jV st.h b):jk (stV k (.ptr b o) v st) K=K qe (wr st b o v.cells):=by
 obtain⟨n,zl,z,cs,hg⟩:=Xi (h:=st.h) (b:=b) om;rw[yV hg] at ho;have e1:QcA (jP v.cells) k=true:=XT (by rw[jO];exact hc);have e2:QcC (QcD o k) n=true:=qo ho;simp only[stV,ya,hg,yg,e1,e2,hl,cond_true,St.put_eq,jk];unfold wr jgr;rw[hg]
def rats (h:T AO)(b o:Nat):Nat->List AV
 |0=>[]
 |k+1=>rat h b o :: rats h b (o+1) k
theorem QP (h:T AO)(b:Nat):∀ (k o:Nat),rats h b o k=(ω k).map λi=>rat h b (o+i)
 |0,o=>rfl
 |k+1,o=>by
  rw[List.range_succ_eq_map,ζ,Qbc];show rat h b o :: rats h b (o+1) k=_;rw[QP h b k (o+1)]
  congr 1
  refine QaR λi _=>?_;show rat h b (o+1+i)=rat h b (o+(i+1));rw[Qbj,QbB 1 i]
theorem jhw {k b o:Nat}(hk:0<k)(h:o+k<=jV st.h b):jk (QV k (.ptr b o) st) K=K (.agg (rats st.h b o k)) st:=by rw[QP];exact jrs hk h
theorem rats0 (h:T AO)(b o:Nat):rats h b o 0=[]:=nr rfl
theorem jbp (h:T AO)(b o k:Nat):rats h b o (k+1)=rat h b o :: rats h b (o+1) k:=nr rfl
theorem Cl.ratsP {s:St}{b:Nat}{cs:List AV}(h:Cl s b cs):∀ k o,o+k<=cs.length->rats s.h b o k=(cs.drop o).take k
 |0,o,_=>rfl
 |k+1,o,hk=>by
  show rat s.h b o :: Go.Sy.rats s.h b (o+1) k=_;rw[h.ratsP k (o+1) om,h.cell o om,List.drop_eq_getElem_cons (show o<cs.length by omega),Qcr,Qab,Qad om];rfl
theorem Z3 {h h':T AO}{b:Nat}(e:jv h' b=jv h b):∀ k o,rats h' b o k=rats h b o k
 |0,_=>rfl
 |k+1,o=>by rw[jbp,jbp,yx e,Z3 e k]
theorem Qw (h:T AO)(b:Nat):∀ k o,(rats h b o k).length=k
 |0,_=>rfl
 |k+1,o=>by rw[jbp,τ,Qw h b k]
theorem Zq {h:T AO}{b:Nat}:∀ {k o:Nat} {cs:List AV},cs.length=k->(∀ i,i<k->rat h b (o+i)=cs.getD i .bad)->rats h b o k=cs
 |0,o,[],_,_=>rfl
 |k+1,o,c :: cs,hl,h=>by
  rw[jbp,Zq (cs:=cs) (by simpa using hl) (λi hi=>by
   have:=h (i+1) om;rw[show o+1+i=o+(i+1) by omega,this];rfl)]
  have:=h 0 om;rw[Qbq] at this;rw[this];rfl
theorem joL {s:St}{cs:List AV}{k:Nat}(h:cs.length=k):rats (nw s cs).h s.nx 0 k=cs:=Zq h λi hi=>by rw[Qaj];exact jhr om
theorem Zp {s:St}{cs:List AV}{b k:Nat}(hb:b=s.nx)(h:cs.length=k):rats (nw s cs).h b 0 k=cs:=by rw[hb,joL h]
theorem Zo {s:St}{cs:List AV}{b o k:Nat}(h:b≠s.nx):rats (nw s cs).h b o k=rats s.h b o k:=Z3 (qp h) _ _
theorem YD {s:St}{b o k:Nat}{vs:List AV}(h:vs.length=k):rats (wr s b o vs).h b o k=vs:=Zq h λi hi=>by
 rw[kU om om,Qcs]
theorem Zm {s:St}{b c o o' k:Nat}{vs:List AV}(h:b≠c):rats (wr s c o' vs).h b o k=rats s.h b o k:=Z3 (qW h) _ _
theorem Zn {s:St}{b o k:Nat}{vs:List AV}:rats (wr s b o vs).h b 0 k=upd (rats s.h b 0 k) o vs:=by
 refine Zq (by rw[vi,Qw]) λi hi=>?_;rw[Qaj,UL,UW _ _ _ _ (by rw[Qw];exact hi),QP]
 congr 1
 simp[Qab,Qbf,hi]
theorem Zg (o:Nat)(vs:List AV):upd [] o vs=[]:=nr (by cases o<;>rfl)
theorem YQ (c:AV)(cs:List AV):upd (c :: cs) 0 []=c :: cs:=nr rfl
theorem ZE (c:AV)(cs:List AV)(v:AV)(vs:List AV):upd (c :: cs) 0 (v :: vs)=v :: upd cs 0 vs:=nr rfl
theorem wy (c:AV)(cs:List AV)(o:Nat)(vs:List AV):upd (c :: cs) (o+1) vs=c :: upd cs o vs:=nr rfl
theorem wx:∀ (cs:List AV) ,upd cs 0 []=cs
 |[]=>rfl
 |c :: cs=>rfl
theorem Cl.of_rats {s:St}{b k:Nat}{cs:List AV}(h1:b<s.nx)(h2:jV s.h b=k)(h3:cs.length=k)(h4:0<k)(h5:Go.Sy.rats s.h b 0 k=cs):Cl s b cs:=by
 refine⟨h1,Xi om,om,λi hi=>?_⟩;have:=congrArg (λl=>l.getD i .bad) h5;rw[QP] at this;have hi':i<k:=om
 simpa[Qab,Qbf,hi'] using this
theorem Cl.rats0 {s:St}{b k:Nat}{cs:List AV}(h:Cl s b cs)(hk:cs.length=k):Go.Sy.rats s.h b 0 k=cs:=Zq hk λi hi=>by rw[Qaj];exact h.cell i om
theorem Cl.ldA {s:St}{b k o:Nat}{cs:List AV}(h:Cl s b cs)(hk:0<k)(ho:o+k<=cs.length)(K:AV->St->Prop):jk (QV k (.ptr b o) s) K=K (.agg ((cs.drop o).take k)) s:=by
 rw[jhw hk (by rw[h.len];exact ho),h.ratsP k o ho]
end
section
variable {P:Program} {base:Bs} {st:St} {K:AV->St->Prop} {e:En}
theorem Wi:∀ (z:List AV) (off:Nat) (vs:List AV),off+vs.length<=z.length->z.take off ++ (vs ++ z.drop (off+vs.length))=upd z off vs
 |[],off,vs,h=>by
  have hv:vs=[]:=Qbi (by have h':off+vs.length<=0:=h;omega);subst hv;simp[upd]
 |c :: z,0,[],_=>rfl
 |c :: z,0,v :: vs,h=>by
  show v :: (vs ++ (c :: z).drop (0+(vs.length+1)))=v :: upd z 0 vs;rw[<-Wi z 0 vs (by simp at h ⊢;omega)];simp
 |c :: z,off+1,vs,h=>by
  show c :: z.take off ++ (vs ++ (c :: z).drop (off+1+vs.length))=c :: upd z off vs;rw[<-Wi z off vs (by simp at h;omega),show off+1+vs.length=(off+vs.length)+1 by omega];rfl
theorem jaN {z:List AV}{off size:Nat}{v:AV}{ps:List ((Nat×Nat)×AV)}(h1:v.plain=true)(h2:v.cells.length=size)(h3:off+size<=z.length):Ym z (((off,size),v) :: ps)=Ym (upd z off v.cells) ps:=by
 have e1:QcA (jP v.cells) size=true:=XT (by rw[jO];exact h2);have e2:QcC (QcD off size) (jP z)=true:=qo (by rw[jO];exact h3);have e3:yN (yl z off) (yN v.cells (zp z (QcD off size)))=upd z off v.cells:=by
  rw[yu,yu,qX,yX,<-Wi z off v.cells om,h2];rfl
 show cond v.plain (cond (QcA (jP v.cells) size) (cond (QcC (QcD off size) (jP z)) (Ym (yN (yl z off) (yN v.cells (zp z (QcD off size)))) ps) none) none) none=_;rw[h1,e1,e2,e3];rfl
theorem jdZ (z:List AV):jk (WD z [] st) K=K (.agg z) st:=nr rfl
theorem jdY {z:List AV}{off size:Nat}{v:AV}{ps:List ((Nat×Nat)×AV)}(h1:v.plain=true)(h2:v.cells.length=size)(h3:off+size<=z.length):jk (WD z (((off,size),v) :: ps) st) K=jk (WD (upd z off v.cells) ps st) K:=by
 unfold WD;rw[jaN h1 h2 h3]
def bSV (len s:Nat)(z:List AV)(ps:List ((Nat×Nat)×AV))(st:St):ER:=jN (Ym z ps) λcells=>
 cond (lall AV.cell cells) (force (jP cells) λn=>st.alloc (.row n n cells .e) λb st=>.ok (.slice b 0 len len s true) st) .no
theorem jmO (len s:Nat)(z:List AV)(ps:List ((Nat×Nat)×AV)):jk (HP len s z ps st) K=jk (bSV len s (qP z len) ps st) K:=nr rfl
theorem jhx {len s:Nat}{z:List AV}(h:lall AV.cell z=true):jk (bSV len s z [] st) K=K (.slice st.nx 0 len len s true) (nw st z):=by
 have e:Ym z []=some z:=rfl;simp only[bSV,e,jN,h,cond_true,jF,jO,St.alloc_eq,jk];rfl
theorem jbS {len s:Nat}{z:List AV}{off size:Nat}{v:AV}{ps:List ((Nat×Nat)×AV)}(h1:v.plain=true)(h2:v.cells.length=size)(h3:off+size<=z.length):jk (bSV len s z (((off,size),v) :: ps) st) K=jk (bSV len s (upd z off v.cells) ps st) K:=by
 unfold bSV;rw[jaN h1 h2 h3]
theorem gE (z:List AV):qP z 0=[]:=nr rfl
theorem U4 (z:List AV)(n:Nat):qP z (n+1)=z ++ qP z n:=nr (by first|rfl|(unfold qP;simp[yu]))
def Vc (e:En):List ((Nat×Nat)×A)->(F:List ((Nat×Nat)×AV)->Prop)->Res F
 |[],F=>F []
 |(p,a) :: l,F=>on1 e a λv=>Vc e l λvs=>F ((p,v) :: vs)
theorem Hq (e:En):∀ (l:List ((Nat×Nat)×A)) (F:List ((Nat×Nat)×AV)->Prop),Vc e l F=((l.map (·.2)).all (okA e)=true/\F (l.map λp=>(p.1,vl e p.2)))
 |[],F=>by simp[Vc]
 |(p,a) :: l,F=>by simp[Vc,Hq e l,on1,and_assoc]
theorem jdi (z:List AV)(ps:List ((Nat×Nat)×A)):wK P base (.i (.build z ps)) e st K=Vc e ps λvs=>jk (WD z vs st) K:=by
 rw[Hq];rfl
theorem jaF (len s:Nat)(z:List AV)(ps:List ((Nat×Nat)×A)):wK P base (.i (.buildS len s z ps)) e st K=Vc e ps λvs=>jk (HP len s z vs st) K:=by
 rw[Hq];rfl
theorem jnX (f:FuncId)(l:List A):wK P base (.i (.fn f l)) e st K=vP e l λvs=>K (.fn f vs) st:=by
 rw[Wq];rfl
theorem jnG (F:List ((Nat×Nat)×AV)->Prop):Vc e [] F=F []:=nr rfl
theorem jnF (p:Nat×Nat)(a:A)(l:List ((Nat×Nat)×A))(F:List ((Nat×Nat)×AV)->Prop):Vc e ((p,a) :: l) F=on1 e a λv=>Vc e l λvs=>F ((p,v) :: vs):=nr rfl
theorem jaj (k:IntKind)(n:Int):(AV.int k n).plain=true:=nr rfl
theorem jag (l:Lc):(AV.str l).plain=true:=nr rfl
theorem gH (b:Bool):(AV.bool b).plain=true:=nr rfl
theorem Ka (b o n c z:Nat)(x:Bool):(AV.slice b o n c z x).plain=true:=nr rfl
theorem gG:AV.nils.plain=true:=nr rfl
theorem jah (b o:Nat):(AV.ptr b o).plain=true:=nr rfl
theorem jak (cs:List AV):(AV.agg cs).plain=true:=nr rfl
theorem jeq (t:TypeId)(x:A):wK P base (.i (.iface t x)) e st K=on1 e x λv=>K (.iface t v) st:=k_1 (V:=λv st=>.ok (.iface t v) st) rfl (λ_=>rfl) K
end
def eqs:AV->Bool
 |.bool _=>true | .int _ _=>true | .str _=>true | .ptr _ _=>true | .nilp=>true | .slice _ _ _ _ _ _=>true | .nils=>true | .map _=>true | .nilm=>true | .nilf=>true | .nilif=>true | .lst _ _=>true | .xlst _ _=>true | .lptr _ _=>true
 |_=>false
theorem jmx (a:Int):eqI a a=true:=by cases a<;>simp[eqI]
theorem JF (a:Nat):QcA a a=true:=by rw[qJ]
theorem Uv (l:List AV):Wa l l=true:=by unfold Wa;exact @decide_eq_true _ (_) rfl
theorem Ux {v:AV}(h:eqs v=true):ZA v v=true:=by
 cases v<;>first|(cases h;done)|rfl|skip
 case bool b=>cases b<;>rfl
 case int k n=>show cond (eqK k k) (eqI n n) false=true;rw[JX,jmx];rfl
 case str s=>show ZF s s=true;rw[JW];simp
 case ptr b o=>show cond (QcA b b) (QcA o o) false=true;rw[JF,JF];rfl
 case slice b o n c z ex=>
  show cond (QcA b b) (cond (QcA o o) (cond (QcA n n) (cond (QcA c c) (cond (QcA z z) (cond ex ex (cond ex false true)) false) false) false) false) false=true;rw[JF,JF,JF,JF,JF];cases ex<;>rfl
 case map r=>show QcA r r=true;exact JF r
 case lst n cs=>show cond (QcA n n) (Wa cs cs) false=true;rw[JF,Uv];rfl
 case xlst n cs=>show cond (QcA n n) (Wa cs cs) false=true;rw[JF,Uv];rfl
 case lptr cs n=>show cond (QcA n n) (Wa cs cs) false=true;rw[JF,Uv];rfl
theorem Uw:∀ {l:List AV},l.all eqs=true->WA l l=true
 |[],_=>rfl
 |v :: l,h=>by
  simp only[QaC,ψ] at h;show cond (ZA v v) (WA l l) false=true;rw[Ux h.1,Uw h.2];rfl
theorem jjB {v:AV}(h:eqs v=true):jg6 v v=true:=by
 cases v<;>first|(cases h;done)|exact Ux h
section
variable {P:Program}
theorem JA {t:TypeId}{b o:Nat}{v:AV}{h:T AO}(h1:Go.Ev.isAgg P t=some false)(h2:Go.Ev.sizeOf P t=some 1)(ho:o<jV h b)(hv:rat h b o=v)(hc:eqs v=true):jZ P t (.ptr b o) v h=true:=by
 obtain⟨n,zl,z,cs,hg⟩:=Xi (h:=h) (b:=b) om;rw[yV hg] at ho;rw[J8 hg] at hv;have e3:QcC (QcB o) n=true:=qo ho;have e:(qV P t).run (.ptr b o) h=some v:=by simp only[qV,h1,h2,hg,e3,cond_true,hv]
 unfold jZ;dsimp only;rw[e];exact jjB hc
theorem YW {t:TypeId}{b o k:Nat}{cs:List AV}{h:T AO}(h1:Go.Ev.isAgg P t=some true)(h2:Go.Ev.sizeOf P t=some k)(hk:0<k)(ho:o+k<=jV h b)(hv:rats h b o k=cs)(hc:cs.all eqs=true):jZ P t (.ptr b o) (.agg cs) h=true:=by
 obtain⟨n,zl,z,cs',hg⟩:=Xi (h:=h) (b:=b) om;rw[yV hg] at ho;have e3:QcC (QcD o k) n=true:=qo ho;have e:(qV P t).run (.ptr b o) h=some (.agg cs):=by
  simp only[qV,h1,h2,hg,e3,cond_true];rw[<-hv,QP,qm]
  congr 2
  refine QaR λi _=>?_;rw[J8 hg]
 unfold jZ;dsimp only;rw[e];exact Uw hc
def Yl (P:Program)(t u:TypeId)(x y:TE):Bool:=
 match x,y with
 |.rd a v,.wr pre post=>jZ P t a v pre && jZ P t a v post
 |.rd _ _,.rd _ _=>false
 |.wr pre post,.rd a v=>jZ P u a v pre && jZ P u a v post
 |.wr _ _,.wr _ _=>false
 |_,_=>true
theorem h_0 (t:TypeId)(x:TE)(tb:List TE):(held P t x tb []=true)=True:=by simp[held]
theorem h_1 (t:TypeId)(x:TE)(tb:List TE)(k:Nat)(u:TypeId)(l:List (Nat×TypeId)):(held P t x tb ((k,u) :: l)=true)=(Yl P t u x (yt .none tb k)=true/\held P t x tb l=true):=by
 have e:held P t x tb ((k,u) :: l)=cond (Yl P t u x (yt .none tb k)) (held P t x tb l) false:=by
  show cond _ _ false=cond _ _ false
  congr 1
  unfold Yl;cases x<;>cases yt TE.none tb k<;>first|rfl|(simp only[Bool.cond_eq_ite];split<;>simp[*])
 rw[e];cases Yl P t u x (yt .none tb k)<;>simp
theorem jsz (t u:TypeId)(a v:AV)(pre post:T AO):(Yl P t u (.rd a v) (.wr pre post)=true)=(jZ P t a v pre=true/\jZ P t a v post=true):=by simp[Yl]
theorem jsy (t u:TypeId)(a v:AV)(pre post:T AO):(Yl P t u (.wr pre post) (.rd a v)=true)=(jZ P u a v pre=true/\jZ P u a v post=true):=by simp[Yl]
theorem jsB (t u:TypeId)(y:TE):(Yl P t u .none y=true)=True:=by simp[Yl]
theorem jsA (t u:TypeId)(x:TE):(Yl P t u x .none=true)=True:=by cases x<;>simp[Yl]
theorem jsj (d x:TE)(l:List TE):yt d (x :: l) 0=x:=nr rfl
theorem jsi (d x:TE)(l:List TE)(n:Nat):yt d (x :: l) (n+1)=yt d l n:=nr rfl
theorem jrH (e:En)(v:AV)(st st':St):teW none e v st st'=.none:=nr rfl
theorem jrG (e:En)(v:AV)(st st':St):teW (some none) e v st st'=.wr st.h st'.h:=nr rfl
theorem jrF (a:A)(e:En)(v:AV)(st st':St):teW (some (some a)) e v st st'=.rd (vl e a) v:=nr rfl
theorem jrl (e:En)(v:AV):vl e (.c v)=v:=nr rfl
theorem jrj (x:Nat)(v:AV)(l g:Sl):vl ⟨(x,v) :: l,g⟩ (.t x)=v:=by simp[vl,En.look,y7,En.has,zP]
theorem jnh {k x:Nat}(h:k≠x)(v:AV)(l g:Sl):vl ⟨(k,v) :: l,g⟩ (.t x)=vl ⟨l,g⟩ (.t x):=by simp[vl,En.look,y7,En.has,zP,h]
theorem jrk (x:Nat)(v:AV)(g:Sl):vl ⟨[],(x,v) :: g⟩ (.t x)=v:=by simp[vl,En.look,y7,En.has,zP,has]
theorem jni {k x:Nat}(h:k≠x)(v:AV)(g:Sl):vl ⟨[],(k,v) :: g⟩ (.t x)=vl ⟨[],g⟩ (.t x):=by simp[vl,En.look,y7,En.has,zP,has,h]
theorem Km {L:Sl}{x:Nat}{v:AV}(h:Has L x v):vl ⟨[],L⟩ (.t x)=v:=by
 obtain⟨h1,h2⟩:=h;simp[vl,En.has,En.look,has,h2]
end
section
variable {P:Program} {base:Bs} {st:St} {K:AV->St->Prop} {e:En}
def Zk (sz:Nat)(v:AV)(lo hi:Option AV)(st:St):ER:=match v with
 |.nils=>optA lo 0 λl=>optA hi 0 λh=>cond (QcA l 0) (cond (QcA h 0) (.ok .nils st) .no) .no
 |.slice b o len cap sz' ex=>optA lo 0 λl=>optA hi len λh=>
  cond (QcA sz' sz) (cond (QcC l h) (cond (QcC h cap) (force (QcF h l) λk=>force (QcD o (QcE l sz)) λo=>force (QcF cap l) λc=>.ok (.slice b o k c sz ex) st) .no) .no) .no
 |.lst n cs=>optA lo 0 λl=>optA hi n λh=>
  cond (QcC l h) (cond (QcC h n) (cond (QcC (QcE h sz) (jP cs)) (.ok (.lst (QcF h l) (yl (zp cs (QcE l sz)) (QcE (QcF h l) sz))) st) .no) .no) .no
 |_=>.no
theorem ji3 (sz:Nat)(x lo:A):wK P base (.i (.slS sz x (some lo) none)) e st K=on1 e x λv=>on1 e lo λl=>jk (Zk sz v (some l) none st) K:=k_2 (V:=λv l st=>Zk sz v (some l) none st) rfl (λ_=>rfl) K
theorem ji2 (sz:Nat)(x hi:A):wK P base (.i (.slS sz x none (some hi))) e st K=on1 e x λv=>on1 e hi λh=>jk (Zk sz v none (some h) st) K:=k_2 (V:=λv h st=>Zk sz v none (some h) st) rfl (λ_=>rfl) K
theorem ji1 (sz:Nat)(x lo hi:A):wK P base (.i (.slS sz x (some lo) (some hi))) e st K=on1 e x λv=>on1 e lo λl=>on1 e hi λh=>jk (Zk sz v (some l) (some h) st) K:=k_3 (V:=λv l h st=>Zk sz v (some l) (some h) st) rfl (λ_=>rfl) K
end
def ifW (p:Prop)(a b:Prop):Res (a,b):=(p->a)/\(¬ p->b)
theorem jb {b:Prop}(h1:p->a)(h2:¬ p->b):ifW p a b:=⟨h1,h2⟩
theorem Gh {b:Prop}(h:p):ifW p a b=a:=propext ⟨λk=>k.1 h,λk=>⟨λ_=>k,λn=>absurd h n⟩⟩
theorem Gi {b:Prop}(h:¬ p):ifW p a b=b:=propext ⟨λk=>k.2 h,λk=>⟨λn=>absurd n h,λ_=>k⟩⟩
section
variable {P:Program} {base:Bs} {st:St} {K Kp:AV->St->Prop} {e:En}
theorem jfq (q:Bool)(a b:Prop):uP (.bool q) a b=ifW (q=true) a b:=by cases q<;>simp[uP,ifW]
theorem jth (q:Bool)(a b:Prop):onG (.bool q) true a b=ifW (q=true) a b:=by cases q<;>simp[onG,ifW]
theorem jti (q:Bool)(a b:Prop):onG (.bool q) false a b=ifW (q=true) b a:=by cases q<;>simp[onG,ifW]
theorem jjO (q:Bool)(a b:AV):jk (jgs (.bool q) a b st) K=ifW (q=true) (K a st) (K b st):=by cases q<;>simp[jgs,Z4,jk,ifW]
theorem jcj (a b:Lc):jk (Kn .neq (.str a) (.str b) st) K=K (.bool (decide (a≠b))) st:=by
 simp only[Kn,ur,jN,jk,JW];by_cases h:a=b
 .simp[h]
 .simp[h]
theorem jck {a b:Lc}(h:a.length+b.length<=9223372036854775807):jk (Kn .add (.str a) (.str b) st) K=K (.str (a ++ b)) st:=by
 have e1:QcC (QcD (jP a) (jP b)) 9223372036854775807=true:=by rw[qi,jO,jO];exact h
 simp only[Kn,ur,jN,jk,e1,cond_true,yu]
theorem Zw {x:Int}(h1 : -9223372036854775808<=x)(h2:x<=9223372036854775807):qU .i64 x=x:=by
 rw[Qq];exact IntWalk.i64_in x ⟨h1,om⟩
theorem jh6 {a b:Int}(h1 : -9223372036854775808<=a+b)(h2:a+b<=9223372036854775807):jk (yE .add (.int .i64 a) (.int .i64 b) st) K=K (.int .i64 (a+b)) st:=by
 have:(QN .add).run .i64 a b=some (.int .i64 (a+b)):=by show some (AV.int .i64 (qU .i64 (a+b)))=_;rw[Zw h1 h2]
 simp only[yE,JX,cond_true,this,jN,jk]
theorem jhM {a b:Int}(h1 : -9223372036854775808<=a - b)(h2:a - b<=9223372036854775807):jk (yE .sub (.int .i64 a) (.int .i64 b) st) K=K (.int .i64 (a - b)) st:=by
 have:(QN .sub).run .i64 a b=some (.int .i64 (a - b)):=by show some (AV.int .i64 (qU .i64 (a - b)))=_;rw[Zw h1 h2]
 simp only[yE,JX,cond_true,this,jN,jk]
theorem jhV {a b:Int}(h1 : -9223372036854775808<=a * b)(h2:a * b<=9223372036854775807):jk (yE .mul (.int .i64 a) (.int .i64 b) st) K=K (.int .i64 (a * b)) st:=by
 have:(QN .mul).run .i64 a b=some (.int .i64 (a * b)):=by show some (AV.int .i64 (qU .i64 (a * b)))=_;rw[Zw h1 h2]
 simp only[yE,JX,cond_true,this,jN,jk]
theorem jhU {a:Int}(h1 : -9223372036854775808<=-a)(h2 : -a<=9223372036854775807):jk (unV .neg (.int .i64 a) st) K=K (.int .i64 (-a)) st:=by
 have e:IntKind.i64.wrap (0 - a)=-a:=by rw[<-Qq,Zw om om];omega
 simp only[unV,YR,O,e,jk]
def biV (P:Program)(b:Builtin)(ts:Array TypeId)(l:List AV)(st:St):ER:=(qF P b ts (l.map λv=>O v)).run E0 st
theorem jn2 (b:Builtin)(ts:Array TypeId)(l:List A):wK P base (.i (.bi b ts l)) e st K=vP e l λvs=>jk (biV P b ts vs st) K:=by
 rw[Wq];simp only[wK,wI,wk,jX,biV,Qbc];rfl
theorem jhY (ts:Array TypeId)(k:IntKind)(a b:Int):jk (biV P .max ts [.int k a,.int k b] st) K=K (.int k (max a b)) st:=by
 have:(qF P .max ts [O (.int k a),O (.int k b)]).run E0 st=jN (max2 (.int k a) (.int k b)) λv=>.ok v st:=by
  show jN (Q5 max2 (.int k a) [.int k b]) _=_;unfold Q5;cases max2 (.int k a) (.int k b)<;>rfl
 show jk ((qF P .max ts [O (.int k a),O (.int k b)]).run E0 st) K=_;rw[this];simp only[max2,JX,cond_true,jN,jk]
 congr 2
 rw[X7];by_cases h:a<b
 .rw[decide_eq_true h,Int.max_eq_right om];rfl
 .rw[decide_eq_false h,Int.max_eq_left om];rfl
theorem jhX (ts:Array TypeId)(k:IntKind)(a b:Int):jk (biV P .min ts [.int k a,.int k b] st) K=K (.int k (min a b)) st:=by
 have:(qF P .min ts [O (.int k a),O (.int k b)]).run E0 st=jN (min2 (.int k a) (.int k b)) λv=>.ok v st:=by
  show jN (Q5 min2 (.int k a) [.int k b]) _=_;unfold Q5;cases min2 (.int k a) (.int k b)<;>rfl
 show jk ((qF P .min ts [O (.int k a),O (.int k b)]).run E0 st) K=_;rw[this];simp only[min2,JX,cond_true,jN,jk]
 congr 2
 rw[X7];by_cases h:b<a
 .rw[decide_eq_true h,Int.min_eq_right om];rfl
 .rw[decide_eq_false h,Int.min_eq_left om];rfl
theorem gb (n:Nat)(cs:List AV):jk (KB (.lst n cs) st) K=K (.int .i64 (n:Int)) st:=nr rfl
theorem jeP {k:IntKind}{i:Int}(h:0<=i)(F:Nat->ER):qv (.int k i) F=F i.toNat:=by
 obtain⟨n,rfl⟩:=QbC h;exact Wp
theorem jcp {n:Nat}{cs:List AV}{i:Int}(h0:0<=i)(h:i<n)(s:Nat)(k:IntKind):jk (Vq s (.lst n cs) (.int k i) st) K=K (.lptr cs (i.toNat * s)) st:=by
 simp only[Vq,jeP h0];have:QcC (QcB i.toNat) n=true:=by rw[qi];omega
 rw[this];rfl
theorem jh0 {b o n c z:Nat}{x:Bool}{i:Int}(h0:0<=i)(h:i<n)(s:Nat)(k:IntKind):jk (Vq s (.slice b o n c z x) (.int k i) st) K=K (.ptr b (o+i.toNat * s)) st:=by
 obtain⟨m,rfl⟩:=QbC h0;exact jru om s k
theorem jnr {s:Lc}{i:Int}(h0:0<=i)(h:i<s.length)(k:IntKind):jk (Gf (.str s) (.int k i) st) K=K (.int .u8 ((s.getD i.toNat 0:Nat):Int)) st:=by
 obtain⟨m,rfl⟩:=QbC h0;exact jos om k
theorem jrt {k o:Nat}{cs:List AV}(h:o+k<=cs.length):jk (QV k (.lptr cs o) st) K=K (.agg ((cs.drop o).take k)) st:=by
 have:QcC (QcD o k) (jP cs)=true:=by rw[qi,jO];exact h
 simp only[QV,this,cond_true,jk,qX,yX]
theorem qI {o:Nat}{cs:List AV}(h:o<cs.length):jk (XW (.lptr cs o) st) K=K (cs.getD o .bad) st:=by
 have:QcC (QcB o) (jP cs)=true:=by rw[qi,jO];exact h
 simp only[XW,this,cond_true,jk,zM]
theorem jh2 (off o:Nat)(cs:List AV):jk (jgV off (.lptr cs o) st) K=K (.lptr cs (o+off)) st:=nr rfl
theorem jep (o:Nat)(cs:List AV):jk (jgx (.lptr cs o) st) K=K (.lptr cs o) st:=nr rfl
def fl {α:Type}(enc:α->List AV)(xs:List α):List AV:=xs.flatMap enc
theorem Qd {α:Type}(enc:α->List AV)(x:α)(xs:List α):fl enc (x :: xs)=enc x ++ fl enc xs:=rfl
theorem Xl {α:Type}(enc:α->List AV)(xs ys:List α):fl enc (xs ++ ys)=fl enc xs ++ fl enc ys:=by simp[fl]
theorem Qc {α:Type}(enc:α->List AV)(x:α):fl enc [x]=enc x:=by simp[fl]
theorem zZ {α:Type}{enc:α->List AV}{z:Nat}(hz:∀ x,(enc x).length=z):∀ xs:List α,(fl enc xs).length=xs.length * z
 |[]=>by simp[fl]
 |x :: xs=>by rw[Qd,υ,hz,zZ hz xs,τ,QaX,QbB]
theorem zq {α:Type}{enc:α->List AV}(hp:∀ x,(enc x).all pc=true):∀ xs:List α,(fl enc xs).all pc=true
 |[]=>rfl
 |x :: xs=>by rw[Qd,QaN,hp,zq hp xs];rfl
theorem HG {α:Type}{enc:α->List AV}{z:Nat}(hz:∀ x,(enc x).length=z):∀ (xs:List α) (i:Nat),(fl enc xs).drop (i * z)=fl enc (xs.drop i)
 |xs,0=>by simp
 |[],i+1=>by simp[fl]
 |x :: xs,i+1=>by
  rw[Qd,QaX,QbB,List.drop_append,List.drop_eq_nil_of_le (by rw[hz];omega),hz,Qcs,HG hz xs i];rfl
theorem jfa {α:Type}{enc:α->List AV}{z:Nat}(hz:∀ x,(enc x).length=z):∀ (xs:List α) (i:Nat),(fl enc xs).take (i * z)=fl enc (xs.take i)
 |xs,0=>by simp[fl]
 |[],i+1=>by simp[fl]
 |x :: xs,i+1=>by
  rw[Qd,QaX,QbB,List.take_append,Qbb (by rw[hz];omega),hz,Qcs,jfa hz xs i];rfl
theorem jgQ {α:Type}{enc:α->List AV}{z:Nat}(hz:∀ x,(enc x).length=z){xs:List α}{i:Nat}(h:i<xs.length):((fl enc xs).drop (i * z)).take z=enc xs[i]:=by
 rw[HG hz,List.drop_eq_getElem_cons h,Qd,List.take_append,Qbb (by rw[hz];omega),hz,Nat.sub_self,QaG,QaU]
theorem v7 {α:Type}{enc:α->List AV}{z:Nat}(hz:∀ x,(enc x).length=z){xs:List α}{i:Nat}(h:i<xs.length){k:Nat}(hk:k<z):(fl enc xs).getD (i * z+k) .bad=(enc xs[i]).getD k .bad:=by
 rw[<-jgQ hz h];simp only[Qaf,QbH,hk,if_true,QbR]
theorem jbd {α:Type}{enc:α->List AV}{z:Nat}(hz:∀ x,(enc x).length=z){xs:List α}{i:Nat}(h:i<xs.length):jk (QV z (.lptr (fl enc xs) (i * z)) st) K=K (.agg (enc xs[i])) st:=by
 have:(i+1) * z<=xs.length * z:=QaA z h;rw[QaX] at this;rw[jrt (by rw[zZ hz];omega),jgQ hz h]
theorem jco {α:Type}{enc:α->List AV}{z:Nat}(hz:∀ x,(enc x).length=z){xs:List α}{i:Nat}(h:i<xs.length){k:Nat}(hk:k<z):jk (XW (.lptr (fl enc xs) (i * z+k)) st) K=K ((enc xs[i]).getD k .bad) st:=by
 have:(i+1) * z<=xs.length * z:=QaA z h;rw[QaX] at this;rw[qI (by rw[zZ hz];omega),v7 hz h hk]
theorem jh1 {k:Nat}{cs:List AV}(h:k<cs.length):jk (jgP k (.agg cs) st) K=K (cs.getD k .bad) st:=by
 have:QcC (QcB k) (jP cs)=true:=by rw[qi,jO];exact h
 simp only[jgP,Qy,this,cond_true,jk,zM]
theorem jes (k n:Nat)(cs:List AV):jk (jgO k n (.agg cs) st) K=K (.agg ((cs.drop k).take n)) st:=by
 simp only[jgO,Qy,jk,qX,yX]
theorem Hd (l:List AV):l.take 0=[]:=rfl
theorem Hb (a:AV)(l:List AV)(n:Nat):(a :: l).take (n+1)=a :: l.take n:=rfl
theorem HM (l:List AV):l.drop 0=l:=rfl
theorem jsW (a:AV)(l:List AV)(n:Nat):(a :: l).drop (n+1)=l.drop n:=rfl
theorem Cl.rw_ {b:Nat}{cs:List AV}(C:Cl st b cs):Rw st.h b cs:=by
 obtain⟨n,zl,z,c,hg⟩:=C.row;have hl:=C.len;rw[yV hg] at hl;refine⟨n,zl,z,c,hg,?_⟩;rw[qm];apply Qbg
 .simp[hl]
 .intro i h1 h2;have:=C.cell i h2;rw[J8 hg] at this;simp only[QbY,List.getElem_range,Qaj,this];simp[Qaf,Qad h2]
end
section
variable {P:Program} {base:Bs}
theorem Hv (cs:List AV):Zt cs=nw st0 cs:=by unfold Zt nw;rw[jO];rfl
def G0 (u v:AV)(s:St):Prop:=FzD 0 9 s v u
def G1 (n:Nat)(c':List AV)(u v:AV)(s:St):Prop:=FzD 1 9 s v u/\∃ c2,Rw s.h 0 c2/\c2.length=n/\FzsD 1 9 s c2 c'
theorem jB {f:FuncId}{F:XF}(hl:jx P f=some F)(hnd:F.body.nd=true)(hm:base.pur f=1){aZ:List AV}{o:Oc}
  (h:xC P base F.body (jj F.ps aZ) st0 (Xo P F.res (XP G0 o)) λv _ s=>Xy G0 o v s.bare):PX P base f aZ o:=
 PX.of hm (Yv hl hnd h)
theorem qa {f:FuncId}{F:XF}(hl:jx P f=some F)(hnd:F.body.nd=true)(hm:base.pur f=3){c aZ:List AV}(hc:c.all pc=true){o:Oc}{c':List AV}
  (h:xC P base F.body (jj F.ps (.ptr 0 0 :: aZ)) (nw st0 c) (Xo P F.res (XP (G1 c.length c') o)) λv _ s=>Xy (G1 c.length c') o v s.bare):PM P base f c aZ o c':=by
 rw[<-Hv] at h;exact PM.of hm hc (Yv hl hnd h)
theorem PM.xbk {f:FuncId}{c aZ aZ':List AV}{ks:Lc}{o:Oc}{c':List AV}(h:PM P base f c aZ o c'){st:St}{p:Nat}(C:Cl (kills ks st) p c)(hf:fzs (fz 9 st.h) aZ'=some (aZ,ks))(hp:aZ.all pa=true)(hb:∀ st,base.run f (.ptr p 0 :: aZ') st=.no)(K Kp:AV->St->Prop) :
  XB P base f (.ptr p 0 :: aZ') st K Kp=Ys o K Kp (wr (kills ks st) p 0 c'):=by
 obtain⟨N,D,h⟩:=h;have e0:∀ n,N<=n->∀ d,D<=d->evC P base n d f (.ptr p 0 :: aZ') st=o.er (wr (kills ks st) p 0 c'):=λn hn d hd=>by
  rw[h n hn d hd st p aZ' ks C.rw_ hf hp hb]
  congr 1
 refine propext ⟨λ⟨r,⟨N2,D2,h2⟩,h3⟩=>?_,λh3=>⟨_,⟨N,D,e0⟩,?_⟩⟩
 .have e1:=e0 (max N N2) (Qao ..) (max D D2) (Qao ..);have e2:=h2 (max N N2) (Qap ..) (max D D2) (Qap ..);rw[e1] at e2;rw[<-e2] at h3;cases o<;>exact h3
 .cases o<;>exact h3
theorem PM.xb {f:FuncId}{c aZ:List AV}{o:Oc}{c':List AV}(h:PM P base f c aZ o c'){st:St}{p:Nat}(C:Cl st p c)(hp:aZ.all pa=true)(hb:∀ st,base.run f (.ptr p 0 :: aZ) st=.no)(K Kp:AV->St->Prop) :
 XB P base f (.ptr p 0 :: aZ) st K Kp=Ys o K Kp (wr st p 0 c'):=h.xbk (ks:=[]) C (Gn (d:=7) hp) hp hb K Kp
theorem wG (v:AV)(K Kp:AV->St->Prop)(st:St):Ys (.ok v) K Kp st=K v st:=nr rfl
theorem jgv (v:AV)(K Kp:AV->St->Prop)(st:St):Ys (.pn v) K Kp st=Kp v st:=nr rfl
theorem jjD (G:AV->AV->St->Prop)(u v:AV)(s:St):XP G (.ok u) v s=G u v s:=nr rfl
theorem jiG (G:AV->AV->St->Prop)(u v:AV)(s:St):Xy G (.pn u) v s=G u v s:=nr rfl
def jgl (b b2:Nat)(J:Sl->St->Prop)(Q:Out->Prop):Out->Res (J,Q)
 |.go L s=>J L s
 |.ex i L s=>cond (QcA i b2) (J L s) (cond (QcA i b) (Q (.go L s)) (Q (.ex i L s)))
 |.rt L s=>Q (.rt L s)
theorem jr4 (b b2:Nat)(J:Sl->St->Prop)(Q:Out->Prop)(L:Sl)(s:St):jgl b b2 J Q (.go L s)=J L s:=nr rfl
theorem jr3 (b b2:Nat)(J:Sl->St->Prop)(Q:Out->Prop)(L:Sl)(s:St):jgl b b2 J Q (.rt L s)=Q (.rt L s):=nr rfl
theorem jlZ (b b2:Nat)(J:Sl->St->Prop)(Q:Out->Prop)(i:Nat)(L:Sl)(s:St):jgl b b2 J Q (.ex i L s)=cond (QcA i b2) (J L s) (cond (QcA i b) (Q (.go L s)) (Q (.ex i L s))):=nr rfl
theorem hsX {p:Prop}(h:p:=by first|assumption|(simp(disch:=decide) only[je,jn];done)|(simp(disch:=decide) only[je];assumption)):p:=h
theorem jU {b b2 i n c d:Nat}{body:XC}{L:Sl}{st:St}{Q:Out->Prop}{Kp:AV->Sl->St->Prop}(N:Nat)(I:Nat->Sl->St->Prop)(h0:I 0 L st)
  (step:∀ k L s,k<N->I k L s->Has L i (.int .i64 (k:Int))->Has L n (.int .i64 (N:Int))->um (xC P base body L s (jgl b b2 (λL' s'=>I (k+1) L' s'/\Has L' i (.int .i64 (k:Int))/\Has L' n (.int .i64 (N:Int))) Q) Kp))
  (fin:∀ L s,I N L s->um (Q (.go L s))) (hN:N<=4611686018427387904:=by first|assumption|omega) (hne:c≠i/\c≠n/\i≠n/\d≠i/\b≠b2:=by decide)
  (hi:Has L i (.int .i64 0):=by exact hsX) (hn:Has L n (.int .i64 (N:Int)):=by exact hsX) (hc:∀ k L s v,I k L s->I k ((c,v) :: L) s:=by intro k L s v h;simp(disch:=decide) only[je];exact h) (hI:∀ k L s v,I k L s->I k ((i,v) :: L) s:=by intro k L s v h;simp(disch:=decide) only[je];exact h) :
  xC P base (.loop (.seq (.ops [⟨some c,true,none,.i (.bin .lss (.t i) (.t n))⟩]) (.seq (.cond (.t c) .skip (.exit b)) (.seq (.block b2 body) (.ops [⟨some d,false,none,.i (.bin .add (.t i) (.c (.int .i64 1)))⟩,⟨some i,true,none,.i (.mv (.t d))⟩]))))) L st (yz b Q) Kp:=by
 obtain⟨n1,n2,n3,n4,n5⟩:=hne;refine ye (λm L s=>∃ k,k<=N/\m=N - k/\I k L s/\Has L i (.int .i64 (k:Int))/\Has L n (.int .i64 (N:Int))) ?_ N ⟨0,Qae _,rfl,h0,hi,hn⟩;rintro m L s ⟨k,hk,rfl,hk',h1,h2⟩;unfold um;simp only[ja8,ja9,UQ,x_i,jbD,ja h1,ja h2,jgc,jba,U6,vt,jcb,jgo];by_cases hlt:k<N
 .rw[decide_eq_true om,joM,jb6,vt,ja8,UR];refine jem _ _ _ _ _ (step k ((c,.bool true) :: L) s hlt (hc k L s _ hk') (by rw[je n1];exact h1) (by rw[je n2];exact h2)) λo ho=>?_;have go:∀ L' s',(I (k+1) L' s'/\Has L' i (.int .i64 (k:Int))/\Has L' n (.int .i64 (N:Int)))->xO P base [⟨some d,false,none,.i (.bin .add (.t i) (.c (.int .i64 1)))⟩,⟨some i,true,none,.i (.mv (.t d))⟩] ⟨[],L'⟩ s' (λe st'=>Qu (λL' st'=>∃ k',k'<N - k/\∃ k,k<=N/\k'=N - k/\I k L' st'/\Has L' i (.int .i64 (k:Int))/\Has L' n (.int .i64 (N:Int))) (yz b Q) (.go e.g st')) Kp:=by
   intro L' s' ⟨h3,h4,h5⟩;simp only[UQ,x_i,jbD,ja h4,jgp,jrx (show k+1<=9223372036854775807 by omega),Hn,jmo,jgn,jba,U6,vt];refine⟨N - (k+1),om,k+1,om,rfl,hI _ _ _ _ h3,Has.here _ _ _,by rw[je n3];exact h5⟩
  cases o with
  |go L' s'=>exact go L' s' ho
  |rt L' s'=>exact ho
  |ex q L' s'=>
   rw[jlZ] at ho;cases hq:QcA q b2
   .rw[hq] at ho;have e1:yz b2 (Qu (λL' st'=>xC P base (.ops [⟨some d,false,none,.i (.bin .add (.t i) (.c (.int .i64 1)))⟩,⟨some i,true,none,.i (.mv (.t d))⟩]) L' st' (Qu (λL' st'=>∃ k',k'<N - k/\∃ k,k<=N/\k'=N - k/\I k L' st'/\Has L' i (.int .i64 (k:Int))/\Has L' n (.int .i64 (N:Int))) (yz b Q)) Kp) (Qu (λL' st'=>∃ k',k'<N - k/\∃ k,k<=N/\k'=N - k/\I k L' st'/\Has L' i (.int .i64 (k:Int))/\Has L' n (.int .i64 (N:Int))) (yz b Q))) (.ex q L' s')=yz b Q (.ex q L' s'):=by
     simp only[yz,hq,cond_false,Qu]
    show yz b2 _ _;rw[e1];exact ho
   .rw[hq] at ho;have:=go L' s' ho;show yz b2 _ _;simp only[yz,hq,cond_true,vt,ja9];exact this
 .have hkN:k=N:=om
  rw[decide_eq_false om,joN,jb8,U5,U5];subst hkN;show yz b Q (.ex b _ s);rw[Uc];exact fin _ _ (hc _ _ _ _ hk')
theorem uT (n:Nat)(cs:List AV):(AV.lst n cs).cells=[.lst n cs]:=nr rfl
theorem jc9 (n:Nat)(cs l:List AV):lall AV.cell (.lst n cs :: l)=lall AV.cell l:=nr rfl
theorem jai (n:Nat)(cs:List AV):(AV.lst n cs).plain=true:=nr rfl
theorem q6:st0.nx=0:=nr rfl
theorem jiq (P:Program)(t:TypeId)(cs:List AV)(o:Nat)(v:AV)(h:T AO):(jZ P t (.lptr cs o) v h=true)=True:=by simp[jZ]
theorem G0.v {u v:AV}{s:St}(h:v=u)(hp:pa v=true):G0 u v s:=by subst h;exact FzD.pa hp
theorem je5 (p:Prop):um p=p:=nr rfl
theorem jiC:zB []=.tup []:=nr rfl
theorem G8:∀ {c c':List AV},c'.length=c.length->upd c 0 c'=c'
 |[],[],_=>rfl
 |[],_ :: _,h=>by simp at h
 |_ :: _,[],h=>by simp at h
 |_ :: c,v :: c',h=>by rw[ZE,G8 (by simpa using h)]
theorem Zh {c c':List AV}(h:c'.length=c.length):upd c 0 c'=c':=G8 h
theorem Cl.wr0 {s:St}{b:Nat}{c c':List AV}(C:Cl s b c)(h:c'.length=c.length):Cl (Go.Sy.wr s b 0 c') b c':=by
 have:=C.wr 0 c';rwa [G8 h] at this
theorem G1.done {s:St}{n:Nat}{c':List AV}{u v:AV}(C:Cl s 0 c')(hl:c'.length=n)(hp:c'.all pc=true)(hv:FzD 1 9 s v u):G1 n c' u v s:=
 ⟨hv,c',C.rw_,hl,FzsD.pc hp⟩
theorem FzD.u {m d:Nat}{s:St}:FzD m (d+1) s (.tup []) (.tup []):=FzD.tup FzsD.nil
abbrev Met (P:Program)(base:Bs)(f:FuncId)(c xs:List AV)(o:Oc)(c':List AV):Prop:=∀ {st:St} {p:Nat},Cl st p c->∀ K Kp,XB P base f (.ptr p 0 :: xs) st K Kp=Ys o K Kp (wr st p 0 c')
theorem PM.met {f:FuncId}{c xs:List AV}{o:Oc}{c':List AV}(h:PM P base f c xs o c')(hp:xs.all pa=true)(hb:∀ p st,base.run f (.ptr p 0 :: xs) st=.no):Met P base f c xs o c':=λC K Kp=>h.xb C hp (hb _) K Kp
theorem GX {f:FuncId}{xs:List AV}{st:St}{v:AV}{st':St}(h:base.run f xs st=.ok v st')(K Kp:AV->St->Prop):XB P base f xs st K Kp=K v (back st st'):=by
 have e0:∀ n,0<=n->∀ d,1<=d->evC P base n d f xs st=.ok v st':=λn _ d hd=>by
  obtain⟨d',rfl⟩:∃ d',d=d'+1:=⟨d - 1,om⟩;simp only[evC,h]
 refine propext ⟨λ⟨r,⟨N2,D2,h2⟩,h3⟩=>?_,λh3=>⟨_,⟨0,1,e0⟩,h3⟩⟩;have e1:=e0 N2 (Qae _) (max 1 D2) (Qao ..);have e2:=h2 N2 (η _) (max 1 D2) (Qap ..);rw[e1] at e2;rw[<-e2] at h3;exact h3
def cvV (P:Program)(s d:TypeId)(v:AV)(st:St):ER:=(JZ P s d (O v)).run E0 st
theorem jje {e:En}{st:St}{K:AV->St->Prop}(s d:TypeId)(x:A):wK P base (.i (.conv s d x)) e st K=on1 e x λv=>jk (cvV P s d v st) K:=k_1 rfl (λ_=>rfl) K
theorem jpA {st:St}{K:AV->St->Prop}{s d e:TypeId}(h1:P.underlying s=some .string)(h2:P.underlying d=some (.slice e))(h3:P.underlying e=some (.int .u8))(l:Lc) :
  jk (cvV P s d (.str l) st) K=K (.slice st.nx 0 l.length l.length 1 false) (nw st (l.map λ(c:Nat)=>.int .u8 (c:Int))):=by
 simp only[cvV,JZ,h1,h2,h3,O,zV,jO,jF,St.alloc_eq,jk];unfold nw;rw[Qac,yG];rfl
theorem jiu {st:St}(x k:Nat)(l:List RV)(L:Sl)(F:List AV->Prop):yv P (.cA x k :: l) L st F=on1 ⟨[],L⟩ (.t x) λv=>jk (QV k v st) λu _=>yv P l L st λvs=>F (u :: vs):=by
 simp only[yv,jcE,on1,okA,vl,En.has,En.look,has,cond_false];rfl
theorem jeI {st:St}(x:Nat)(l:List RV)(L:Sl)(F:List AV->Prop):yv P (.c1 x :: l) L st F=on1 ⟨[],L⟩ (.t x) λv=>jk (XW v st) λu _=>yv P l L st λvs=>F (u :: vs):=by
 simp only[yv,jcE,on1,okA,vl,En.has,En.look,has,cond_false];rfl
def jbj (n sz:Nat)(v:AV)(st:St):ER:=ya v λb o=>optA none 0 λl=>optA none n λh=>
 cond (QcC l h) (cond (QcC h n)
  (force (QcF h l) λk=>force (QcD o (QcE l sz)) λo=>force (QcF n l) λc=>.ok (.slice b o k c sz true) st) .no) .no
theorem ji4 {e:En}{st:St}{K:AV->St->Prop}(n sz:Nat)(x:A):wK P base (.i (.slA n sz x none none)) e st K=on1 e x λv=>jk (jbj n sz v st) K:=k_1 (V:=λv st=>jbj n sz v st) rfl (λ_=>rfl) K
theorem jhS {st:St}{K:AV->St->Prop}(b n sz:Nat):jk (jbj n sz (.ptr b 0) st) K=K (.slice b 0 n n sz true) st:=by
 have e1:QcC 0 n=true:=qo (Qae _);have e2:QcC n n=true:=qo (η _);have e3:QcD 0 (QcE 0 sz)=0:=by show 0+0 * sz=0;omega
 have e4:QcF n 0=n:=rfl;simp only[jbj,ya,optA,e1,e2,e3,e4,cond_true,jF,jk]
theorem jer {st:St}{K:AV->St->Prop}{b n s:Nat}{i:Int}(h0:0<=i)(h:i<n)(k:IntKind):jk (jgI n s (.ptr b 0) (.int k i) st) K=K (.ptr b (i.toNat * s)) st:=by
 have e1:QcC (QcB i.toNat) n=true:=qo om;have e2:QcD 0 (QcE i.toNat s)=i.toNat * s:=Qaj _;simp only[jgI,ya,jeP h0,e1,e2,cond_true,jF,jk]
theorem jhR {st:St}{K:AV->St->Prop}{l:Lc}{i:Int}(h0:0<=i)(h:i<=l.length)(k:IntKind):jk (Jz (.str l) (some (.int k i)) none st) K=K (.str (l.drop i.toNat)) st:=by
 obtain⟨m,rfl⟩:=QbC h0;exact jub om k
theorem jhQ {st:St}{K:AV->St->Prop}{l:Lc}{i:Int}(h0:0<=i)(h:i<=l.length)(k:IntKind):jk (Jz (.str l) none (some (.int k i)) st) K=K (.str (l.take i.toNat)) st:=by
 obtain⟨m,rfl⟩:=QbC h0;exact jua om k
theorem jhP {st:St}{K:AV->St->Prop}{l:Lc}{i j:Int}(h0:0<=i)(h1:i<=j)(h:j<=l.length)(k k':IntKind):jk (Jz (.str l) (some (.int k i)) (some (.int k' j)) st) K=K (.str ((l.drop i.toNat).take (j - i).toNat)) st:=by
 obtain⟨m,rfl⟩:=QbC h0;obtain⟨n,rfl⟩:=QbC (show 0<=j by omega);rw[jt9 om om]
 congr 3
 omega
theorem jf5 {f:FuncId}{xs:List AV}{st s:St}{v:AV}(h:∀ K Kp,K v s->XB P base f xs st K Kp)(K Kp:AV->St->Prop):XB P base f xs st K Kp=K v s:=by
 refine propext ⟨λ⟨r2,⟨N2,D2,h2⟩,h3⟩=>?_,h K Kp⟩;obtain⟨r,⟨N,D,h1⟩,h4⟩:=h (λv' s'=>v'=v/\s'=s) (λ_ _=>False) ⟨rfl,rfl⟩;have e1:=h1 (max N N2) (Qao ..) (max D D2) (Qao ..);have e2:=h2 (max N N2) (Qap ..) (max D D2) (Qap ..);rw[e1] at e2;subst e2;cases r with
 |no=>exact h4.elim
 |pn v s=>exact h4.elim
 |ok v' s'=>
  obtain⟨rfl,rfl⟩:=h4;exact h3
theorem jfr (st:St):bk st st.bare=st:=nr rfl
theorem jdR (st:St):back st st.bare=st:=nr rfl
def fi {α:Type}(q:α->Bool):List α->Int
 |[]=>-1
 |x :: xs=>if q x=true then 0 else if fi q xs<0 then -1 else fi q xs+1
theorem Vv {α:Type}{q:α->Bool}:∀ {xs:List α} {k:Nat} (h:k<xs.length),(∀ j (hj:j<k),q (xs[j]'(om))=false)->q xs[k]=true->fi q xs=k
 |x :: xs,0,h,h0,hk=>by simp only[Qbv] at hk;simp[fi,hk]
 |x :: xs,k+1,h,h0,hk=>by
  have:=Vv (xs:=xs) (k:=k) (by simpa using h) (λj hj=>by have:=h0 (j+1) om;simpa only[QbN] using this) (by simpa only[QbN] using hk);have h1:=h0 0 om;simp only[Qbv] at h1;simp only[fi,h1,this];simp;omega
theorem Vu {α:Type}{q:α->Bool}:∀ {xs:List α},(∀ j (hj:j<xs.length),q xs[j]=false)->fi q xs=-1
 |[],_=>rfl
 |x :: xs,h=>by
  have h1:=h 0 hac;simp only[Qbv] at h1;have:=Vu (xs:=xs) λj hj=>by have:=h (j+1) (by simpa using hj);simpa only[QbN] using this
  simp[fi,h1,this]
theorem Cl.cv {s:St}{b:Nat}{c c':List AV}(h:Cl s b c)(e:c=c'):Cl s b c':=e▸h
theorem jA {s:St}{b c o:Nat}{vs cs:List AV}(h:c≠b):Cl (wr s b o vs) c cs=Cl s c cs:=
 propext ⟨λC=>⟨C.lt,Jo (qW h).symm C.row,(yo (qW h).symm).trans C.len,λi hi=>(yx (qW h).symm i).trans (C.cell i hi)⟩,λC=>C.wrO h o vs⟩
theorem jE {s:St}{c:Nat}{ds cs:List AV}(h:c<s.nx):Cl (nw s ds) c cs=Cl s c cs:=
 propext ⟨λC=>⟨h,Jo (qp (QaD h)).symm C.row,(yo (qp (QaD h)).symm).trans C.len,λi hi=>(yx (qp (QaD h)).symm i).trans (C.cell i hi)⟩,λC=>C.nw ds⟩
theorem jz {s:St}{c:Nat}{cs:List AV}:Cl s.bare c cs=Cl s c cs:=propext ⟨λh=>⟨h.lt,h.row,h.len,h.cell⟩,λh=>⟨h.lt,h.row,h.len,h.cell⟩⟩
end
theorem gq {a b:List AV}(h:a=b)(k:Nat):a.getD k .bad=b.getD k .bad:=by rw[h]
theorem gd {a b:List AV}(h:a=b)(k:Nat):a.drop k=b.drop k:=by rw[h]
abbrev FR {α:Type}(enc:α->List AV)(z:Nat):Prop:=(∀ {st:St} {K:AV->St->Prop} {xs:List α} {i:Nat} (h:i<xs.length),jk (QV z (.lptr (fl enc xs) (i * z)) st) K=K (.agg (enc xs[i])) st)/\(∀ {st:St} {K:AV->St->Prop} {xs:List α} {i:Nat} (h:i<xs.length),jk (XW (.lptr (fl enc xs) (i * z)) st) K=K ((enc xs[i]).getD 0 .bad) st)/\∀ {st:St} {K:AV->St->Prop} {xs:List α} {i:Nat} (h:i<xs.length) {k:Nat} (hk:k<z),jk (XW (.lptr (fl enc xs) (i * z+k)) st) K=K ((enc xs[i]).getD k .bad) st
theorem frE {α:Type}{enc:α->List AV}{z:Nat}(hl:∀ x,(enc x).length=z)(hz:0<z:=by decide):FR enc z:=⟨λh=>jbd hl h,λh=>jco (k:=0) hl h hz,λh _ hk=>jco hl h hk⟩
def Lv (lo hi:Nat)(s:St)(v:AV)(n:Nat)(cs:List AV)(z:Nat):Prop:=(v=.nils/\n=0/\cs=[])\/∃ b,v=.slice b 0 n n z false/\0<n/\cs.length=n * z/\Cl s b cs/\lo<=b/\b<hi
def aps (v:AV)(s:St)(news:List AV):St:=match v with | .slice b _ _ _ _ _=>ap s b news|_=>nw s news
def apv (z:Nat)(v:AV)(s:St):AV:=match v with | .slice _ _ n _ _ _=>.slice s.nx 0 (n+1) (n+1) z false|_=>.slice s.nx 0 1 1 z false
section
variable {lo hi n z:Nat} {s:St} {v:AV} {cs:List AV}
theorem Lv.nil:Lv lo hi s .nils 0 [] z:=.inl ⟨rfl,rfl,rfl⟩
theorem jD {b o:Nat}{vs:List AV}(h:b<lo\/hi<=b):Lv lo hi (wr s b o vs) v n cs z=Lv lo hi s v n cs z:=by
 unfold Lv;refine propext ⟨λk=>k.imp id λ⟨c,h1,h2,h3,h4,h5,h6⟩=>⟨c,h1,h2,h3,?_,h5,h6⟩,λk=>k.imp id λ⟨c,h1,h2,h3,h4,h5,h6⟩=>⟨c,h1,h2,h3,?_,h5,h6⟩⟩
 .rwa [jA om] at h4
 .rwa [jA om]
theorem jG {ds:List AV}(h:hi<=s.nx):Lv lo hi (nw s ds) v n cs z=Lv lo hi s v n cs z:=by
 unfold Lv;refine propext ⟨λk=>k.imp id λ⟨c,h1,h2,h3,h4,h5,h6⟩=>⟨c,h1,h2,h3,?_,h5,h6⟩,λk=>k.imp id λ⟨c,h1,h2,h3,h4,h5,h6⟩=>⟨c,h1,h2,h3,?_,h5,h6⟩⟩
 .rwa [jE om] at h4
 .rwa [jE om]
theorem jH:Lv lo hi s.bare v n cs z=Lv lo hi s v n cs z:=by unfold Lv;simp only[jz]
theorem Lv.up {hi':Nat}(h:Lv lo hi s v n cs z)(h2:hi<=hi'):Lv lo hi' s v n cs z:=h.imp id λ⟨c,h1,h2,h3,h4,h5,h6⟩=>⟨c,h1,h2,h3,h4,h5,om⟩
theorem jm (v:AV)(s:St)(news:List AV):(aps v s news).nx=s.nx+1:=by unfold aps;split<;>rfl
theorem QM (v:AV)(s:St)(news:List AV):(aps v s news).fr=s.fr:=by unfold aps;split<;>rfl
theorem Lv.app {news:List AV}(h:Lv lo hi s v n cs z)(hl:news.length=z)(h1:lo<=s.nx):Lv lo (s.nx+1) (aps v s news) (apv z v s) (n+1) (cs ++ news) z:=by
 rcases h with ⟨rfl,rfl,rfl⟩|⟨b,rfl,h2,h3,h4,h5,h6⟩
 .exact .inr ⟨s.nx,rfl,om,by simp[hl],Cl.new s news,h1,om⟩
 .exact .inr ⟨s.nx,rfl,om,by rw[υ,h3,hl,QaX],h4.ap news,h1,om⟩
theorem Cl.apO {s:St}{b c:Nat}{cs vs:List AV}(h:Cl s c cs)(hb:c≠b):Cl (Go.Sy.ap s b vs) c cs:=
 have e:jv (Go.Sy.ap s b vs).h c=jv s.h c:=HC (QaD h.lt) hb
 ⟨Qct h.lt,Jo e h.row,(yo e).trans h.len,λi hi=>(yx e i).trans (h.cell i hi)⟩
theorem Cl.aps {c:Nat}{ds news:List AV}(C:Cl s c ds)(h:Lv lo hi s v n cs z)(hc:c<lo\/hi<=c):Cl (Go.Sy.aps v s news) c ds:=by
 rcases h with ⟨rfl,rfl,rfl⟩|⟨b,rfl,h2,h3,h4,h5,h6⟩
 .exact C.nw news
 .exact C.apO (b:=b) om
theorem Lv.aps {lo' hi' n' z':Nat}{v':AV}{cs' news:List AV}(V:Lv lo' hi' s v' n' cs' z')(h:Lv lo hi s v n cs z)(hc:hi'<=lo\/hi<=lo'):Lv lo' hi' (Go.Sy.aps v s news) v' n' cs' z':=
 V.imp id λ⟨c,h1,h2,h3,h4,h5,h6⟩=>⟨c,h1,h2,h3,h4.aps h om,h5,h6⟩
theorem Lv.fz {m d:Nat}(h:Lv lo hi s v n cs z)(hm:m<=lo)(hp:cs.all pc=true):FzD m (d+2) s v (.lst n cs):=by
 rcases h with ⟨rfl,rfl,rfl⟩|⟨b,rfl,h2,h3,h4,h5,h6⟩
 .exact FzD.nils
 .refine FzD.slice h4.rw_ (QaY h3.symm) om ?_;rw[<-h3,Qak];exact FzsD.pc hp
variable {K:AV->St->Prop}
theorem Jt {bytes bv xc:Nat}{xx:Bool}(h:Lv lo hi s v n cs z)(hz:0<z)(hby:(n+1) * bytes<=140737488355328)(h63:n+1<=9223372036854775807)(hv:z<=jV s.h bv) :
  jk (JG z bytes v (.slice bv 0 1 xc z xx) s) K=K (apv z v s) (aps v s (rats s.h bv 0 z)):=by
 obtain⟨m,zl,zz,ks,hg⟩:=Xi (h:=s.h) (b:=bv) om;rw[yV hg] at hv;have e0:QcE 1 z=z:=Nat.one_mul z;have e1:QcC (QcD 0 z) m=true:=qo (by show 0+z<=m;omega);have er:jR zl zz ks z 0=rats s.h bv 0 z:=by
  rw[QP,qm];exact QaR λi _=>by rw[J8 hg]
 have el:(rats s.h bv 0 z).length=z:=Qw _ _ _ _;have e3:QcA (jP (rats s.h bv 0 z)) z=true:=XT (by rw[jO,el]);rcases h with ⟨rfl,rfl,rfl⟩|⟨b,rfl,h2,h3,h4,h5,h6⟩
 .have e4:QcA 1 0=false:=rfl;have e5:QcC (QcE 1 bytes) 140737488355328=true:=qo (by show 1 * bytes<=_;omega);have e6:QcC 1 9223372036854775807=true:=qo dc;simp only[JG,JJ,firstCells,hg,yg,jF,e0,e1,cond_true,er,qO,e3,e4,cond_false,e5,e6,St.alloc_eq,jk];unfold apv Go.Sy.aps nw;rw[el]
 .obtain⟨m',zl',zz',ks',hg'⟩:=h4.row;have h4l:=h4.len;rw[yV hg'] at h4l;have e4:QcC (QcD n 1) n=false:=jbO (QaW _);have e5:QcC (QcE (QcD n 1) bytes) 140737488355328=true:=qo hby;have e6:QcC (QcD n 1) 9223372036854775807=true:=qo h63;have e7:QcA z z=true:=XT rfl;have e8:QcA 0 0=true:=rfl;have e9:QcA (QcE n z) m'=true:=XT (by rw[h4l,h3];rfl);simp only[JG,JJ,firstCells,hg,yg,jF,e0,e1,cond_true,er,qO,e3,hg',e4,cond_false,e5,e6,e7,e8,e9,St.put_eq,St.alloc_eq,jk];have e10:QcE (QcD n 1) z=m'+(rats s.h bv 0 z).length:=by rw[el,h4l,h3];exact QaX n z
  rw[e10];have ea:ap s b (rats s.h bv 0 z)=⟨s.nx+1,(j2 (jK s.nx)).run (.row (m'+(rats s.h bv 0 z).length) zl' zz' (qk (rats s.h bv 0 z) ks' m')) ((j2 (jK b)).run .dead s.h),min s.dirty b,s.fr⟩:=by
   unfold ap apO;rw[hg']
  show _=K (.slice s.nx 0 (n+1) (n+1) z false) (ap s b (rats s.h bv 0 z));rw[ea]
theorem Lv.get (h:Lv lo hi s v n cs z)(st:St)(news:List AV)(c:Nat)(hc:c<lo\/hi<=c)(hn:c<st.nx):jv (Go.Sy.aps v st news).h c=jv st.h c:=by
 rcases h with ⟨rfl,rfl,rfl⟩|⟨b,rfl,h2,h3,h4,h5,h6⟩
 .exact qp (QaD hn)
 .exact HC (QaD hn) om
theorem Lv.at (h:Lv lo hi s v n cs z)(st:St)(news:List AV)(c i:Nat)(hc:c<lo\/hi<=c)(hn:c<st.nx):rat (Go.Sy.aps v st news).h c i=rat st.h c i:=yx (h.get st news c hc hn) i
theorem Lv.ln (h:Lv lo hi s v n cs z)(st:St)(news:List AV)(c:Nat)(hc:c<lo\/hi<=c)(hn:c<st.nx):jV (Go.Sy.aps v st news).h c=jV st.h c:=yo (h.get st news c hc hn)
theorem Lv.rts (h:Lv lo hi s v n cs z)(st:St)(news:List AV)(c o k:Nat)(hc:c<lo\/hi<=c)(hn:c<st.nx):rats (Go.Sy.aps v st news).h c o k=rats st.h c o k:=Z3 (h.get st news c hc hn) k o
theorem Lv.cl (h:Lv lo hi s v n cs z)(st:St)(news ds:List AV)(c:Nat)(hc:c<lo\/hi<=c)(hn:c<st.nx):Cl (Go.Sy.aps v st news) c ds=Cl st c ds:=
 propext ⟨λC=>have e:=h.get st news c hc hn;⟨hn,Jo e.symm C.row,(yo e.symm).trans C.len,λi hi=>(yx e.symm i).trans (C.cell i hi)⟩,λC=>have e:=h.get st news c hc hn;⟨by rw[jm];exact Qct hn,Jo e C.row,(yo e).trans C.len,λi hi=>(yx e i).trans (C.cell i hi)⟩⟩
theorem Lv.put {news:List AV}(h:Lv lo hi s v n cs z)(hl:news.length=z)(h1:lo<=s.nx){m:Nat}(hm:m=s.nx+1):Lv lo m (Go.Sy.aps v s news) (apv z v s) (n+1) (cs ++ news) z:=by rw[hm];exact h.app hl h1
end
def kl (b:Nat)(s:St):St:=kills [b] s
section
variable {lo hi n z b c:Nat} {s:St} {v:AV} {cs:List AV}
theorem ju (b:Nat)(s:St):(kl b s).nx=s.nx:=nr rfl
theorem jbH (b:Nat)(s:St):(kl b s).fr=s.fr:=nr rfl
theorem vX (h:c≠b):jv (kl b s).h c=jv s.h c:=by
 show jv ((j2 (jK b)).run .dead s.h) c=_;rw[jW,if_neg h]
theorem jbR {i:Nat}(h:c≠b):rat (kl b s).h c i=rat s.h c i:=yx (vX h) i
theorem Wt (h:c≠b):jV (kl b s).h c=jV s.h c:=yo (vX h)
theorem vr {o k:Nat}(h:c≠b):rats (kl b s).h c o k=rats s.h c o k:=Z3 (vX h) _ _
theorem jT (h:c≠b):Cl (kl b s) c cs=Cl s c cs:=
 propext ⟨λC=>have e:=vX (s:=s) h;⟨C.lt,Jo e.symm C.row,(yo e.symm).trans C.len,λi hi=>(yx e.symm i).trans (C.cell i hi)⟩,λC=>have e:=vX (s:=s) h;⟨C.lt,Jo e C.row,(yo e).trans C.len,λi hi=>(yx e i).trans (C.cell i hi)⟩⟩
theorem jJ (h:b<lo\/hi<=b):Lv lo hi (kl b s) v n cs z=Lv lo hi s v n cs z:=by
 unfold Lv;refine propext ⟨λk=>k.imp id λ⟨c,h1,h2,h3,h4,h5,h6⟩=>⟨c,h1,h2,h3,?_,h5,h6⟩,λk=>k.imp id λ⟨c,h1,h2,h3,h4,h5,h6⟩=>⟨c,h1,h2,h3,?_,h5,h6⟩⟩
 .rwa [jT om] at h4
 .rwa [jT om]
theorem J4 (h0:0<cs.length)(h1:b<s.nx)(h2:jV s.h b=cs.length)(h3:rats s.h b 0 cs.length=cs):Cl s b cs:=Cl.of_rats h1 h2 rfl h0 h3
def df (x:FuncId×List AV)(s:St):St:=⟨s.nx,s.h,s.dirty,x :: s.fr⟩
theorem uD (x:FuncId×List AV)(s:St):(df x s).nx=s.nx:=nr rfl
theorem HB (x:FuncId×List AV)(s:St):(df x s).h=s.h:=nr rfl
theorem jbI (x:FuncId×List AV)(s:St):(df x s).fr=x :: s.fr:=nr rfl
theorem jbM {x:FuncId×List AV}:Cl (df x s) c cs=Cl s c cs:=propext ⟨λh=>⟨h.lt,h.row,h.len,h.cell⟩,λh=>⟨h.lt,h.row,h.len,h.cell⟩⟩
theorem Ya (f:FuncId)(caps vs:List AV){K:AV->St->Prop}:UC (.fn f caps) vs s K=K qe (df (f,vs ++ caps) s):=nr rfl
theorem jjm:st0.fr=[]:=nr rfl
theorem jdj {m k:Nat}{x:Bool}{d:Nat}(C:Cl s b cs)(hl:n * z=cs.length)(hp:cs.all pc=true):fz (d+2) s.h (.slice b 0 n m z x)=some (.lst n cs,[b]):=by
 obtain⟨q,zl,zz,ct,h1,h2,h3⟩:=C.rw_.len;show(match jv s.h b with
  |some (.row n' zl z' cs)=>cond (QcC (QcD 0 (QcE n z)) n') ((fzs (fz (d+1) s.h) (jR zl z' cs (QcE n z) 0)).map λ(p:List AV×Lc)=>(AV.lst n p.1,b :: p.2)) none
  |_=>none)=_
 rw[h1];dsimp only;have e1:QcC (QcD 0 (QcE n z)) q=true:=by rw[qi];show 0+n * z<=q;omega
 have e2:jR zl zz ct (QcE n z) 0=cs:=by
  rw[show QcE n z=q by show n * z=q;omega];exact h2
 rw[e1,e2,Un hp];rfl
def Fza (s:St)(aZ' aZ:List AV)(ks:Lc):Prop:=fzs (fz 9 s.h) aZ'=some (aZ,ks)
theorem Fza.nil:Fza s [] [] []:=rfl
theorem Fza.pa {aZ' aZ:List AV}{ks:Lc}(hv:pa v=true)(h:Fza s aZ' aZ ks):Fza s (v :: aZ') (v :: aZ) ks:=by
 unfold Fza at *;simp only[fzs];rw[jbG (d:=7) hv,h];rfl
theorem Fza.sl {aZ' aZ:List AV}{ks:Lc}{m:Nat}{x:Bool}(C:Cl s b cs)(hl:n * z=cs.length)(hp:cs.all pc=true)(h:Fza s aZ' aZ ks):Fza s (.slice b 0 n m z x :: aZ') (.lst n cs :: aZ) (b :: ks):=by
 unfold Fza at *;simp only[fzs];rw[jdj (d:=7) (k:=0) C hl hp,h];rfl
variable {P:Program} {base:Bs}
theorem W5 {f:FuncId}{F:XF}(hl:jx P f=some F)(hm:base.pur f=1){aZ:List AV}{o:Oc}
 (h:xC P base F.body (jj F.ps aZ) st0 (UA P base F.res (XP G0 o) (Xy G0 o)) (vO P base F.res (XP G0 o) (Xy G0 o))):PX P base f aZ o:=PX.of hm (jdO hl h)
theorem PX.xf {f:FuncId}{aZ aZ':List AV}{ks:Lc}{o:Oc}(h:PX P base f aZ o){st:St}(hf:Fza st aZ' aZ ks)(hb:∀ st,base.run f aZ' st=.no)(K Kp:AV->St->Prop):XB P base f aZ' st K Kp=Ys o K Kp (kills ks st):=h.cxk hf hb K Kp
end
end Go.Sy
end
noncomputable section
namespace Go.Sy
open Go.Ev
theorem Cl.q {s:St}{b:Nat}{cs:List AV}(h:Cl s b cs):type_of% (aI h.len (aI h.cell h.ratsP)):=aI h.len (aI h.cell h.ratsP)
theorem Cl.r {s:St}{b:Nat}{cs:List AV}(h:Cl s b cs):type_of% (aI h.len h.ratsP):=aI h.len h.ratsP
theorem rzA:type_of% (a8 (@je5) (@jb6) (@ja9) (@jhG) (@jhE) (@ja8) (@UR) (a8 (@jb8) (@jnc) (@jcb) (@jba) (@UQ) (@jel) (@jhH) (a8 (@jcd) (@jcc) (@jhF) (@jca) (@jb9) (@jej) (@x_i) (a8 (@jhI) (@jnd) (@jek) (@jb5) (@jb4) (@jhD) (@vt) (a8 (@U5) (@jeH) (@jae) (@jac) (@Uc) (@jad) (@jr2) (a8 (@jgp) (@jgn) (@jix) (@jgo) (@jiy) (@jeJ) (@Hn) (a8 (@U6) (@jnI) (@jnH) (@jeK) (@jeL) (@jiw) (@jiv) (a8 (@jiC) (@jiB) (@jiA) (@jiz) (@ja0) (@ja1) (@ja2) (aI (@jft) (@jfs)))))))))):=a8 (@je5) (@jb6) (@ja9) (@jhG) (@jhE) (@ja8) (@UR) (a8 (@jb8) (@jnc) (@jcb) (@jba) (@UQ) (@jel) (@jhH) (a8 (@jcd) (@jcc) (@jhF) (@jca) (@jb9) (@jej) (@x_i) (a8 (@jhI) (@jnd) (@jek) (@jb5) (@jb4) (@jhD) (@vt) (a8 (@U5) (@jeH) (@jae) (@jac) (@Uc) (@jad) (@jr2) (a8 (@jgp) (@jgn) (@jix) (@jgo) (@jiy) (@jeJ) (@Hn) (a8 (@U6) (@jnI) (@jnH) (@jeK) (@jeL) (@jiw) (@jiv) (a8 (@jiC) (@jiB) (@jiA) (@jiz) (@ja0) (@ja1) (@ja2) (aI (@jft) (@jfs)))))))))
theorem rzB:type_of% (a8 (@jfr) (@jdR) (@jr4) (@jr3) (@jlZ) (@jmo) (@ji5) (a8 (@jn1) (@jnW) (@jnV) (@jsv) (@ji6) (@jbD) (@jnT) (a8 (@ji0) (@jsu) (@jn0) (@jnY) (@jjd) (@jjc) (@jjb) (a8 (@jja) (@ji9) (@je3) (@jnZ) (@jnU) (@ji8) (@jdh) (a8 (@jdg) (@jdf) (@ji3) (@ji2) (@ji1) (@jdi) (@jaF) (a8 (@jnX) (@je4) (@jn2) (@jeq) (@jje) (@ji4) (@jgK) (a8 (@jn3) (@jro) (@jnn) (@jgc) (@jns) (@jnp) (@jnt) (a8 (@jnv) (@jno) (@jeo) (@jcj) (@jck) (@jh6) (@jhM) (aI (@jhV) (@jhU)))))))))):=a8 (@jfr) (@jdR) (@jr4) (@jr3) (@jlZ) (@jmo) (@ji5) (a8 (@jn1) (@jnW) (@jnV) (@jsv) (@ji6) (@jbD) (@jnT) (a8 (@ji0) (@jsu) (@jn0) (@jnY) (@jjd) (@jjc) (@jjb) (a8 (@jja) (@ji9) (@je3) (@jnZ) (@jnU) (@ji8) (@jdh) (a8 (@jdg) (@jdf) (@ji3) (@ji2) (@ji1) (@jdi) (@jaF) (a8 (@jnX) (@je4) (@jn2) (@jeq) (@jje) (@ji4) (@jgK) (a8 (@jn3) (@jro) (@jnn) (@jgc) (@jns) (@jnp) (@jnt) (a8 (@jnv) (@jno) (@jeo) (@jcj) (@jck) (@jh6) (@jhM) (aI (@jhV) (@jhU)))))))))
theorem rzC:type_of% (a8 (@jhY) (@jhX) (@jhZ) (@jgd) (@jcn) (@gb) (@jcp) (a8 (@jh0) (@jnr) (@jh2) (@jep) (@jhT) (@jnu) (@jh1) (a8 (@jes) (@jh4) (@jh3) (@jnq) (@jhS) (@jer) (@jhR) (a8 (@jhQ) (@jhP) (@jfq) (@jth) (@jti) (@jjO) (@Gh) (a8 (@Gi) (@wG) (@jgv) (@jjD) (@jiG) (@jhv) (@jof) (a8 (@jtw) (@jhw) (@Zp) (@Zo) (@YD) (@Zn) (@Zh) (a8 (@Zm) (@jbR) (@Wt) (@vr) (@uD) (@HB) (@jbI) (a8 (@jbH) (@QM) (@jm) (@ju) (@Zg) (@YQ) (@ZE) (aI (@wy) (@wx)))))))))):=a8 (@jhY) (@jhX) (@jhZ) (@jgd) (@jcn) (@gb) (@jcp) (a8 (@jh0) (@jnr) (@jh2) (@jep) (@jhT) (@jnu) (@jh1) (a8 (@jes) (@jh4) (@jh3) (@jnq) (@jhS) (@jer) (@jhR) (a8 (@jhQ) (@jhP) (@jfq) (@jth) (@jti) (@jjO) (@Gh) (a8 (@Gi) (@wG) (@jgv) (@jjD) (@jiG) (@jhv) (@jof) (a8 (@jtw) (@jhw) (@Zp) (@Zo) (@YD) (@Zn) (@Zh) (a8 (@Zm) (@jbR) (@Wt) (@vr) (@uD) (@HB) (@jbI) (a8 (@jbH) (@QM) (@jm) (@ju) (@Zg) (@YQ) (@ZE) (aI (@wy) (@wx)))))))))
theorem rzD:type_of% (a8 (@jf) (@ji) (@jm) (@jl) (@Ww) (@vu) (@XE) (a8 (@Xg) (@GO) (@uk) (@kU) (@GL) (@GN) (@wb) (a8 (@YI) (@uU) (@uQ) (@wZ) (@ZW) (@wY) (@uS) (a8 (@uT) (@jdZ) (@jdY) (@jmO) (@jhx) (@jbS) (@gE) (a8 (@U4) (@jnG) (@jnF) (@ZT) (@uL) (@je9) (@q6) (a8 (@jiu) (@jeI) (@h_0) (@h_1) (@jsz) (@jsy) (@jsB) (a8 (@jsA) (@jsj) (@jsi) (@jrH) (@jrG) (@jrF) (@jrl) (a8 (@jrj) (@jnh) (@jrk) (@jni) (@jiq) (@Hd) (@Hb) (aI (@HM) (@jsW)))))))))):=a8 (@jf) (@ji) (@jm) (@jl) (@Ww) (@vu) (@XE) (a8 (@Xg) (@GO) (@uk) (@kU) (@GL) (@GN) (@wb) (a8 (@YI) (@uU) (@uQ) (@wZ) (@ZW) (@wY) (@uS) (a8 (@uT) (@jdZ) (@jdY) (@jmO) (@jhx) (@jbS) (@gE) (a8 (@U4) (@jnG) (@jnF) (@ZT) (@uL) (@je9) (@q6) (a8 (@jiu) (@jeI) (@h_0) (@h_1) (@jsz) (@jsy) (@jsB) (a8 (@jsA) (@jsj) (@jsi) (@jrH) (@jrG) (@jrF) (@jrl) (a8 (@jrj) (@jnh) (@jrk) (@jni) (@jiq) (@Hd) (@Hb) (aI (@HM) (@jsW)))))))))
theorem rzL:type_of% (a8 (@uD) (@HB) (@jf) (@ji) (@jm) (@ju) (@jl) (a8 (@Ww) (@q6) (@Wt) (@vu) (@XE) (@Xg) (@Zp) (a8 (@Zo) (@YD) (@Zn) (@Zh) (@Zm) (@vr) (@Zg) (a4 (@YQ) (@ZE) (@wy) (a4 (@wx) (@HM) (@Hb) (@Hd)))))):=a8 (@uD) (@HB) (@jf) (@ji) (@jm) (@ju) (@jl) (a8 (@Ww) (@q6) (@Wt) (@vu) (@XE) (@Xg) (@Zp) (a8 (@Zo) (@YD) (@Zn) (@Zh) (@Zm) (@vr) (@Zg) (a4 (@YQ) (@ZE) (@wy) (a4 (@wx) (@HM) (@Hb) (@Hd)))))
theorem rzN:type_of% (a8 (@jf) (@ji) (@jm) (@ju) (@jl) (@q6) (@uD) (a4 (@ZT) (@uL) (@jbI) (aI (@jbH) (aI (@QM) (@jjm))))):=a8 (@jf) (@ji) (@jm) (@ju) (@jl) (@q6) (@uD) (a4 (@ZT) (@uL) (@jbI) (aI (@jbH) (aI (@QM) (@jjm))))
theorem rzG:type_of% (a8 (@uD) (@HB) (@Zp) (@Zo) (@YD) (@Zn) (@Zh) (a8 (@Zm) (@vr) (@HM) (@Hb) (@Hd) (@GO) (@uk) (a8 (@kU) (@GL) (@GN) (@wb) (@jbR) (@jf) (@ji) (a8 (@jm) (@ju) (@Wt) (@jl) (@Ww) (@q6) (@vu) (a8 (@XE) (@Xg) (@YI) (@uU) (@uQ) (@wZ) (@ZW) (a8 (@wY) (@uS) (@uT) (@jda) (@jc6) (@jaB) (@hZ) (a8 (@jaA) (@jc7) (@jc9) (@jc8) (@jaj) (@jag) (@gH) (a8 (@Ka) (@gG) (@jah) (@jai) (@jak) (@gE) (@U4) (a4 (@ZE) (@wy) (@YQ) (@wx)))))))))):=a8 (@uD) (@HB) (@Zp) (@Zo) (@YD) (@Zn) (@Zh) (a8 (@Zm) (@vr) (@HM) (@Hb) (@Hd) (@GO) (@uk) (a8 (@kU) (@GL) (@GN) (@wb) (@jbR) (@jf) (@ji) (a8 (@jm) (@ju) (@Wt) (@jl) (@Ww) (@q6) (@vu) (a8 (@XE) (@Xg) (@YI) (@uU) (@uQ) (@wZ) (@ZW) (a8 (@wY) (@uS) (@uT) (@jda) (@jc6) (@jaB) (@hZ) (a8 (@jaA) (@jc7) (@jc9) (@jc8) (@jaj) (@jag) (@gH) (a8 (@Ka) (@gG) (@jah) (@jai) (@jak) (@gE) (@U4) (a4 (@ZE) (@wy) (@YQ) (@wx)))))))))
theorem rzP:type_of% (a8 (@Qaj) (@Qbq) (@Qaz) (@QaV) (@Nat.one_mul) (@Qck) (@Int.toNat_zero) (a8 (@Int.toNat_one) (@true_and) (@and_true) (@and_self) (@Bool.not_true) (@Bool.not_false) (@QaO) (a4 (@QaP) (@decide_eq_true_eq) (@decide_eq_false_iff_not) (aI (@Nat.beq_eq) (@not_false_eq_true))))):=a8 (@Qaj) (@Qbq) (@Qaz) (@QaV) (@Nat.one_mul) (@Qck) (@Int.toNat_zero) (a8 (@Int.toNat_one) (@true_and) (@and_true) (@and_self) (@Bool.not_true) (@Bool.not_false) (@QaO) (a4 (@QaP) (@decide_eq_true_eq) (@decide_eq_false_iff_not) (aI (@Nat.beq_eq) (@not_false_eq_true))))
theorem rzQ:type_of% (a8 (@eq_self.{1}) (@κ.{0}) (@μ.{0}) (@τ.{0}) (@φ.{0}) (@Qai.{0}) (@Qam.{0}) (a4 (@QaU.{0}) (@cond_true.{1}) (@cond_false.{1}) (@ne_eq.{1}))):=a8 (@eq_self.{1}) (@κ.{0}) (@μ.{0}) (@τ.{0}) (@φ.{0}) (@Qai.{0}) (@Qam.{0}) (a4 (@QaU.{0}) (@cond_true.{1}) (@cond_false.{1}) (@ne_eq.{1}))
theorem rzZ:type_of% (a4 (@rzA) (@rzB) (@rzC) (aI (@rzD) (aI (@rzP) (@rzQ)))):=a4 (@rzA) (@rzB) (@rzC) (aI (@rzD) (aI (@rzP) (@rzQ)))
instance iA (n:Nat):OfNat A n:=⟨.t n⟩
theorem nA (n:Nat):(@OfNat.ofNat A n (iA n))=A.t (@OfNat.ofNat Nat n _):=rfl
def oe(a:Nat)(b:Bool)(c:Option (Nat×Bool))(d:XK):XS:=⟨some a,b,c,d⟩
def oi(a:Nat)(b:Bool)(c:Option (Nat×Bool))(d:Ins):XS:=oe a b c (.i d)
def oj(a:Nat)(b:Bool)(c:Ins):XS:=oi a b none c
def ol(a:Nat)(b:Ins):XS:=oj a false b
def ou(a:List XS)(b:XC):XC:=.seq (.ops a) b
def ov(a:Int):AV:=.int .i64 a
def ow(a:Nat)(b:Ins):XS:=oj a true b
def oy(a:Nat)(b:A):XS:=ol a (.mv b)
def oz(a:Nat)(b:A):XS:=ow a (.mv b)
def oB:AV:=ov 0
def oD(a:Nat)(b:Nat)(c:A):XS:=ol a (.fad b c)
def oE(a:Nat)(b:Bool)(c:Option (Nat×Bool))(d:A)(e:List A):XS:=oe a b c (.call d e)
def oF(a:Nat)(b:A):XS:=ol a (.ld1 b)
def oH(a:BinOp)(b:A)(c:AV):Ins:=.bin a b (.c c)
def oI(a:Nat)(b:Bool)(c:Nat×Bool)(d:Ins):XS:=oi a b (some c) d
def oJ:AV:=.str []
def oK(a:Nat)(b:AV):XS:=oz a (.c b)
def oL(a:XS)(b:Nat)(c:List (Nat×Nat)):XD:=⟨a,none,b,c⟩
def oM(a:List XS)(b:A)(c:XC)(d:XC):XC:=ou a (.cond b c d)
def oQ(a:Nat)(b:List AV):A:=.c (.fn a b)
def oR(a:Nat)(b:Nat×Bool)(c:Ins):XS:=oI a false b c
def oS(a:Nat)(b:Option (Nat×Bool))(c:A)(d:List A):XS:=oE a false b c d
def oU(a:Option Nat)(b:Option (Nat×Bool))(c:XK):XS:=⟨a,false,b,c⟩
def oV(a:XS)(b:Option A)(c:Nat)(d:List (Nat×Nat)):XD:=⟨a,some b,c,d⟩
def oW:AV:=.bool false
def oX(a:List XS)(b:XC)(c:XC):XC:=ou a (.seq b c)
def oY(a:Nat)(b:Option (Nat×Bool))(c:Nat)(d:List AV)(e:List A):XS:=oS a b (oQ c d) e
def oZ(a:Nat)(b:Nat)(c:List AV)(d:List A):XS:=oY a none b c d
def o0(a:Nat)(b:A)(c:A):XK:=.i (.st a b c)
def o3(a:List XS):XC:=ou a .ret
def o4(a:Lc):A:=.c (.str a)
def o5(a:Option (Nat×Bool))(b:XK):XS:=oU none a b
def o6(a:XK):XS:=o5 none a
def o7(a:Nat)(b:Nat)(c:A):XS:=ol a (.ldA b c)
def o8(a:BinOp)(b:A)(c:Int):Ins:=oH a b (ov c)
def o9(a:Nat)(b:A)(c:A):XS:=o6 (o0 a b c)
def Ia(a:Nat)(b:A)(c:Nat):XS:=ol a (.ext b c)
def Ib(a:Nat)(b:List AV):XS:=ow a (.alloc b)
def Ic(a:XS)(b:Nat):XD:=oL a b []
def Id(a:List XS)(b:A)(c:XC):XC:=oM a b c .skip
def Ie(a:Nat)(b:XC):XC:=.block a (.loop b)
def Ig(a:Nat)(b:Nat)(c:List A):XS:=oZ a b [] c
def Ih(a:Nat)(b:Nat)(c:A)(d:A):XS:=ol a (.idxS b c d)
def Ii(a:Nat)(b:BinOp)(c:A)(d:Int):XS:=ol a (o8 b c d)
def Ij(a:XS)(b:A)(c:Nat)(d:List (Nat×Nat)):XD:=oV a (some b) c d
def Ik(a:XD):XD×(Option (List XD)):=(a,none)
def Il(a:XS)(b:Nat):XD×(Option (List XD)):=Ik (Ic a b)
def Im(a:Nat)(b:XC)(c:XC):XC:=.seq (.block a b) c
def Io:AV:=.bool true
def Ip(a:Nat)(b:Nat)(c:Nat)(d:List AV)(e:List ((Nat×Nat)×A)):XS:=ol a (.buildS b c d e)
def Iq(a:A)(b:XC)(c:Nat):XC:=.cond a b (.exit c)
def Ir(a:Nat)(b:Nat)(c:Bool)(d:Ins):XS:=oR a (b,c) d
def Iu(a:Nat)(b:Nat)(c:Ins):XS:=Ir a b false c
def Iv(a:Nat)(b:Nat)(c:Ins):XS:=Ir a b true c
def Iw(a:XS):XS×(Option (List XD)):=(a,none)
def Ix(a:Nat)(b:A):XS:=ol a (.nilc b)
def Iy(a:Int):AV:=.int .u32 a
def Iz(a:Nat):XS:=oy a 0
def IA(a:Nat)(b:BinOp)(c:A)(d:A):XS:=ow a (.bin b c d)
def IB(a:XS)(b:Nat)(c:List (Nat×Nat)):XD:=oV a none b c
def ID(a:List XS)(b:A)(c:List XS):XC:=Id a b (o3 c)
def IE(a:Nat)(b:BinOp)(c:A)(d:A):XS:=ol a (.strb b c d)
def IG(a:Nat)(b:List AV)(c:List ((Nat×Nat)×A)):XS:=ol a (.build b c)
def IH:AV:=.tup []
def II(a:Nat)(b:A)(c:A)(d:A):XS:=ol a (.pick b c d)
def IJ(a:XS):XD×(Option (List XD)):=Il a 0
def IK(a:Nat)(b:XC)(c:List XS):XC:=Im a b (.ops c)
def IM(a:XS)(b:A)(c:Nat)(d:List (Nat×Nat)):XD×(Option (List XD)):=Ik (Ij a b c d)
def IO(a:Nat):XS:=oK a oB
def IP(a:Nat)(b:A):XS:=ow a (.len b)
def IQ(a:Nat)(b:A)(c:Int):XS:=Ii a .add b c
def IR(a:Int):A:=.c (ov a)
def IT(a:Nat)(b:Nat)(c:A):XD×(Option (List XD)):=IJ (oD a b c)
def IU(a:Nat)(b:A):XS:=ol a (.len b)
def IV(a:Nat)(b:A):XS:=ow a (.box b)
def IW(a:Nat)(b:BinOp)(c:A)(d:A):XS:=ol a (.bin b c d)
def IX(a:A)(b:Nat):XC:=Iq a .skip b
def IY(a:List XS)(b:Nat)(c:XC):XC:=ou a (Ie b c)
def IZ(a:List XS)(b:XC)(c:List XS):XC:=oX a b (o3 c)
def I4(a:XS)(b:Nat)(c:A):List XS:=[a,oz b c]
def I5(a:Nat)(b:A)(c:A):XS:=IA a .lss b c
def I6:Option (List XD):=some []
def I7:A:=.c IH
def I8(a:A):Ins:=.un .not a
def I9(a:Nat)(b:A)(c:Int)(d:Nat)(e:A):List XS:=I4 (IQ a b c) d e
def Oa(a:Nat)(b:XC)(c:Nat)(d:A)(e:Int)(f:Nat)(g:A):XC:=IK a b (I9 c d e f g)
def Ob(a:List XS)(b:A)(c:Nat)(d:XC):XC:=oX a (IX b c) d
def Oe(a:List XS)(b:A)(c:Nat)(d:Nat)(e:XC)(f:Nat)(g:A)(h:Int)(i:Nat)(j:A):XC:=Ob a b c (Oa d e f g h i j)
def Og(a:List XS)(b:Nat)(c:List XS)(d:A)(e:Nat)(f:Nat)(g:XC)(h:Nat)(i:A)(j:Int)(k:Nat)(l:A):XC:=IY a b (Oe c d e f g h i j k l)
def Oh(a:Nat)(b:Nat)(c:A):XS:=Iu a b (.mv c)
def Oi:A:=.c Io
def Oj(a:Nat)(b:A)(c:A)(d:Nat)(e:List (Nat×Nat)):XD×(Option (List XD)):=IM (oF a b) c d e
def Ol(a:XS)(b:Nat)(c:List (Nat×Nat)):XD×(Option (List XD)):=Ik (IB a b c)
def Om(a:Nat)(b:A)(c:Nat):XD:=Ic (oy a b) c
def On(a:Nat)(b:A)(c:A)(d:A):XS:=ow a (.pick b c d)
def Oo(a:List XS)(b:A)(c:List XS):XC:=Id a b (.ops c)
def Oq(a:Nat)(b:Int):XS:=oK a (ov b)
def Os(a:Nat)(b:Nat)(c:A):XS:=Iv a b (.mv c)
def Ot(a:Nat)(b:A):XS:=ow a (.ld1 b)
def Ou(a:Nat×Nat)(b:Lc):(Nat×Nat)×A:=(a,o4 b)
def Ov(a:Nat)(b:Nat)(c:Lc):(Nat×Nat)×A:=Ou (a,b) c
def Ow(a:Nat)(b:Lc):(Nat×Nat)×A:=Ov a 1 b
def Ox:AV:=Iy 0
def Oy(a:List XS)(b:List XS)(c:A)(d:List XS)(e:XC):XC:=oX a (ID b c d) e
def Oz(a:Nat):XS:=oK a .nils
def OA(a:Nat):XS:=oK a oW
def OB(a:Nat)(b:A)(c:A)(d:Nat)(e:List (Nat×Nat)):XD×(Option (List XD)):=Ol (o9 a b c) d e
def OC(a:List XS)(b:Nat)(c:List XS)(d:A)(e:Nat)(f:Nat)(g:List XS)(h:XC)(i:Nat)(j:A)(k:Int)(l:Nat)(m:A):XC:=Og a b c d e f (ou g h) i j k l m
def OE(a:Nat)(b:A):XS×(Option (List XD)):=Iw (oy a b)
def OG(a:Nat)(b:Nat)(c:A):XS:=Ig a b [c]
def OH(a:Nat)(b:BinOp)(c:A)(d:AV):XS:=ow a (oH b c d)
def OI:A:=.c oW
def OJ(a:XS)(b:Nat)(c:A)(d:A)(e:XC)(f:XC):XC:=oM (I4 a b c) d e f
def OK(a:List XS)(b:List XS):XC:=ou a (o3 b)
def OL(a:Nat)(b:Nat)(c:A)(d:A):XS:=Ig a b [c,d]
def OM:A:=.c oB
def ON(a:Nat)(b:BinOp)(c:A)(d:AV):XS:=ol a (oH b c d)
def OO(a:Nat)(b:Nat)(c:Nat)(d:A)(e:A):XS:=ol a (.idxA b c d e)
def OP(a:Nat)(b:A)(c:Int):XS:=Ii a .eql b c
def OQ(a:List (XD×(Option (List XD))))(b:XC):XC:=.seq (.dops a) b
def OS(a:Nat)(b:Nat)(c:A):XS:=Iu a b (.ld1 c)
def OT(a:Nat)(b:Nat)(c:Nat)(d:A)(e:A):XS:=ol a (.app b c d e)
def OU(a:Nat):XS:=oy a 1
def OV(a:Nat)(b:Nat)(c:Nat)(d:A):XS:=Iu a b (.fad c d)
def OW(a:Nat)(b:A)(c:Nat)(d:A):List XS:=I4 (oy a b) c d
def OY(a:Nat)(b:A)(c:A):XS:=IE a .add b c
def OZ(a:Nat)(b:A):XS:=oD a 0 b
def O4(a:Nat)(b:Nat):(Nat×Nat)×A:=Ow a [b]
def O5(a:Nat)(b:A):XS×(Option (List XD)):=Iw (oF a b)
def O6(a:Nat)(b:Nat):XD:=Om a I7 b
def O7(a:Nat)(b:Nat×Bool)(c:Nat)(d:List AV)(e:List A):XS:=oY a (some b) c d e
def O8(a:Nat)(b:A):XS:=Ia a b 0
def O9(a:Nat)(b:A):XS:=Ia a b 1
def Ta(a:XS)(b:Nat)(c:A)(d:A)(e:XC):XC:=OJ a b c d .skip e
def Tb:A:=IR 1
def Tc(a:Nat)(b:Nat)(c:A)(d:A)(e:Nat)(f:List (Nat×Nat)):XD×(Option (List XD)):=IM (o7 a b c) d e f
def Td(a:Nat)(b:Nat)(c:A):XS:=Iv a b (.ld1 c)
def Te(a:List XS)(b:List XS)(c:XC):XC:=ou a (ou b c)
def Tf(a:AV)(b:AV)(c:AV)(d:AV)(e:AV):List AV:=[a,b,c,.nils,d,e]
def Tg(a:Nat)(b:AV)(c:AV)(d:AV)(e:AV)(f:AV):XS:=Ib a (Tf b c d e f)
def Th(a:Nat)(b:BinOp)(c:A)(d:Int):XS:=ow a (o8 b c d)
def Ti(a:Nat)(b:BinOp)(c:A):XS:=OH a b c oB
def Tj(a:Nat)(b:A)(c:A)(d:Nat):XD×(Option (List XD)):=Oj a b c d []
def Tl(a:A):XS:=oz 2 a
def Tm(a:List XS)(b:List XS)(c:Nat)(d:List XS)(e:A)(f:Nat)(g:Nat)(h:List XS)(i:XC)(j:Nat)(k:A)(l:Int)(m:Nat)(n:A)(p:List XS):XC:=IZ a (OC b c d e f g h i j k l m n) p
def Tn(a:Nat)(b:A)(c:A):XS:=IE a .eql b c
def To(a:Nat)(b:A):XD×(Option (List XD)):=IJ (oy a b)
def Tp(a:Nat):XS×(Option (List XD)):=Iw (Iz a)
def Tq(a:XC)(b:List XS):XC:=.seq a (o3 b)
def Tr(a:Nat)(b:Nat)(c:BinOp)(d:A)(e:Int):XS:=Iu a b (o8 c d e)
def Ts(a:Nat)(b:Nat)(c:A)(d:Nat)(e:List (Nat×Nat)):XD:=IB (OG a b c) d e
def Tt(a:Nat)(b:A):XS:=Ti a .neq b
def Tu(a:Nat)(b:A):XS:=oD a 1 b
def Tv(a:Nat)(b:Nat)(c:Nat)(d:A):XS:=Iv a b (.fad c d)
def Tw:XS:=OA 4
def Tx(a:Nat)(b:A)(c:A):List XS:=[I5 a b c]
def Ty(a:List XS)(b:List XS)(c:Nat)(d:Nat)(e:A)(f:A)(g:A)(h:Nat)(i:Nat)(j:List XS)(k:XC)(l:Nat)(m:A)(n:Int)(p:Nat)(q:A)(r:List XS):XC:=Tm a b c (Tx d e f) g h i j k l m n p q r
def Tz(a:Nat)(b:A)(c:XS)(d:XS):List XS:=[oy a b,c,d]
def TA(a:Nat)(b:A)(c:XS)(d:Nat)(e:A):List XS:=Tz a b c (oz d e)
def TB(a:Nat)(b:A):XS:=oD a 3 b
def TC(a:A)(b:List XS)(c:XC):XC:=.cond a (o3 b) c
def TF(a:Nat)(b:Nat)(c:List AV)(d:List ((Nat×Nat)×A)):XS:=Ip a b 1 c d
def TG(a:Nat)(b:Nat)(c:AV)(d:List ((Nat×Nat)×A)):XS:=TF a b [c] d
def TH(a:Nat)(b:A):XS:=ow a (I8 b)
def TI(a:Int):AV:=.int .u8 a
def TJ(a:Nat)(b:A):XS:=o7 a 6 b
def TK(a:Nat)(b:A)(c:A):XS:=Ih a 1 b c
def TM(a:Nat):XD:=O6 a 0
def TN(a:List XS)(b:Nat)(c:Nat)(d:A)(e:A)(f:A)(g:Nat)(h:Nat)(i:List XS)(j:XC)(k:Nat)(l:A)(m:Int)(n:Nat)(p:A):XC:=OC a b (Tx c d e) f g h i j k l m n p
def TO(a:Nat):XD×(Option (List XD)):=IJ (Iz a)
def TQ(a:Nat)(b:A)(c:Lc):XS:=Tn a b (o4 c)
def TR(a:A):XS:=oz 4 a
def TS(a:Nat)(b:A)(c:Int)(d:Nat)(e:A)(f:A)(g:XC)(h:XC):XC:=OJ (OP a b c) d e f g h
def TT(a:Nat)(b:Nat)(c:A):XS:=Iu a b (.len c)
def TU:XS:=OA 2
def TV(a:A)(b:A):XS:=o9 1 a b
def TW(a:Nat)(b:AV)(c:AV)(d:AV)(e:AV):XS:=Tg a oB b c d e
def TZ(a:Nat)(b:AV)(c:AV)(d:AV):XS:=TW a oB b c d
def T0(a:Nat)(b:AV)(c:AV):XS:=TZ a oJ b c
def T1(a:Nat)(b:AV):XS:=T0 a oB b
def T4(a:Nat):XS:=T1 a oB
def T5(a:Nat)(b:A)(c:XS):List XS:=[oy a b,c]
def T6(a:Nat)(b:A)(c:A)(d:List (Nat×Nat)):XD×(Option (List XD)):=OB a b c 0 d
def T7(a:Nat)(b:A)(c:A):XS:=II a b Oi c
def T8(a:Nat):XS:=oK a Ox
def T9(a:Nat)(b:A)(c:Int)(d:Nat)(e:A)(f:A)(g:List XS)(h:XC):XC:=TS a b c d e f (o3 g) h
def La(a:Nat)(b:A):XS×(Option (List XD)):=Iw (Ix a b)
theorem qq:type_of% (a8 @nA @oe.eq_1 @oi.eq_1 @oj.eq_1 @ol.eq_1 @ou.eq_1 @ov.eq_1 (a8 @ow.eq_1 @oy.eq_1 @oz.eq_1 @oB.eq_1 @oD.eq_1 @oE.eq_1 @oF.eq_1 (a8 @oH.eq_1 @oI.eq_1 @oJ.eq_1 @oK.eq_1 @oL.eq_1 @oM.eq_1 @oQ.eq_1 (a8 @oR.eq_1 @oS.eq_1 @oU.eq_1 @oV.eq_1 @oW.eq_1 @oX.eq_1 @oY.eq_1 (a8 @oZ.eq_1 @o0.eq_1 @o3.eq_1 @o4.eq_1 @o5.eq_1 @o6.eq_1 @o7.eq_1 (a8 @o8.eq_1 @o9.eq_1 @Ia.eq_1 @Ib.eq_1 @Ic.eq_1 @Id.eq_1 @Ie.eq_1 (a8 @Ig.eq_1 @Ih.eq_1 @Ii.eq_1 @Ij.eq_1 @Ik.eq_1 @Il.eq_1 @Im.eq_1 (a8 @Io.eq_1 @Ip.eq_1 @Iq.eq_1 @Ir.eq_1 @Iu.eq_1 @Iv.eq_1 @Iw.eq_1 (a8 @Ix.eq_1 @Iy.eq_1 @Iz.eq_1 @IA.eq_1 @IB.eq_1 @ID.eq_1 @IE.eq_1 (a8 @IG.eq_1 @IH.eq_1 @II.eq_1 @IJ.eq_1 @IK.eq_1 @IM.eq_1 @IO.eq_1 (a8 @IP.eq_1 @IQ.eq_1 @IR.eq_1 @IT.eq_1 @IU.eq_1 @IV.eq_1 @IW.eq_1 (a8 @IX.eq_1 @IY.eq_1 @IZ.eq_1 @I4.eq_1 @I5.eq_1 @I6.eq_1 @I7.eq_1 (a8 @I8.eq_1 @I9.eq_1 @Oa.eq_1 @Ob.eq_1 @Oe.eq_1 @Og.eq_1 @Oh.eq_1 (a8 @Oi.eq_1 @Oj.eq_1 @Ol.eq_1 @Om.eq_1 @On.eq_1 @Oo.eq_1 @Oq.eq_1 (a8 @Os.eq_1 @Ot.eq_1 @Ou.eq_1 @Ov.eq_1 @Ow.eq_1 @Ox.eq_1 @Oy.eq_1 (a8 @Oz.eq_1 @OA.eq_1 @OB.eq_1 @OC.eq_1 @OE.eq_1 @OG.eq_1 @OH.eq_1 (a8 @OI.eq_1 @OJ.eq_1 @OK.eq_1 @OL.eq_1 @OM.eq_1 @ON.eq_1 @OO.eq_1 (a8 @OP.eq_1 @OQ.eq_1 @OS.eq_1 @OT.eq_1 @OU.eq_1 @OV.eq_1 @OW.eq_1 (a8 @OY.eq_1 @OZ.eq_1 @O4.eq_1 @O5.eq_1 @O6.eq_1 @O7.eq_1 @O8.eq_1 (a8 @O9.eq_1 @Ta.eq_1 @Tb.eq_1 @Tc.eq_1 @Td.eq_1 @Te.eq_1 @Tf.eq_1 (a8 @Tg.eq_1 @Th.eq_1 @Ti.eq_1 @Tj.eq_1 @Tl.eq_1 @Tm.eq_1 @Tn.eq_1 (a8 @To.eq_1 @Tp.eq_1 @Tq.eq_1 @Tr.eq_1 @Ts.eq_1 @Tt.eq_1 @Tu.eq_1 (a8 @Tv.eq_1 @Tw.eq_1 @Tx.eq_1 @Ty.eq_1 @Tz.eq_1 @TA.eq_1 @TB.eq_1 (a8 @TC.eq_1 @TF.eq_1 @TG.eq_1 @TH.eq_1 @TI.eq_1 @TJ.eq_1 @TK.eq_1 (a8 @TM.eq_1 @TN.eq_1 @TO.eq_1 @TQ.eq_1 @TR.eq_1 @TS.eq_1 @TT.eq_1 (a8 @TU.eq_1 @TV.eq_1 @TW.eq_1 @TZ.eq_1 @T0.eq_1 @T1.eq_1 @T4.eq_1 (a4 @T5.eq_1 @T6.eq_1 @T7.eq_1 (aI @T8.eq_1 (aI @T9.eq_1 @La.eq_1))))))))))))))))))))))))))))):=a8 @nA @oe.eq_1 @oi.eq_1 @oj.eq_1 @ol.eq_1 @ou.eq_1 @ov.eq_1 (a8 @ow.eq_1 @oy.eq_1 @oz.eq_1 @oB.eq_1 @oD.eq_1 @oE.eq_1 @oF.eq_1 (a8 @oH.eq_1 @oI.eq_1 @oJ.eq_1 @oK.eq_1 @oL.eq_1 @oM.eq_1 @oQ.eq_1 (a8 @oR.eq_1 @oS.eq_1 @oU.eq_1 @oV.eq_1 @oW.eq_1 @oX.eq_1 @oY.eq_1 (a8 @oZ.eq_1 @o0.eq_1 @o3.eq_1 @o4.eq_1 @o5.eq_1 @o6.eq_1 @o7.eq_1 (a8 @o8.eq_1 @o9.eq_1 @Ia.eq_1 @Ib.eq_1 @Ic.eq_1 @Id.eq_1 @Ie.eq_1 (a8 @Ig.eq_1 @Ih.eq_1 @Ii.eq_1 @Ij.eq_1 @Ik.eq_1 @Il.eq_1 @Im.eq_1 (a8 @Io.eq_1 @Ip.eq_1 @Iq.eq_1 @Ir.eq_1 @Iu.eq_1 @Iv.eq_1 @Iw.eq_1 (a8 @Ix.eq_1 @Iy.eq_1 @Iz.eq_1 @IA.eq_1 @IB.eq_1 @ID.eq_1 @IE.eq_1 (a8 @IG.eq_1 @IH.eq_1 @II.eq_1 @IJ.eq_1 @IK.eq_1 @IM.eq_1 @IO.eq_1 (a8 @IP.eq_1 @IQ.eq_1 @IR.eq_1 @IT.eq_1 @IU.eq_1 @IV.eq_1 @IW.eq_1 (a8 @IX.eq_1 @IY.eq_1 @IZ.eq_1 @I4.eq_1 @I5.eq_1 @I6.eq_1 @I7.eq_1 (a8 @I8.eq_1 @I9.eq_1 @Oa.eq_1 @Ob.eq_1 @Oe.eq_1 @Og.eq_1 @Oh.eq_1 (a8 @Oi.eq_1 @Oj.eq_1 @Ol.eq_1 @Om.eq_1 @On.eq_1 @Oo.eq_1 @Oq.eq_1 (a8 @Os.eq_1 @Ot.eq_1 @Ou.eq_1 @Ov.eq_1 @Ow.eq_1 @Ox.eq_1 @Oy.eq_1 (a8 @Oz.eq_1 @OA.eq_1 @OB.eq_1 @OC.eq_1 @OE.eq_1 @OG.eq_1 @OH.eq_1 (a8 @OI.eq_1 @OJ.eq_1 @OK.eq_1 @OL.eq_1 @OM.eq_1 @ON.eq_1 @OO.eq_1 (a8 @OP.eq_1 @OQ.eq_1 @OS.eq_1 @OT.eq_1 @OU.eq_1 @OV.eq_1 @OW.eq_1 (a8 @OY.eq_1 @OZ.eq_1 @O4.eq_1 @O5.eq_1 @O6.eq_1 @O7.eq_1 @O8.eq_1 (a8 @O9.eq_1 @Ta.eq_1 @Tb.eq_1 @Tc.eq_1 @Td.eq_1 @Te.eq_1 @Tf.eq_1 (a8 @Tg.eq_1 @Th.eq_1 @Ti.eq_1 @Tj.eq_1 @Tl.eq_1 @Tm.eq_1 @Tn.eq_1 (a8 @To.eq_1 @Tp.eq_1 @Tq.eq_1 @Tr.eq_1 @Ts.eq_1 @Tt.eq_1 @Tu.eq_1 (a8 @Tv.eq_1 @Tw.eq_1 @Tx.eq_1 @Ty.eq_1 @Tz.eq_1 @TA.eq_1 @TB.eq_1 (a8 @TC.eq_1 @TF.eq_1 @TG.eq_1 @TH.eq_1 @TI.eq_1 @TJ.eq_1 @TK.eq_1 (a8 @TM.eq_1 @TN.eq_1 @TO.eq_1 @TQ.eq_1 @TR.eq_1 @TS.eq_1 @TT.eq_1 (a8 @TU.eq_1 @TV.eq_1 @TW.eq_1 @TZ.eq_1 @T0.eq_1 @T1.eq_1 @T4.eq_1 (a4 @T5.eq_1 @T6.eq_1 @T7.eq_1 (aI @T8.eq_1 (aI @T9.eq_1 @La.eq_1))))))))))))))))))))))))))))
theorem dzA {p:Prop}(h:p:=by first|assumption|decide|omega|(simp only[rzN,τ,φ];first|done|omega)|(apply J4<;>first|omega|((simp(disch:=first|assumption|omega|(simp only[rzN,τ,φ];first|done|omega)) only[rzL,τ,φ,Qaj,γ ])<;>first|done|omega))|(simp(disch:=first|assumption|omega|(simp only[rzN,τ,φ];first|done|omega)) only[rzG,κ,μ,ε,QaF,τ,φ,Qai,Qam];first|done|omega|decide)):p:=h
theorem JY {p:Prop}(h:p:=by first|assumption|decide|omega|(simp only[zz,rzN,τ,φ];first|done|omega)|(apply J4<;>first|omega|((simp(disch:=first|assumption|omega|(simp only[zz,rzN,τ,φ];first|done|omega)) only[rzL,τ,φ,Qaj,γ,zz ])<;>first|done|omega))|(simp(disch:=first|assumption|omega|(simp only[zz,rzN,τ,φ];first|done|omega)) only[zz,rzG,κ,μ,ε,QaF,τ,φ,Qai,Qam];first|done|omega|decide)):p:=h
end Go.Sy
end
noncomputable section
namespace Go.Sy
open Go.Ev Go.Proofs
variable {base:Bs}
def jcJ (f:FuncId):Nat:=if f∈[65,24,26,25,67,102,37,36,68,66,88,54,29,98,140,141,101,69,70,71,72,56,57,123,103,105,104,83,137,138,100,130,127,131,132,30,55,27,151,152,153,154,167,156,157,158,159,161,162,142,114,172,173,175,176,177,58,180,185,188,189,190,194,200,201,147,148,129,135,169,9,10,17,12,39,41,43,53,47,145,23,19,20,21,50,51,52,82] then 1
 else if f∈[90,96,97,122,124,125,126,136,163,164,165,166,171,186,187,120,121,155] then 3 else if f∈[33,133,174,168,128,170,134,193,15,38,75,80,48,73,106,143,107,108,144,109,111,146] then 5 else if f∈[139,99,16,49,18] then 2 else 0
def Ug (f:FuncId):Bool:=!(QcA f 8) && !(QcA f 160)
structure NB (base:Bs):Prop where
 nob:∀ f,Ug f=true->∀ args st,base.run f args st=.no
 purE:base.pur=jcJ
theorem NB.pur (h:NB base)(f m:Nat)(e:jcJ f=m):base.pur f=m:=by rw[h.purE];exact e
theorem NB.no (h:NB base)(f:FuncId)(e:Ug f=true)(args:List AV)(st:St):base.run f args st=.no:=h.nob f e args st
theorem NB.at0 (h:NB base)(f:FuncId)(e:Ug f=true)(e2:jcJ f=0)(args:List AV)(st:St):base.at0 f args st:=⟨h.nob f e args st,h.pur f 0 e2⟩
abbrev Ret (base:Bs)(f:FuncId)(xs:List AV)(o:Oc):Prop:=∀ st K Kp,XB δ base f xs st K Kp=Ys o K Kp st
abbrev Tot (base:Bs)(f:FuncId)(xs:List AV)(v:AV):Prop:=∀ st K Kp,XB δ base f xs st K Kp=K v st
theorem NB.tot (hb:NB base){f:FuncId}{xs:List AV}{v:AV}(h:PX δ base f xs (.ok v))(hp:xs.all pa=true)(e:Ug f=true):Tot base f xs v:=λst K Kp=>h.xb hp (hb.no f e _) st K Kp
theorem NB.ret (hb:NB base){f:FuncId}{xs:List AV}{o:Oc}(h:PX δ base f xs o)(hp:xs.all pa=true)(e:Ug f=true):Ret base f xs o:=λst K Kp=>h.xb hp (hb.no f e _) st K Kp
inductive Ex where
 |mk (op num:Int) (name:Lc) (kids:List Ex) (line col:Int)
def Ex.op:Ex->Int | .mk o _ _ _ _ _=>o
def Ex.num:Ex->Int | .mk _ n _ _ _ _=>n
def Ex.name:Ex->Lc | .mk _ _ n _ _ _=>n
def Ex.kids:Ex->List Ex | .mk _ _ _ k _ _=>k
def Ex.line:Ex->Int | .mk _ _ _ _ l _=>l
def Ex.col:Ex->Int | .mk _ _ _ _ _ c=>c
theorem Ex.ind {p:Ex->Prop}(h:∀ op num name kids l c,(∀ k∈kids,p k)->p (.mk op num name kids l c)):∀ x,p x
 |.mk op num name kids l c=>h op num name kids l c (inds h kids)
where inds {p:Ex->Prop} (h:∀ op num name kids l c,(∀ k∈kids,p k)->p (.mk op num name kids l c)):∀ (xs:List Ex),∀ k∈xs,p k
 |[],k,hk=>by cases hk
 |x :: xs,k,hk=>by
  rcases QaT.1 hk with e|e
  .exact e▸Ex.ind h x
  .exact inds h xs k e
theorem Ex.indk {p:Ex->Prop}(h:∀ x:Ex,(∀ k∈x.kids,p k)->p x):∀ x,p x:=Ex.ind λop num name ks l c ih=>h (.mk op num name ks l c) ih
mutual
def eE:Ex->List AV
 |.mk op num name kids l c=>[.int .i64 op,.int .i64 num,.str name,.lst kids.length (eEs kids),.int .i64 l,.int .i64 c]
def eEs:List Ex->List AV
 |[]=>[]
 |x :: xs=>eE x ++ eEs xs
end
theorem jjE:∀ xs,eEs xs=fl eE xs
 |[]=>rfl
 |x :: xs=>by rw[Qd,<-jjE xs];rfl
theorem qx (x:Ex):eE x=[.int .i64 x.op,.int .i64 x.num,.str x.name,.lst x.kids.length (fl eE x.kids),.int .i64 x.line,.int .i64 x.col]:=by
 cases x;simp only[eE,jjE];rfl
theorem Jp (x:Ex):(eE x).length=6:=by rw[qx];rfl
theorem jsV (x:Ex)(k:Nat):(eE x).getD k .bad=([.int .i64 x.op,.int .i64 x.num,.str x.name,.lst x.kids.length (fl eE x.kids),.int .i64 x.line,.int .i64 x.col]:List AV).getD k .bad:=by rw[qx]
theorem yd (x:Ex):(eE x).all pc=true:=by rw[qx];rfl
theorem jhb (x:Ex):lall AV.cell (eE x)=true:=by rw[qx];rfl
theorem jmA {st:St}{K:AV->St->Prop}{xs:List Ex}{i:Nat}(h:i<xs.length):jk (QV 6 (.lptr (fl eE xs) (i * 6)) st) K=K (.agg (eE xs[i])) st:=jbd Jp h
theorem jd:type_of% (a4 @Jp (λx=>gq (qx x)) (λx=>gd (qx x)) (aI @jhb (frE Jp))):=(a4 @Jp (λx=>gq (qx x)) (λx=>gd (qx x)) (aI @jhb (frE Jp)))
theorem qQ:type_of% (aI @Jp (aI @jhb (λx=>gq (qx x)))):=(aI @Jp (aI @jhb (λx=>gq (qx x))))
theorem dzB {p:Prop}(h:p:=by first|assumption|decide|omega|(simp only[qQ,rzN,τ,φ];first|done|omega)|(apply J4<;>first|omega|((simp(disch:=first|assumption|omega|(simp only[qQ,rzN,τ,φ];first|done|omega)) only[rzL,τ,φ,Qaj,γ,qQ ])<;>first|done|omega))|(simp(disch:=first|assumption|omega|(simp only[qQ,rzN,τ,φ];first|done|omega)) only[qQ,rzG,κ,μ,ε,QaF,τ,φ,Qai,Qam];first|done|omega|decide)):p:=h
theorem jdv {p:Prop}(h:p:=by first|assumption|decide|omega|(simp only[qQ,zz,rzN,τ,φ];first|done|omega)|(apply J4<;>first|omega|((simp(disch:=first|assumption|omega|(simp only[qQ,zz,rzN,τ,φ];first|done|omega)) only[rzL,τ,φ,Qaj,γ,qQ,zz ])<;>first|done|omega))|(simp(disch:=first|assumption|omega|(simp only[qQ,zz,rzN,τ,φ];first|done|omega)) only[qQ,zz,rzG,κ,μ,ε,QaF,τ,φ,Qai,Qam];first|done|omega|decide)):p:=h
set_option maxRecDepth 100000
def z14:XC:=(ou [IV 1 0,IO 2] (Ty [IO 3] [TB 6 1,Ot 7 6,IP 8 7,IO 9] 0 10 9 8 10 0 1 [Ih 11 6 7 9,TJ 12 11,T4 5,o9 6 5 12] (.ops [oy 13 3,TJ 14 5,OG 15 25 14,ol 16 (.bi .max #[3,3] [13,15]),oz 3 16]) 17 9 1 9 17 (Tz 18 3 (IQ 19 18 1) (Tl 19))))
def y14:XF:=⟨[0],z14,[(.t 2)]⟩
theorem x14:jx δ 25=some y14:=Qa0
def z47:XC:=(Oy [IV 2 0,Tw] [OZ 7 2,oF 8 7,OU 9,IA 10 .eql 8 9] 10 [oK 4 Io] (Tq (TN [TB 11 2,Ot 12 11,IP 13 12,IO 14] 0 15 14 13 15 0 1 [Ih 16 6 12 14,TJ 17 16,T4 6,o9 6 6 17] (ID [TJ 18 6,OU 19,oE 20 true none (oQ 29 []) [18,19]] 20 [oK 4 Io]) 21 14 1 14 21) [Tw]))
def y47:XF:=⟨[0,1],z47,[(.t 4)]⟩
theorem x47:jx δ 29=some y47:=Qa0
def jlb:XC:=(Oy [IO 2] [Iz 3,Ii 4 .geq 3 1,oy 5 4,Os 6 5 0,Iv 7 5 (o8 .leq 6 4),On 8 5 7 OI] 8 [IO 2] (.seq (ID [Iz 9,Ii 10 .geq 9 5,oy 11 10,Os 12 11 0,Iv 13 11 (o8 .leq 12 13),On 14 11 13 OI] 14 [Oq 2 1]) (Tq (ID [Iz 15,Ii 16 .geq 15 14,oy 17 16,Os 18 17 0,Iv 19 17 (o8 .leq 18 30),On 20 17 19 OI] 20 [Oq 2 2]) [Oq 2 (-(0+1))])))
def jqP:XF:=⟨[0],jlb,[(.t 2)]⟩
theorem jwo:jx δ 114=some jqP:=Qa0
def z52:XC:=(IZ [oK 2 oJ] (ID [Iz 3,Ii 4 .lss 3 5,oy 5 4,Oh 6 5 0,Tr 7 5 .gtr 6 30,On 8 5 Oi 7] 8 [oK 2 oJ]) [TG 9 26 oJ [O4 0 45,O4 1 33,O4 2 88,O4 3 70,O4 4 71,O4 5 89,O4 6 90,O4 7 79,O4 8 72,O4 9 42,O4 10 43,O4 11 45,O4 12 61,Ow 13 [33,61],O4 14 60,Ow 15 [60,61],O4 16 62,Ow 17 [62,61],O4 18 85,O4 19 82,O4 20 83,O4 21 84,O4 22 38,O4 23 124,Ow 24 [45,62],Ow 25 [60,45,62]],Iz 10,Ii 11 .sub 10 5,TK 12 9 11,oF 13 12,Tl 13])
def y52:XF:=⟨[0],z52,[(.t 2)]⟩
theorem x52:jx δ 141=some y52:=Qa0
def z92:XC:=(oX [IV 1 0,TU] (OQ [IT 5 0 1,Tj 6 5 5 3,(Ts 7 114 6 0 [],some [TM 7,Ic (TB 8 1) 0,Ij (oF 9 8) 8 63 [(1,0)],Ic (IU 10 9) 0,Ic (oK 11 IH) 0]),IT 8 3 1,Oj 9 8 8 63 [(1,0)],IJ (IU 10 9),IJ (IA 11 .neq 7 10)] (TC 11 [TU] .skip)) (.seq (TN [TB 12 1,Ot 13 12,IP 14 13,IO 15] 0 16 15 14 16 0 1 [Ih 17 6 13 15,TJ 18 17,T4 4,o9 6 4 18] (ID [TJ 19 4,OG 20 83 19,TH 21 20] 21 [TU]) 22 15 1 15 22) (.seq (ID [OZ 23 1,oF 24 23,Ii 25 .neq 24 3,oy 26 25,Tv 27 26 2 1,Td 28 26 27,Iv 29 26 (.strb .neq 28 (.c oJ)),On 30 26 29 OI] 30 [TU]) (Tq (ou [OZ 31 1,Ot 32 31] (.block 2 (T9 34 32 1 33 34 33 [Tu 35 1,oF 36 35,ON 37 .geq 36 oB,oy 38 37,Tv 39 38 1 1,Td 40 38 39,Iv 41 38 (o8 .leq 40 1000000),II 42 38 41 OI,Tl 42] (T9 44 32 2 43 44 43 [Tu 45 1,oF 46 45,ON 47 .eql 46 oB,oy 48 47,OV 49 48 1 1,OS 50 48 49,Tr 51 48 .eql 50 1,T7 52 48 51,Tl 52] (T9 54 32 3 53 54 53 [Tu 55 1,oF 56 55,ON 57 .eql 56 oB,oy 58 57,Tv 59 58 2 1,Td 60 58 59,O7 61 (58,true) 71 [] [60],II 62 58 61 OI,Tl 62] (ID (I4 (OP 64 32 4) 63 64) 63 [oK 2 Io])))))) [Tu 65 1,oF 66 65,ON 67 .eql 66 oB,Tl 67]))))
def y92:XF:=⟨[0],z92,[(.t 2)]⟩
theorem x92:jx δ 83=some y92:=Qa0
def z46:XC:=(OK [IV 1 0,TU] [TJ 3 1,OG 4 25 3,Ii 5 .leq 4 60,oy 6 5,Iv 7 6 (.ldA 6 1),O7 8 (6,true) 83 [] [7],II 9 6 8 OI,Tl 9])
def y46:XF:=⟨[0],z46,[(.t 2)]⟩
theorem x46:jx δ 54=some y46:=Qa0
def z12:XC:=(OK [IV 1 0,TU] [TJ 3 1,OG 4 54 3,oy 5 4,Iv 6 5 (.ldA 6 1),O7 7 (5,true) 29 [] [6,IR 4],Iv 8 5 (I8 7),II 9 5 8 OI,Tl 9])
def y12:XF:=⟨[0],z12,[(.t 2)]⟩
theorem x12:jx δ 24=some y12:=Qa0
def z96:XC:=(OK [TU] [Iz 3,Ii 4 .geq 3 (-(999999+1)),oy 5 4,Os 6 5 0,Iv 7 5 (o8 .leq 6 1000000),II 8 5 7 OI,Tl 8])
def y96:XF:=⟨[0],z96,[(.t 2)]⟩
theorem x96:jx δ 100=some y96:=Qa0
variable {base:Bs}
def ZS (op:Int):Int:=if 1<=op/\op<=4 then 0 else if 5<=op/\op<=13 then 1 else if 14<=op/\op<=30 then 2 else -1
theorem r7:type_of%(aI @jd @rzZ):=aI @jd @rzZ
theorem jtF (hb:NB base)(op:Int):Tot base 114 [.int .i64 op] (.int .i64 (ZS op)):=by
 refine hb.tot ?_ rfl rfl;refine jB jwo haa (hb.pur 114 1 dc) ?_;simp only[jqP,jj,ζ,θ,κ,μ];rw[(by unfold jlb;simp only[qq];rfl:jlb=_)];repeat' first|apply jb<;>intro _|simp(disch:=try exact dzB) only[r7,γ,ε]
 all_goals(refine G0.v ?_ rfl;unfold ZS;repeat' split)<;>first|rfl|(exfalso;omega)|(simp_all;done)|(simp;omega)|(simp_all;omega)
theorem jeB (hb:NB base)(n:Int):Tot base 100 [.int .i64 n] (.bool (decide (-1000000<=n) && decide (n<=1000000))):=by
 refine hb.tot ?_ rfl rfl;refine jB x96 haa (hb.pur 100 1 dc) ?_;simp only[y96,jj,ζ,θ,κ,μ];rw[(by unfold z96;simp only[qq];rfl:z96=_)];repeat' first|apply jb<;>intro _|simp(disch:=try exact dzB) only[r7,γ,ε]
 all_goals(refine G0.v ?_ rfl;repeat' split)<;>first|rfl|(exfalso;omega)|(simp_all;done)|(simp;omega)|(simp_all;omega)
mutual
def szE:Ex->Nat
 |.mk _ _ nm ks _ _=>zj ks+nm.length+1
def zj:List Ex->Nat
 |[]=>0
 |x :: xs=>szE x+zj xs
end
mutual
def wW:Ex->Nat
 |.mk _ _ _ ks _ _=>yq ks+1
def yq:List Ex->Nat
 |[]=>0
 |x :: xs=>max (wW x) (yq xs)
end
mutual
def gu:Ex->Nat
 |.mk _ _ _ ks _ _=>Wl ks+1
def Wl:List Ex->Nat
 |[]=>0
 |x :: xs=>gu x+Wl xs
end
mutual
def jgL (op:Int):Ex->Bool
 |.mk o _ _ ks _ _=>decide (o=op) ||XL op ks
def XL (op:Int):List Ex->Bool
 |[]=>false
 |x :: xs=>jgL op x ||XL op xs
end
theorem ZZ (x:Ex):szE x=zj x.kids+x.name.length+1:=by cases x;rfl
theorem KK (x:Ex):wW x=yq x.kids+1:=by cases x;rfl
theorem jpc (op:Int)(x:Ex):jgL op x=(decide (x.op=op) ||XL op x.kids):=by cases x;rfl
theorem vj:∀ {xs:List Ex} {k:Nat} (h:k<xs.length),szE xs[k]<=zj xs
 |x :: xs,0,h=>by simp[zj]
 |x :: xs,k+1,h=>by
  have:=vj (xs:=xs) (k:=k) (by simpa using h);simp[zj];omega
theorem vL:∀ xs:List Ex,xs.length<=zj xs
 |[]=>by simp
 |x :: xs=>by
  have:=vL xs;have:=ZZ x;simp[zj];omega
theorem GD:∀ xs ys,yq (xs ++ ys)=max (yq xs) (yq ys)
 |[],ys=>by simp[yq]
 |x :: xs,ys=>by rw[Qai,yq,yq,GD,Nat.max_assoc]
theorem uJ (op:Int):∀ xs ys,XL op (xs ++ ys)=(XL op xs ||XL op ys)
 |[],ys=>by simp[XL]
 |x :: xs,ys=>by rw[Qai,XL,XL,uJ,Bool.or_assoc]
theorem zC {α:Type}{xs:List α}{k:Nat}(h:k<xs.length):xs.take (k+1)=xs.take k ++ [xs[k]]:=by rw[QbX,Qad h];rfl
mutual
theorem jmC:∀ x,wW x<=gu x
 |.mk _ _ _ ks _ _=>by have:=UD ks;simp only[wW,gu];omega
theorem UD:∀ xs,yq xs<=Wl xs
 |[]=>η _
 |x :: xs=>by have:=jmC x;have:=UD xs;simp only[yq,Wl];omega
end
mutual
theorem jlS:∀ x,gu x<=szE x
 |.mk _ _ _ ks _ _=>by have:=V6 ks;simp only[szE,gu];omega
theorem V6:∀ xs,Wl xs<=zj xs
 |[]=>η _
 |x :: xs=>by have:=jlS x;have:=V6 xs;simp only[zj,Wl];omega
end
def BIG:Nat:=1099511627776
theorem h12:type_of%(a8 @ξ @ν @z0 @z1 @jn @je @and_true @true_and):=a8 @ξ @ν @z0 @z1 @jn @je @and_true @true_and
theorem jtN (hb:NB base):∀ x:Ex,szE x<=BIG->Tot base 25 [.agg (eE x)] (.int .i64 (wW x)):=by
 refine Ex.indk λx ih hx=>?_;refine hb.tot ?_ (by first|rfl|simp[pa,pc,yd]) rfl;have hd:=KK x;have hz:=ZZ x;generalize hks:x.kids=ks at *;have hlen:=vL ks;unfold BIG at *;have hle:=UD ks;have hle2:=V6 ks;refine jB x14 haa (hb.pur 25 1 dc) ?_;simp only[y14,jj,ζ,θ,κ,μ];rw[(by unfold z14;simp only[qq];rfl:z14=_)];repeat' first|apply jb<;>intro _|simp(disch:=try exact dzB) only[hks,r7,γ,ε]
 refine jU ks.length (λk L s=>Has L 3 (.int .i64 (yq (ks.take k):Nat))/\Has L 7 (.lst ks.length (fl eE ks))) ?_ (λk L s hk hI hi hn=>?_) (λL s hI=>?_)
 .simp(disch:=decide) only[h12,QaG,yq]
 .obtain⟨i3,i7⟩:=hI;have hk2:=vj hk;have e:=ih ks[k] (Qaa hk) om;repeat' first|apply jb<;>intro _|simp(disch:=try exact dzB) only[ja i3,ja i7,ja hi,ja hn,e,r7,γ,ε]
  have e2:((yq (ks.take (k+1)):Nat):Int)=max (yq (ks.take k):Int) (wW ks[k]):=by rw[zC hk,GD];simp only[yq];omega
  simp(disch:=decide) only[h12,e2,i7,hi,hn]
 .rw[Qak] at hI;repeat' first|apply jb<;>intro _|simp(disch:=try exact dzB) only[ja hI.1,ja hI.2,r7,γ,ε]
  (refine G0.v ?_ rfl;repeat' split)<;>first|rfl|(exfalso;omega)|(simp_all;done)|(simp;omega)|(simp_all;omega)
theorem jvn (hb:NB base)(op:Int):∀ x:Ex,szE x<=BIG->Tot base 29 [.agg (eE x),.int .i64 op] (.bool (jgL op x)):=by
 refine Ex.indk λx ih hx=>?_;refine hb.tot ?_ (by first|rfl|simp[pa,pc,yd]) rfl;have hd:=jpc op x;have hz:=ZZ x;generalize hks:x.kids=ks at *;have hlen:=vL ks;unfold BIG at *;refine jB x47 haa (hb.pur 29 1 dc) ?_;simp only[y47,jj,ζ,θ,κ,μ];rw[(by unfold z47;simp only[qq];rfl:z47=_)];repeat' first|apply jb<;>intro _|simp(disch:=try exact dzB) only[hks,r7,γ,ε]
 ·(refine G0.v ?_ rfl;repeat' split)<;>first|rfl|(exfalso;omega)|(simp_all;done)|(simp;omega)|(simp_all;omega)
 refine jU ks.length (λk L s=>XL op (ks.take k)=false/\Has L 1 (.int .i64 op)/\Has L 12 (.lst ks.length (fl eE ks))) ?_ (λk L s hk hI hi hn=>?_) (λL s hI=>?_)
 .simp(disch:=decide) only[h12,QaG,XL]
 .obtain⟨h0,i1,i12⟩:=hI;have hk2:=vj hk;have e:=ih ks[k] (Qaa hk) om;repeat' first|apply jb<;>intro _|simp(disch:=try exact dzB) only[ja i1,ja i12,ja hi,ja hn,e,r7,γ,ε]
  .have e3:=uJ op (ks.take (k+1)) (ks.drop (k+1));rw[QbD,zC hk,uJ] at e3;simp only[XL] at e3
   (refine G0.v ?_ rfl;repeat' split)<;>first|rfl|(exfalso;omega)|(simp_all;done)|(simp;omega)|(simp_all;omega)
  .simp(disch:=decide) only[h12,i1,i12,hi,hn];rw[zC hk,uJ,h0];simp_all [XL]
 .rw[Qak] at hI;repeat' first|apply jb<;>intro _|simp(disch:=try exact dzB) only[ja hI.2.1,r7,γ,ε]
  (refine G0.v ?_ rfl;repeat' split)<;>first|rfl|(exfalso;omega)|(simp_all;done)|(simp;omega)|(simp_all;omega)
def zN (c:Nat):Bool:=(decide (97<=c) && decide (c<=122)) ||(decide (65<=c) && decide (c<=90))
def qf (c:Nat):Bool:=decide (48<=c) && decide (c<=57)
def Jg (c:Nat):Bool:=zN c ||qf c ||decide (c=95)
def q7 (p:Nat->Bool):Lc->Nat
 |[]=>0
 |c :: l=>if p c then q7 p l+1 else 0
theorem Zu (p:Nat->Bool):∀ l,q7 p l<=l.length
 |[]=>η _
 |c :: l=>by simp only[q7,τ];have:=Zu p l;split<;>omega
theorem kF {p:Nat->Bool}:∀ {l:Lc} {k:Nat},k<=l.length->(∀ j,j<k->p (l.getD j 0)=true)->(k=l.length\/p (l.getD k 0)=false)->q7 p l=k
 |[],k,h,_,_=>by simp at h;simp[q7,h]
 |c :: l,0,h,h1,h2=>by
  simp only[q7];rcases h2 with h2|h2
  .simp at h2
  .simp at h2;simp[h2]
 |c :: l,k+1,h,h1,h2=>by
  have h0:=h1 0 om;simp at h0;simp only[q7,h0,if_true];have:=kF (l:=l) (k:=k) (by simpa using h) (λj hj=>by simpa using h1 (j+1) om) (by simpa using h2);omega
def kG:Lb:=[[101,110,117,109],[118,97,114],[98,111,111,108],[112,114,111,99,101,115,115],[119,104,101,110],[100,111],[116,114,117,101],[102,97,108,115,101],[88],[70],[71],[85],[82],[89],[90],[79],[72],[83],[84]]
def Hy (l:Lc):Bool:=decide (l∈kG)
def begins (p l:Lc):Bool:=decide (l.take p.length=p)
theorem GJ {p l:Lc}(h:l.length<p.length):begins p l=false:=by
 unfold begins;refine decide_eq_false λe=>?_;have:=congrArg List.length e;rw[Qas] at this;omega
def YF (c:Nat):Bool:=decide (c=32) ||decide (c=9) ||decide (c=10)
def gP (c:Nat):Bool:=decide (c≠10)
def YT (p:Nat×Nat)(x:Nat):Nat×Nat:=if x=10 then(p.1+1,1) else(p.1,p.2+1)
def qc (p:Nat×Nat)(l:Lc):Nat×Nat:=l.foldl YT p
theorem WQ (l:Lc):∀ p:Nat×Nat,1<=p.2->(qc p l).1<=p.1+l.length/\(qc p l).2<=p.2+l.length/\1<=(qc p l).2:=by
 induction l with
 |nil=>exact λp h=>⟨η _,η _,h⟩
 |cons x l ih=>
  intro p h;have hs:(YT p x).1<=p.1+1/\(YT p x).2<=p.2+1/\1<=(YT p x).2:=by
   unfold YT;split<;>simp<;>omega
  have:=ih (YT p x) hs.2.2;show(qc (YT p x) l).1<=p.1+(l.length+1)/\(qc (YT p x) l).2<=p.2+(l.length+1)/\_;exact⟨om,om,this.2.2⟩
theorem HZ (p:Nat×Nat)(l k:Lc):qc p (l ++ k)=qc (qc p l) k:=Qca ..
def gap (r:Lc):Nat:=if q7 YF r=0/\begins [47,47] r=true then q7 gP r else q7 YF r
theorem Gm (r:Lc):gap r<=r.length:=by
 unfold gap;split
 .exact Zu _ _
 .exact Zu _ _
def qb (r:Lc):Nat:=if h:gap r=0 then 0 else gap r+qb (r.drop (gap r))
termination_by r.length
decreasing_by
 rw[Qav];have:=Gm r;omega
theorem jjj {r:Lc}(h:gap r=0):qb r=0:=by rw[qb,dif_pos h]
theorem jji {r:Lc}(h:gap r≠0):qb r=gap r+qb (r.drop (gap r)):=by rw[qb,dif_neg h]
theorem kL (r:Lc):qb r<=r.length:=by
 by_cases h:gap r=0
 .rw[jjj h];exact Qae _
 .have e:=Gm r;have ih:=kL (r.drop (gap r));rw[Qav] at ih;rw[jji h];omega
termination_by r.length
decreasing_by
 rw[Qav];have:=Gm r;omega
def YV:Lb:=[[60,45,62],[46,46],[58,61],[33,61],[60,61],[62,61],[45,62],[123],[125],[40],[41],[58],[44],[59],[61],[60],[62],[43],[45],[42],[33],[38],[124]]
def Y2 (r:Lc):Lb->Nat
 |[]=>0
 |x :: xs=>if begins x r=true then x.length else Y2 r xs
def U2 (r:Lc):Nat:=Y2 r YV
structure Tk where
 kind:Nat
 text:Lc
 num:Nat
 line:Nat
 col:Nat
def Tk.cells (t:Tk):List AV:=[.int .i64 (t.kind:Int),.str t.text,.int .i64 (t.num:Int),.int .i64 (t.line:Int),.int .i64 (t.col:Int)]
def vH (s:Lc):Nat:=s.foldl (λv c=>10 * v+(c - 48)) 0
def yR (r:Lc)(p:Nat×Nat):Nat×Tk×Nat:=
 match r with
 |[]=>(0,⟨5,[],0,p.1,p.2⟩,0)
 |x :: r'=>
  if zN x=true then
   let n:=q7 Jg (x :: r')
   if 32<n then(132,⟨1,[],0,p.1,p.2⟩,0) else(0,⟨if Hy ((x :: r').take n)=true then 4 else 1,(x :: r').take n,0,p.1,p.2⟩,n)
  else if qf x=true then
   let n:=q7 qf (x :: r')
   if 7<n\/1000000<vH ((x :: r').take n) then(132,⟨2,[],0,p.1,p.2⟩,0) else(0,⟨2,(x :: r').take n,vH ((x :: r').take n),p.1,p.2⟩,n)
  else
   let n:=U2 (x :: r')
   if n=0 then(131,⟨3,[],0,p.1,p.2⟩,0) else(0,⟨3,(x :: r').take n,0,p.1,p.2⟩,n)
def WB (s:Lc):Prop:=s≠[]/\∀ c∈s,qf c=true
theorem jc2 (p:Nat->Bool):∀ l:Lc,∀ c∈l.take (q7 p l),p c=true
 |[],c,h=>by simp at h
 |y :: l,c,h=>by
  simp only[q7] at h;by_cases hy:p y=true
  .rw[if_pos hy,Qcr] at h;rcases QaT.1 h with h|h
   .rw[h];exact hy
   .exact jc2 p l c h
  .rw[if_neg hy] at h;simp at h
theorem jea {x:Nat}{r:Lc}(h:qf x=true):WB ((x :: r).take (q7 qf (x :: r))):=by
 refine⟨?_,jc2 qf _⟩;have:q7 qf (x :: r)=q7 qf r+1:=by simp only[q7,if_pos h]
 rw[this,Qcr];simp
theorem jlF (s:Lc):∀ v,(∀ c∈s,qf c=true)->s.foldl (λv c=>10 * v+(c - 48)) v+1<=(v+1) * 10 ^ s.length:=by
 induction s with
 |nil=>exact λv _=>by simp
 |cons c s ih=>
  intro v h;have hc:=h c hac;have hc9:c - 48<=9:=by
   unfold qf at hc;simp at hc;omega
  have:=ih (10 * v+(c - 48)) λd hd=>h d (by simp[hd]);refine χ this ?_;rw[τ,Nat.pow_succ,<-Nat.mul_assoc,Nat.mul_right_comm];exact QaA _ om
theorem jop {s:Lc}{n:Nat}(hn:s.length=n)(h7:n<=7)(h:∀ c∈s,qf c=true):vH s<=99999999:=by
 have:=jlF s 0 h;have e:10 ^ s.length<=10 ^ 7:=Qbu dc om;have e7:10 ^ 7=10000000:=dc
 unfold vH;omega
theorem jaL (r:Lc):∀ xs,Y2 r xs<=r.length
 |[]=>Qae _
 |y :: xs=>by
  show(if begins y r=true then y.length else Y2 r xs)<=r.length;by_cases h:begins y r=true
  .rw[if_pos h];rcases Qaq r.length y.length with h2|h2
   .rw[GJ h2] at h;exact absurd h dc
   .exact h2
  .rw[if_neg h];exact jaL r xs
theorem jct (r:Lc):U2 r<=r.length:=jaL r _
theorem Ky {r:Lc}{p:Nat×Nat}{e n:Nat}{t:Tk}(h:yR r p=(e,t,n)):n<=r.length:=by
 cases r with
 |nil=>simp[yR] at h;omega
 |cons x r'=>
  unfold yR at h;simp only at h;have h1:=Zu Jg (x :: r');have h2:=Zu qf (x :: r');have h3:=jct (x :: r');split at h
  .split at h<;>simp only[Prod.mk.injEq] at h<;>omega
  .split at h
   .split at h<;>simp only[Prod.mk.injEq] at h<;>omega
   .split at h<;>simp only[Prod.mk.injEq] at h<;>omega
theorem jc3 {p:Nat->Bool}{x:Nat}{r:Lc}(h:p x=true):0<q7 p (x :: r):=by
 simp only[q7,if_pos h];omega
theorem gQ {r:Lc}{p:Nat×Nat}{t:Tk}{n:Nat}(h:yR r p=(0,t,n)):(t.kind=5↔n=0)/\(n=0↔r=[]):=by
 cases r with
 |nil=>simp[yR] at h;obtain⟨h1,h2⟩:=h;subst h1 h2;simp
 |cons x r'=>
  unfold yR at h;simp only at h;split at h
  .rename_i hL;have hp:=jc3 (p:=Jg) (r:=r') (show Jg x=true by unfold Jg;rw[hL];rfl);split at h
   .simp at h
   .simp only[Prod.mk.injEq] at h;obtain⟨_,h1,h2⟩:=h;subst h1 h2;refine⟨?_,?_⟩
    .show((if _ then 4 else 1)=5↔_);split<;>constructor<;>intro h<;>omega
    .constructor
     .intro h;omega
     .intro h;simp at h
  .split at h
   .rename_i hD;have hp:=jc3 (p:=qf) (r:=r') hD;split at h
    .simp at h
    .simp only[Prod.mk.injEq] at h;obtain⟨_,h1,h2⟩:=h;subst h1 h2;refine⟨?_,?_⟩
     .show(2=5↔_);constructor<;>intro h<;>omega
     .constructor
      .intro h;omega
      .intro h;simp at h
   .split at h
    .simp at h
    .rename_i hz;simp only[Prod.mk.injEq] at h;obtain⟨_,h1,h2⟩:=h;subst h1 h2;refine⟨?_,?_⟩
     .show(3=5↔_);constructor<;>intro h<;>omega
     .constructor
      .intro h;exact absurd h hz
      .intro h;simp at h
def JE (r:Lc)(p:Nat×Nat):List Tk×(Nat×Nat×Nat):=
 match h:yR (r.drop (qb r)) (qc p (r.take (qb r))) with
 |(e,t,n)=>
  if e≠0 then([],(e,t.line,t.col))
  else if hn:n=0 then([t],(0,0,0))
  else
   let q:=JE ((r.drop (qb r)).drop n) (qc (qc p (r.take (qb r))) ((r.drop (qb r)).take n))
   if q.2.1≠0 then([],q.2) else(t :: q.1,q.2)
termination_by r.length
decreasing_by
 have h1:=Ky h;have h2:=kL r;rw[Qav] at h1;rw[Qav,Qav];omega
theorem vD (r:Lc)(p:Nat×Nat){e n:Nat}{t:Tk}(h:yR (r.drop (qb r)) (qc p (r.take (qb r)))=(e,t,n)):JE r p=if e≠0 then([],(e,t.line,t.col)) else if n=0 then([t],(0,0,0)) else if(JE ((r.drop (qb r)).drop n) (qc (qc p (r.take (qb r))) ((r.drop (qb r)).take n))).2.1≠0 then([],(JE ((r.drop (qb r)).drop n) (qc (qc p (r.take (qb r))) ((r.drop (qb r)).take n))).2) else(t :: (JE ((r.drop (qb r)).drop n) (qc (qc p (r.take (qb r))) ((r.drop (qb r)).take n))).1,(JE ((r.drop (qb r)).drop n) (qc (qc p (r.take (qb r))) ((r.drop (qb r)).take n))).2):=by
 rw[JE];split
 rename_i e' t' n' h';rw[h] at h';simp only[Prod.mk.injEq] at h';obtain⟨rfl,rfl,rfl⟩:=h';split
 .rfl
 .split<;>rfl
def ahead (acc:List Tk)(q:List Tk×(Nat×Nat×Nat)):List Tk×(Nat×Nat×Nat):=if q.2.1≠0 then([],q.2) else(acc ++ q.1,q.2)
def qj (l:Lc):List Tk×(Nat×Nat×Nat):=if 65536<l.length then([],(132,1,1)) else JE l (1,1)
theorem jjX (r:Lc)(p:Nat×Nat):ahead [] (JE r p)=JE r p:=by
 unfold ahead;generalize hx:yR (r.drop (qb r)) (qc p (r.take (qb r)))=x;obtain⟨e,t,n⟩:=x;rw[vD r p hx];by_cases he:e≠0
 .rw[if_pos he];simp[he]
 .rw[if_neg he];by_cases hn:n=0
  .rw[if_pos hn];simp
  .rw[if_neg hn];generalize JE _ _=q;by_cases hq:q.2.1≠0
   .rw[if_pos hq];simp[hq]
   .rw[if_neg hq];show(if q.2.1≠0 then _ else _)=_;rw[if_neg hq];rfl
theorem jjY {acc:List Tk}{r:Lc}{p:Nat×Nat}{e n:Nat}{t:Tk}(h:yR (r.drop (qb r)) (qc p (r.take (qb r)))=(e,t,n))(he:e≠0):ahead acc (JE r p)=([],(e,t.line,t.col)):=by
 rw[vD r p h,if_pos he];unfold ahead;rw[if_pos he]
theorem jjZ {acc:List Tk}{r:Lc}{p:Nat×Nat}{t:Tk}(h:yR (r.drop (qb r)) (qc p (r.take (qb r)))=(0,t,0)):ahead acc (JE r p)=(acc ++ [t],(0,0,0)):=by
 rw[vD r p h,if_neg dc,if_pos rfl];rfl
theorem jhu {acc:List Tk}{r:Lc}{p:Nat×Nat}{n:Nat}{t:Tk}(h:yR (r.drop (qb r)) (qc p (r.take (qb r)))=(0,t,n))(hn:n≠0):ahead acc (JE r p)=ahead (acc ++ [t]) (JE ((r.drop (qb r)).drop n) (qc (qc p (r.take (qb r))) ((r.drop (qb r)).take n))):=by
 rw[vD r p h,if_neg dc,if_neg hn];generalize JE _ _=q;unfold ahead;by_cases hq:q.2.1≠0
 .rw[if_pos hq,if_pos hq];simp[hq]
 .rw[if_neg hq,if_neg hq];show _=(if q.2.1≠0 then _ else _);rw[if_neg hq];simp
def jli:XC:=(OK [TU] [Iz 3,IW 4 .leq (.c (TI 97)) 3,oy 5 4,Os 6 5 0,Iv 7 5 (oH .leq 6 (TI 122)),II 8 5 7 OI,oy 9 8,Oh 10 9 0,Iu 11 9 (.bin .leq (.c (TI 65)) 10),Oh 12 9 11,Os 13 12 0,Iv 14 12 (oH .leq 13 (TI 90)),Iu 15 9 (.pick 12 14 OI),T7 16 9 15,Tl 16])
def jqW:XF:=⟨[0],jli,[(.t 2)]⟩
theorem jwv:jx δ 156=some jqW:=Qa0
def jlf:XC:=(OK [TU] [Iz 3,IW 4 .leq (.c (TI 48)) 3,oy 5 4,Os 6 5 0,Iv 7 5 (oH .leq 6 (TI 57)),II 8 5 7 OI,Tl 8])
def jqT:XF:=⟨[0],jlf,[(.t 2)]⟩
theorem jws:jx δ 159=some jqT:=Qa0
def jlh:XC:=(OK [TU] [Iz 3,OG 4 156 3,oy 5 4,Oh 6 5 0,O7 7 (5,false) 159 [] [6],T7 8 5 7,oy 9 8,Oh 10 9 0,Iu 11 9 (oH .eql 10 (TI 95)),T7 12 9 11,Tl 12])
def jqV:XF:=⟨[0],jlh,[(.t 2)]⟩
theorem jwu:jx δ 157=some jqV:=Qa0
def jlg:XC:=(IZ [TU] (ou [oz 3 0] (.block 0 (.seq (Ta (TQ 5 3 [101,110,117,109]) 4 5 4 (Ta (TQ 6 3 [118,97,114]) 4 6 4 (Ta (TQ 7 3 [98,111,111,108]) 4 7 4 (Ta (TQ 8 3 [112,114,111,99,101,115,115]) 4 8 4 (Ta (TQ 9 3 [119,104,101,110]) 4 9 4 (Ta (TQ 10 3 [100,111]) 4 10 4 (Ta (TQ 11 3 [116,114,117,101]) 4 11 4 (Ta (TQ 12 3 [102,97,108,115,101]) 4 12 4 (Ta (TQ 13 3 [88]) 4 13 4 (Ta (TQ 14 3 [70]) 4 14 4 (Ta (TQ 15 3 [71]) 4 15 4 (Ta (TQ 16 3 [85]) 4 16 4 (Ta (TQ 17 3 [82]) 4 17 4 (Ta (TQ 18 3 [89]) 4 18 4 (Ta (TQ 19 3 [90]) 4 19 4 (Ta (TQ 20 3 [79]) 4 20 4 (Ta (TQ 21 3 [72]) 4 21 4 (Ta (TQ 22 3 [83]) 4 22 4 (.ops (I4 (TQ 23 3 [84]) 4 23)))))))))))))))))))) (TC 4 [oK 2 Io] .skip)))) [TU])
def jqU:XF:=⟨[0],jlg,[(.t 2)]⟩
theorem jwt:jx δ 158=some jqU:=Qa0
def jlm:XC:=(OK [TU] [Iz 3,ON 4 .eql 3 (TI 32),oy 5 4,Oh 6 5 0,Iu 7 5 (oH .eql 6 (TI 9)),T7 8 5 7,oy 9 8,Oh 10 9 0,Iu 11 9 (oH .eql 10 (TI 10)),T7 12 9 11,Tl 12])
def jq0:XF:=⟨[0],jlm,[(.t 2)]⟩
theorem jwz:jx δ 152=some jq0:=Qa0
def jlk:XC:=(OK [TU] [Iz 3,ON 4 .neq 3 (TI 10),Tl 4])
def jqY:XF:=⟨[0],jlk,[(.t 2)]⟩
theorem jwx:jx δ 154=some jqY:=Qa0
def jln:XC:=(Ty [IO 4] [Iz 6,ow 7 (.lenS 6),IO 8] 0 9 8 7 9 0 1 (OW 10 8 5 10) (ID [OU 11,Iz 12,oy 13 5,ol 14 (.ixStr 12 13),oS 15 none 11 [14],TH 16 15] 16 (OW 17 5 4 17)) 18 8 1 8 18 [Iz 19,ol 20 (.lenS 19),TR 20])
def jq1:XF:=⟨[0,1],jln,[(.t 4)]⟩
theorem jwA:jx δ 151=some jq1:=Qa0
def jk3:XC:=(OK [Tw] [Iz 5,ol 6 (.lenS 5),OU 7,ol 8 (.lenS 7),IW 9 .geq 6 8,oy 10 9,Os 11 10 0,Os 12 10 1,Iv 13 10 (.lenS 12),Iv 14 10 (.slStr 11 none (some 13)),Os 15 10 1,Iv 16 10 (.strb .eql 14 15),II 17 10 16 OI,TR 17])
def jqG:XF:=⟨[0,1],jk3,[(.t 4)]⟩
theorem jwf:jx δ 180=some jqG:=Qa0
def jll:XC:=(OK [Tw] [Iz 5,OU 6,OL 7 180 5 6,TR 7])
def jqZ:XF:=⟨[0,1],jll,[(.t 4)]⟩
theorem jwy:jx δ 153=some jqZ:=Qa0
def jk1:XC:=(OK [OA 3] [oF 4 1,Iz 5,OL 6 153 4 5,oz 3 6])
def jqE:XF:=⟨[0,1],jk1,[(.t 3)]⟩
theorem jwd:jx δ 184=some jqE:=Qa0
def jk2:XC:=(Ty [IO 4] [Iz 6,IP 7 6,IO 8] 0 9 8 7 9 0 1 (OW 10 8 5 10) (ID [OU 11,Iz 12,oy 13 5,TK 14 12 13,oF 15 14,oE 16 true none 11 [15]] 16 (OW 17 5 4 17)) 18 8 1 8 18 [Oq 4 (-(0+1))])
def jqF:XF:=⟨[0,1],jk2,[(.t 4)]⟩
theorem jwe:jx δ 183=some jqF:=Qa0
def jle:XC:=(Te [IV 1 0,IO 2] [IG 5 [oJ,oJ,oJ,oJ,oJ,oJ,oJ,oJ,oJ,oJ,oJ,oJ,oJ,oJ,oJ,oJ,oJ,oJ,oJ,oJ,oJ,oJ,oJ] [Ow 0 [60,45,62],Ow 1 [46,46],Ow 2 [58,61],Ow 3 [33,61],Ow 4 [60,61],Ow 5 [62,61],Ow 6 [45,62],O4 7 123,O4 8 125,O4 9 40,O4 10 41,O4 11 58,O4 12 44,O4 13 59,O4 14 61,O4 15 60,O4 16 62,O4 17 43,O4 18 45,O4 19 42,O4 20 33,O4 21 38,O4 22 124],Ib 3 [oJ,oJ,oJ,oJ,oJ,oJ,oJ,oJ,oJ,oJ,oJ,oJ,oJ,oJ,oJ,oJ,oJ,oJ,oJ,oJ,oJ,oJ,oJ],o9 23 3 5] (IZ [ol 6 (.slA 23 1 3 none none),ol 7 (.fn 184 [1]),OL 8 183 6 7,TR 8] (ID (T5 9 4 (Ti 10 .lss 9)) 10 [IO 2]) [oy 11 4,OO 12 23 1 3 11,oF 13 12,ol 14 (.lenS 13),Tl 14]))
def jqS:XF:=⟨[0],jle,[(.t 2)]⟩
theorem jwr:jx δ 161=some jqS:=Qa0
def jlj:XC:=(.seq (.seq (.cops [Tp 6,La 7 6,Iw (OZ 8 7),O5 9 8,Tp 10,La 11 10,Iw (Tu 12 11),O5 13 12,Tp 14,La 15 14,Iw (Tu 16 15),O5 17 16,OE 18 1,Iw (IW 19 .add 17 18),Iw (ol 20 (.slStr 9 (some 13) (some 19))),Iw (ow 21 (.conv 9 276 20)),Iw (IP 22 21),Iw (IO 23)]) (Ie 0 (Oe (Tx 24 23 22) 24 0 1 (Te [TK 25 21 23,oF 26 25,oz 5 26] [Iz 27,Ix 28 27,TB 29 28,oF 30 29,IQ 31 30 1,Ix 32 27,TB 33 32,TV 33 31] (Oo (T5 34 5 (OH 35 .eql 34 (TI 10))) 35 [Iz 36,Iz 37,Iz 38,Ix 39 38,oD 40 2 39,oF 41 40,IQ 42 41 1,Ix 43 36,oD 44 2 43,TV 44 42,Ix 45 37,TB 46 45,TV 46 Tb])) 47 23 1 23 47))) (.ops [Iz 48,Ix 49 48,Tu 50 49,oF 51 50,OU 52,IW 53 .add 51 52,Ix 54 48,Tu 55 54,TV 55 53]))
def jqX:XF:=⟨[0,1],jlj,[]⟩
theorem jww:jx δ 155=some jqX:=Qa0
def z74:XC:=(Ie 0 (.block 1 (.seq (.cops [Tp 4,La 5 4,Iw (OZ 6 5),O5 7 6,Tp 8,La 9 8,Iw (Tu 10 9),O5 11 10,Iw (ol 12 (.slStr 7 (some 11) none)),Iw (Tl 12)]) (oX (TA 13 2 (OL 14 151 13 (oQ 152 [])) 3 14) (Oo [oy 15 3,ON 16 .eql 15 oB,oy 17 16,Os 18 17 2,O7 19 (17,true) 153 [] [18,o4 [47,47]],On 20 17 19 OI] 20 (TA 21 2 (OL 22 151 21 (oQ 154 [])) 3 22)) (.seq (Id (T5 23 3 (Ti 24 .eql 23)) 24 .ret) (.ops [Iz 25,oy 26 3,OL 27 155 25 26]))))))
def y74:XF:=⟨[0],z74,[]⟩
theorem x74:jx δ 120=some y74:=Qa0
def z75:XC:=(oX [Ib 2 [oB,oJ,oB,oB,oB],IO 3] (.cops [Tp 9,La 10 9,Iw (OZ 11 10),O5 12 11,Tp 13,La 14 13,Iw (Tu 15 14),O5 16 15,Iw (ol 17 (.slStr 12 (some 16) none)),Iw (TR 17)]) (.seq (.cops [Tp 18,La 19 18,Iw (oD 20 2 19),O5 21 20,Tp 22,La 23 22,Iw (TB 24 23),O5 25 24,Iw (IG 26 [oB,oJ,oB,oB,oB] [((0,1),IR 5),((3,1),21),((4,1),25)]),Iw (Ib 5 [oB,oJ,oB,oB,oB]),Iw (o9 5 5 26)]) (oX [IO 6] (.block 0 (oM (TA 34 4 (Tn 35 34 (.c oJ)) 33 35) 33 (o3 [o7 36 5 5,o9 5 2 36,IO 3]) (oM [oy 38 4,ol 39 (.ixStr 38 OM),OG 40 156 39,oz 37 40] 37 (Oy [oy 41 4,OL 42 151 41 (oQ 157 []),oz 6 42,OZ 43 5,TV 43 Tb] (T5 44 6 (Th 45 .gtr 44 32)) 45 [o7 46 5 5,o9 5 2 46,Oq 3 132] (Oo [oy 47 4,oy 48 6,ol 49 (.slStr 47 none (some 48)),oE 50 true none (oQ 158 []) [49]] 50 [OZ 51 5,TV 51 (IR 4)])) (oM [oy 53 4,ol 54 (.ixStr 53 OM),OG 55 159 54,oz 52 55] 52 (ou [oy 56 4,OL 57 151 56 (oQ 159 []),oz 6 57,OZ 58 5,TV 58 (IR 2)] (Oy [oy 60 4,oy 61 6,ol 62 (.slStr 60 none (some 61)),Ig 63 160 [62,IR 10,IR 64],oy 59 63,O8 64 59,O9 65 59,oz 7 64,oz 8 65] [oy 66 6,Ii 67 .gtr 66 7,oy 68 67,Oh 69 68 8,Iu 70 68 (.gen .neq 254 true 69 (.c .nilif)),T7 71 68 70,oy 72 71,Oh 73 72 7,Tr 74 72 .gtr 73 1000000,On 75 72 Oi 74] 75 [o7 76 5 5,o9 5 2 76,Oq 3 132] (.ops (Tz 77 7 (oD 78 2 5) (TV 78 77))))) (ou [oy 27 4,OG 28 161 27,oz 6 28,OZ 29 5,TV 29 (IR 3)] (ID (T5 30 6 (Ti 31 .eql 30)) 31 [o7 32 5 5,o9 5 2 32,Oq 3 131])))))) (ou [oy 79 4,oy 80 6,ol 81 (.slStr 79 none (some 80)),Tu 82 5,TV 82 81] (OK [Iz 83,oy 84 6,OL 85 155 83 84] [o7 86 5 5,o9 5 2 86,IO 3])))))
def y75:XF:=⟨[0],z75,[(.cA 2 5),(.t 3)]⟩
theorem x75:jx δ 121=some y75:=Qa0
def z35:XC:=(Oy [Oz 2,Ib 3 [oB,oB,oB]] [Iz 8,ol 9 (.lenS 8),Th 10 .gtr 9 65536] 10 [IG 11 [oB,oB,oB] [((0,1),IR 132),((1,1),Tb),((2,1),Tb)],Oz 2,o9 3 3 11] (ou [Iz 12,IG 13 [oJ,oB,oB,oB] [((0,1),12),((2,1),Tb),((3,1),Tb)],ol 14 (.box 13),TR 14] (IY [Oz 5] 0 (.block 1 (ou (T5 15 4 (OG 16 120 15)) (oX [oy 18 4,OG 19 121 18,oy 17 19,O8 20 17,O9 21 17,Ib 6 [oB,oJ,oB,oB,oB],o9 5 6 20,oz 7 21] (Id (T5 22 7 (Tt 23 22)) 23 (.seq (.cops [OE 24 7,Iw (TB 25 6),O5 26 25,Iw (oD 27 4 6),O5 28 27,Iw (IG 29 [oB,oB,oB] [((0,1),24),((1,1),26),((2,1),28)]),Iw (Oz 2),Iw (o9 3 3 29)]) .ret)) (ou [oy 30 5,o7 31 5 6,Ip 32 1 5 [oB,oJ,oB,oB,oB] [((0,5),31)],OT 33 5 48 30 32,oz 5 33] (ID [OZ 34 6,oF 35 34,Th 36 .eql 35 5] 36 [oy 37 5,IG 38 [oB,oB,oB] [],Tl 37,o9 3 3 38]))))))))
def y35:XF:=⟨[0],z35,[(.t 2),(.cA 3 3)]⟩
theorem x35:jx δ 88=some y35:=Qa0
theorem KA (hb:NB base)(c:Nat):Tot base 156 [.int .u8 (c:Int)] (.bool (zN c)):=by
 refine hb.tot ?_ rfl rfl;refine jB jwv haa (hb.pur 156 1 dc) ?_;simp only[jqW,jj,ζ,θ,κ,μ];rw[(by unfold jli;simp only[qq];rfl:jli=_)];repeat' first|apply jb<;>intro _|simp(disch:=try exact dzA) only[rzZ,γ,ε]
 all_goals(refine G0.v (congrArg AV.bool ?_) rfl;rw[Qaw];simp only[zN,QaE,ψ,decide_eq_true_eq,QaP,QbE,QaO,decide_eq_false_iff_not,true_iff,false_iff,iff_true,iff_false,not_true_eq_false,not_false_eq_true,ne_eq,eq_self]<;>omega)
theorem jfk (hb:NB base)(c:Nat):Tot base 159 [.int .u8 (c:Int)] (.bool (qf c)):=by
 refine hb.tot ?_ rfl rfl;refine jB jws haa (hb.pur 159 1 dc) ?_;simp only[jqT,jj,ζ,θ,κ,μ];rw[(by unfold jlf;simp only[qq];rfl:jlf=_)];repeat' first|apply jb<;>intro _|simp(disch:=try exact dzA) only[rzZ,γ,ε]
 all_goals(refine G0.v (congrArg AV.bool ?_) rfl;rw[Qaw];simp only[qf,QaE,ψ,decide_eq_true_eq,QaP,QbE,QaO,decide_eq_false_iff_not,true_iff,false_iff,iff_true,iff_false,not_true_eq_false,not_false_eq_true,ne_eq,eq_self]<;>omega)
theorem je1 (hb:NB base)(c:Nat):Tot base 157 [.int .u8 (c:Int)] (.bool (Jg c)):=by
 refine hb.tot ?_ rfl rfl;refine jB jwu haa (hb.pur 157 1 dc) ?_;simp only[jqV,jj,ζ,θ,κ,μ];rw[(by unfold jlh;simp only[qq];rfl:jlh=_)];repeat' first|apply jb<;>intro _|simp(disch:=try exact dzA) only[KA hb,jfk hb,rzZ,γ,ε]
 all_goals(refine G0.v (congrArg AV.bool ?_) rfl;unfold Jg;simp_all;try omega)
theorem jps (hb:NB base)(c:Nat):Tot base 152 [.int .u8 (c:Int)] (.bool (YF c)):=by
 refine hb.tot ?_ rfl rfl;refine jB jwz haa (hb.pur 152 1 dc) ?_;simp only[jq0,jj,ζ,θ,κ,μ];rw[(by unfold jlm;simp only[qq];rfl:jlm=_)];repeat' first|apply jb<;>intro _|simp(disch:=try exact dzA) only[rzZ,γ,ε]
 all_goals(refine G0.v (congrArg AV.bool ?_) rfl;rw[Qaw];simp only[YF,QaE,ψ,decide_eq_true_eq,QaP,QbE,QaO,decide_eq_false_iff_not,true_iff,false_iff,iff_true,iff_false,not_true_eq_false,not_false_eq_true,ne_eq,eq_self]<;>omega)
theorem jl8 (hb:NB base)(c:Nat):Tot base 154 [.int .u8 (c:Int)] (.bool (gP c)):=by
 refine hb.tot ?_ rfl rfl;refine jB jwx haa (hb.pur 154 1 dc) ?_;simp only[jqY,jj,ζ,θ,κ,μ];rw[(by unfold jlk;simp only[qq];rfl:jlk=_)];repeat' first|apply jb<;>intro _|simp(disch:=try exact dzA) only[rzZ,γ,ε]
 all_goals(refine G0.v (congrArg AV.bool ?_) rfl;rw[Qaw];simp only[gP,QaE,ψ,decide_eq_true_eq,QaP,QbE,QaO,decide_eq_false_iff_not,true_iff,false_iff,iff_true,iff_false,not_true_eq_false,not_false_eq_true,ne_eq,eq_self]<;>omega)
theorem jj8 (hb:NB base)(l:Lc):Tot base 158 [.str l] (.bool (Hy l)):=by
 refine hb.tot ?_ rfl rfl;refine jB jwt haa (hb.pur 158 1 dc) ?_;simp only[jqU,jj,ζ,θ,κ,μ];rw[(by unfold jlg;simp only[qq];rfl:jlg=_)];repeat' first|apply jb<;>intro _|simp(disch:=try exact dzA) only[rzZ,γ,ε]
 all_goals(refine G0.v ?_ rfl;unfold Hy kG;simp[*])
def Pt (base:Bs)(f:FuncId)(p:Nat->Bool):Prop:=∀ c:Nat,Tot base f [.int .u8 (c:Int)] (.bool (p c))
theorem gA (hb:NB base)(l:Lc)(hl:l.length<=4611686018427387904){f:FuncId}{p:Nat->Bool}(hf:Pt base f p):Tot base 151 [.str l,.fn f []] (.int .i64 (q7 p l)):=by
 refine hb.tot ?_ rfl rfl;refine jB jwA haa (hb.pur 151 1 dc) ?_;simp only[jq1,jj,ζ,θ,κ,μ];rw[(by unfold jln;simp only[qq];rfl:jln=_)];repeat' first|apply jb<;>intro _|simp(disch:=try exact dzA) only[rzZ,γ,ε]
 refine jU l.length (λk L s=>(∀ j,j<k->p (l.getD j 0)=true)/\Has L 0 (.str l)/\Has L 1 (.fn f [])) ?_ (λk L s hk hI hi hn=>?_) (λL s hI=>?_)
 .refine⟨λj hj=>absurd hj (QaI _),?_⟩;simp(disch:=decide) only[h12]
 .obtain⟨h0,i0,i1⟩:=hI;repeat' first|apply jb<;>intro _|simp(disch:=try exact dzA) only[ja i0,ja i1,ja hi,hf (l.getD k 0),rzZ,γ,ε]
  .exact G0.v (by rw[kF (Qbo hk) h0 (.inr ‹_›)]) rfl
  .refine⟨⟨λj hj=>?_,?_⟩,?_⟩
   .rcases Qaq j k with h|h
    .exact h0 j h
    .rw[show j=k by omega];simpa using ‹¬ p (l.getD k 0)=false›
   .simp(disch:=decide) only[h12,i0,i1]
   .simp(disch:=decide) only[h12,hi,hn]
 .obtain⟨h0,i0,i1⟩:=hI;repeat' first|apply jb<;>intro _|simp(disch:=try exact dzA) only[ja i0,rzZ,γ,ε]
  exact G0.v (by rw[kF (η _) h0 (.inl rfl)]) rfl
theorem jtK (hb:NB base)(l q:Lc)(hl:l.length<=4611686018427387904):Tot base 180 [.str l,.str q] (.bool (begins q l)):=by
 refine hb.tot ?_ rfl rfl;refine jB jwf haa (hb.pur 180 1 dc) ?_;simp only[jqG,jj,ζ,θ,κ,μ];rw[(by unfold jk3;simp only[qq];rfl:jk3=_)];repeat' first|apply jb<;>intro _|simp(disch:=try exact dzA) only[rzZ,γ,ε]
 .exact G0.v rfl rfl
 .exact G0.v (by rw[GJ om]) rfl
theorem Kg (hb:NB base)(l q:Lc)(hl:l.length<=4611686018427387904):Tot base 153 [.str l,.str q] (.bool (begins q l)):=by
 refine hb.tot ?_ rfl rfl;refine jB jwy haa (hb.pur 153 1 dc) ?_;simp only[jqZ,jj,ζ,θ,κ,μ];rw[(by unfold jll;simp only[qq];rfl:jll=_)];repeat' first|apply jb<;>intro _|simp(disch:=try exact dzA) only[jtK hb l q hl,rzZ,γ,ε]
 exact G0.v rfl rfl
theorem Cl.bar {s:St}{b:Nat}{cs:List AV}(h:Cl s b cs):Cl s.bare b cs:=⟨h.lt,h.row,h.len,h.cell⟩
theorem jio (hb:NB base)(r x:Lc)(hr:r.length<=4611686018427387904){st:St}{b:Nat}(C:Cl st b [.str r])(K Kp:AV->St->Prop):XB δ base 184 [.str x,.ptr b 0] st K Kp=K (.bool (begins x r)) st:=by
 refine jf5 (λK Kp hK=>?_) K Kp;refine qu jwd haa (hb.at0 184 dc dc _ _) ?_;simp only[jqE,jj,ζ,θ,κ,μ];rw[(by unfold jk1;simp only[qq];rfl:jk1=_)];have C:=C.bar;have hbk:bk st st.bare=st:=rfl;have hbc:back st st.bare=st:=rfl;have hbb:st.bare.bare=st.bare:=rfl;generalize st.bare=s0 at *
 (have zz:=C.r;repeat' first|apply jb<;>intro _|simp(disch:=try exact JY) only[Kg hb r x hr,hbk,hbc,hbb,C.q,C.r,rzZ,γ,ε])
 exact hK
theorem jpI (hb:NB base){xs:Lb}(hn:xs.length<=1000000)(f:FuncId)(caps:List AV)(q:Lc->Bool){st:St}{b c:Nat}{x:Bool}(C:Cl st b (xs.map .str))
  (hq:∀ y K Kp,XB δ base f (.str y :: caps) st.bare K Kp=K (.bool (q y)) st.bare) (K Kp:AV->St->Prop):XB δ base 183 [.slice b 0 xs.length c 1 x,.fn f caps] st K Kp=K (.int .i64 (fi q xs)) st:=by
 refine jf5 (λK Kp hK=>?_) K Kp;refine qu jwe haa (hb.at0 183 dc dc _ _) ?_;simp only[jqF,jj,ζ,θ,κ,μ];rw[(by unfold jk2;simp only[qq];rfl:jk2=_)];have C:=C.bar;have hbk:bk st st.bare=st:=rfl;have hbc:back st st.bare=st:=rfl;have hbb:st.bare.bare=st.bare:=rfl;generalize st.bare=s0 at *;have hl:(xs.map AV.str).length=xs.length:=Qac ..;repeat' first|apply jb<;>intro _|simp(disch:=try exact dzA) only[rzZ,γ,ε]
 refine jU xs.length (λk L s=>s=s0/\(∀ j (h1:j<xs.length),j<k->q xs[j]=false)/\Has L 0 (.slice b 0 xs.length c 1 x)/\Has L 1 (.fn f caps)) ?_ (λk L s hk hI hi hn=>?_) (λL s hI=>?_)
 .refine⟨rfl,λj _ hj=>absurd hj (QaI _),?_⟩;simp(disch:=decide) only[h12]
 .obtain⟨rfl,h0,i0,i1⟩:=hI;have e:(xs.map AV.str).getD k .bad=.str xs[k]:=by simp[Qaf,hk]
  (have zz:=C.r;repeat' first|apply jb<;>intro _|simp(disch:=try exact JY) only[ja i0,ja i1,ja hi,hq,hl,e,hbk,hbc,hbb,C.q,C.r,rzZ,γ,ε])
  .rw[Vv hk (λj hj=>h0 j om hj) ‹_›] at hK;exact hK
  .refine⟨⟨λj h1 hj=>?_,?_⟩,?_⟩
   .rcases Qaq j k with h|h
    .exact h0 j h1 h
    .have:j=k:=om
     subst this;simpa using ‹¬ q xs[j]=true›
   .simp(disch:=decide) only[h12,i0,i1]
   .simp(disch:=decide) only[h12,hi,hn]
 .obtain⟨rfl,h0,i0,i1⟩:=hI;repeat' first|apply jb<;>intro _|simp(disch:=try exact dzA) only[hbk,hbc,hbb,rzZ,γ,ε]
  rw[Vu λj hj=>h0 j hj hj] at hK;exact hK
theorem jaM (r:Lc):∀ xs:Lb,(fi (λx=>begins x r) xs<0/\Y2 r xs=0)\/∃ k,∃ h:k<xs.length,fi (λx=>begins x r) xs=k/\Y2 r xs=xs[k].length
 |[]=>.inl ⟨by show(-1:Int)<0;decide,rfl⟩
 |y :: xs=>by
  by_cases h:begins y r=true
  .exact .inr ⟨0,by simp,by simp[fi,h],by simp[Y2,h]⟩
  .rcases jaM r xs with ⟨h1,h2⟩|⟨k,hk,h1,h2⟩
   .exact .inl ⟨by simp[fi,h,h1],by simp[Y2,h,h2]⟩
   .exact .inr ⟨k+1,by simpa using hk,by simp[fi,h,h1];omega,by simp[Y2,h,h2]⟩
theorem jlT {k:Nat}(h:k<YV.length):(YV.map AV.str).getD k .bad=.str YV[k]:=by simp[Qaf,h]
theorem jrS (hb:NB base)(r:Lc)(hr:r.length<=4611686018427387904):Tot base 161 [.str r] (.int .i64 (U2 r)):=by
 refine hb.tot ?_ rfl rfl;refine jB jwr haa (hb.pur 161 1 dc) ?_;simp only[jqS,jj,ζ,θ,κ,μ];rw[(by unfold jle;simp only[qq];rfl:jle=_)];repeat' first|apply jb<;>intro _|simp(disch:=try exact dzA) only[rzZ,γ,ε]
 refine XB.gen λu hu=>?_;have C0:Cl u 0 [.str r]:=by rw[hu];exact((Cl.new st0 [.str r]).nw _).wrO dc _ _
 have C1:Cl u 1 (YV.map .str):=by rw[hu];exact(Cl.new (nw st0 _) _).wr0 rfl
 clear hu;rw[show(23:Nat)=YV.length from rfl,jpI hb (xs:=YV) dc 184 [.ptr 0 0] (λx=>begins x r) C1 λy K Kp=>jio hb r y hr C0.bar K Kp];unfold U2;rcases jaM r YV with ⟨h1,h2⟩|⟨k,hk,h1,h2⟩
 .repeat' first|apply jb<;>intro _|simp(disch:=try exact dzA) only[rzZ,γ,ε]
  exact G0.v (by rw[h2];rfl) rfl
 .have hk':k<23:=hk;have e:=jlT hk;have e2:jV u.h 1=23:=C1.len;have e3:rat u.h 1 k=.str YV[k]:=(C1.cell k (by rw[Qac];exact hk)).trans e;repeat' first|apply jb<;>intro _|simp(disch:=try exact dzA) only[h1,e2,e3,rzZ,γ,ε]
  refine G0.v ?_ rfl;rw[h2]<;>rfl
def cC (l:Lc)(a:Nat)(p:Nat×Nat):List AV:=[.str l,.int .i64 (a:Int),.int .i64 (p.1:Int),.int .i64 (p.2:Int)]
theorem u9:Tryz.prog.underlying 9=some .string:=Qa0
theorem jwJ:Tryz.prog.underlying 276=some (.slice 5):=Qa0
theorem u5:Tryz.prog.underlying 5=some (.int .u8):=Qa0
theorem jin (hb:NB base){l:Lc}{a n:Nat}{p:Nat×Nat}(hn:a+n<=l.length)(hl:l.length<=1073741824)(h1:p.1<=1073741824)(h2:p.2<=1073741824)(hc:1<=p.2) :
  Met δ base 155 (cC l a p) [.int .i64 (n:Int)] (.ok (.tup [])) (cC l (a+n) (qc p ((l.drop a).take n))):=by
 refine PM.met ?_ rfl λp st=>hb.no 155 dc _ _;refine qa jww haa (hb.pur 155 3 dc) rfl ?_;simp only[jqX,jj,ζ,θ,κ,μ];rw[(by unfold jlj;simp only[qq];rfl:jlj=_)];have hbs:((l.drop a).take n).length=n:=by rw[Qas,Qav];omega
 have e1:((a:Int)+(n:Int) - (a:Int)).toNat=n:=om
 unfold cC at *;repeat' first|apply jb<;>intro _|simp(disch:=try exact dzA) only[jpA u9 jwJ u5,e1,hbs,rzZ,γ,ε]
 generalize (l.drop a).take n=bs at *;refine jU n (λk L s=>Cl s 0 (cC l a (qc p (bs.take k)))/\Cl s 1 (bs.map λ(c:Nat)=>.int .u8 (c:Int))/\Has L 0 (.ptr 0 0)/\Has L 1 (.int .i64 (n:Int))/\Has L 21 (.slice 1 0 n n 1 false)) ?_ (λk L s hk hI hi hn=>?_) (λL s hI=>?_)
 .refine⟨(Cl.new st0 (cC l a p)).nw _,Cl.new (nw st0 _) _,?_⟩;simp(disch:=decide) only[h12]
 .obtain⟨C0,C1,i0,i1,i21⟩:=hI;have hk':k<bs.length:=om
  have e2:rat s.h 1 k=.int .u8 ((bs[k]:Nat):Int):=(C1.cell k (by rw[Qac];exact hk')).trans (by simp[Qaf,hk']);have e3:jV s.h 1=n:=by rw[C1.len,Qac];exact hbs
  have hw:=WQ (bs.take k) p hc;have e4:qc p (bs.take (k+1))=YT (qc p (bs.take k)) bs[k]:=by rw[zC hk',HZ];rfl
  rw[Qas] at hw;generalize qc p (bs.take k)=q at *;rw[e4];have L0:=C0.lt;have L1:=C1.lt;unfold cC at *
  (have zz:=C0.r;repeat' first|apply jb<;>intro _|simp(disch:=try exact JY) only[ja i0,ja i1,ja i21,ja hi,e2,e3,C0.q,C0.r,rzZ,γ,ε])
  .refine⟨⟨?_,?_,?_⟩,?_⟩
   .have e5:bs[k]=10:=om
    rw[show YT q bs[k]=(q.1+1,1) from if_pos e5]
    (apply Cl.cv;(· (repeat' first|exact C0|apply Cl.wr|apply Cl.nw));(· (simp only[Zg,YQ,ZE,wy,wx,ζ]<;>first|rfl|(simp;done)|(simp;omega))))
   .simp(disch:=first|assumption|decide|omega|(simp only[jf,ji,jm,ju,jl,q6,τ,φ];first|done|omega)) only[jA,jE,jz];exact C1
   .simp(disch:=decide) only[h12,i0,i1,i21]
   .simp(disch:=decide) only[h12,hi,hn]
  .refine⟨⟨?_,?_,?_⟩,?_⟩
   .have e5:¬ bs[k]=10:=om
    rw[show YT q bs[k]=(q.1,q.2+1) from if_neg e5]
    (apply Cl.cv;(· (repeat' first|exact C0|apply Cl.wr|apply Cl.nw));(· (simp only[Zg,YQ,ZE,wy,wx,ζ]<;>first|rfl|(simp;done)|(simp;omega))))
   .simp(disch:=first|assumption|decide|omega|(simp only[jf,ji,jm,ju,jl,q6,τ,φ];first|done|omega)) only[jA,jE,jz];exact C1
   .simp(disch:=decide) only[h12,i0,i1,i21]
   .simp(disch:=decide) only[h12,hi,hn]
 .obtain⟨C0,C1,i0,i1,i21⟩:=hI;rw[<-hbs,Qak] at C0;have L0:=C0.lt;unfold cC at *
  (have zz:=C0.r;repeat' first|apply jb<;>intro _|simp(disch:=try exact JY) only[ja i0,ja i1,C0.q,C0.r,rzZ,γ,ε])
  refine G1.done ?_ rfl rfl FzD.u;simp(disch:=first|assumption|decide|omega|(simp only[jf,ji,jm,ju,jl,q6,τ,φ];first|done|omega)) only[jA,jE,jz]
  (apply Cl.cv;(· (repeat' first|exact C0|apply Cl.wr|apply Cl.nw));(· (simp only[Zg,YQ,ZE,wy,wx,ζ]<;>first|rfl|(simp;done)|(simp;omega))))
theorem jmH (hb:NB base){l:Lc}{a:Nat}{p:Nat×Nat}(ha:a<=l.length)(hl:l.length<=1048576)(hp1:p.1+(l.length - a)<=1073741824)(hp2:1<=p.2)(hp3:p.2+(l.length - a)<=1073741824) :
  Met δ base 120 (cC l a p) [] (.ok (.tup [])) (cC l (a+qb (l.drop a)) (qc p ((l.drop a).take (qb (l.drop a))))):=by
 refine PM.met ?_ rfl λp st=>hb.no 120 dc _ _;refine qa x74 haa (hb.pur 120 3 dc) rfl ?_;simp only[y74,jj,ζ,θ,κ,μ];rw[(by unfold z74;simp only[qq];rfl:z74=_)];rw[UR];refine ye (λmm L s=>∃ d:Nat,a+d<=l.length/\mm=l.length - (a+d)/\Cl s 0 (cC l (a+d) (qc p ((l.drop a).take d)))/\qb (l.drop a)=d+qb (l.drop (a+d))/\Has L 0 (.ptr 0 0)) ?_ (l.length - a) ?_
 .rintro mm L s ⟨d,hd,rfl,C,hg,i0⟩;have W:=WQ ((l.drop a).take d) p hp2;have hlt:((l.drop a).take d).length=d:=by rw[Qas,Qav];omega
  rw[hlt] at W;have hrl:(l.drop (a+d)).length=l.length - (a+d):=Qav;have hgap:gap (l.drop (a+d))=if q7 YF (l.drop (a+d))=0/\begins [47,47] (l.drop (a+d))=true then q7 gP (l.drop (a+d)) else q7 YF (l.drop (a+d)):=rfl
  have hgl:=Gm (l.drop (a+d));have hwalk:qc (qc p ((l.drop a).take d)) ((l.drop (a+d)).take (gap (l.drop (a+d))))=qc p ((l.drop a).take (d+gap (l.drop (a+d)))):=by
   rw[<-HZ,List.take_add,Qbw]
  have hg1:=λ(h:gap (l.drop (a+d))≠0)=>jji h;have hg0:=λ(h:gap (l.drop (a+d))=0)=>jjj h;have hdrop:(l.drop (a+d)).drop (gap (l.drop (a+d)))=l.drop (a+(d+gap (l.drop (a+d)))):=by rw[Qbw,Qbj]
  have S:=@jin base hb l (a+d) (gap (l.drop (a+d))) (qc p ((l.drop a).take d)) om om om om om;have S1:=λK Kp=>S C K Kp;have L0:=C.lt;rw[hwalk] at S1;have R1:=gA hb (l.drop (a+d)) om (jps hb);have R2:=gA hb (l.drop (a+d)) om (jl8 hb);have R3:=Kg hb (l.drop (a+d)) [47,47] om;have fin:gap (l.drop (a+d))=0->G1 4 (cC l (a+qb (l.drop a)) (qc p ((l.drop a).take (qb (l.drop a))))) (.tup []) (.tup []) s.bare:=λh=>by
   rw[hg,hg0 h,Qbq];exact G1.done (jz.symm▸C) rfl rfl FzD.u
  have go:gap (l.drop (a+d))≠0->∀ L,Has L 0 (.ptr 0 0)->∃ k',k'<l.length - (a+d)/\∃ d2:Nat,a+d2<=l.length/\k'=l.length - (a+d2)/\Cl (wr s 0 0 (cC l (a+d+gap (l.drop (a+d))) (qc p ((l.drop a).take (d+gap (l.drop (a+d))))))) 0 (cC l (a+d2) (qc p ((l.drop a).take d2)))/\qb (l.drop a)=d2+qb (l.drop (a+d2))/\Has L 0 (.ptr 0 0):=λh L i=>by
   refine⟨l.length - (a+(d+gap (l.drop (a+d)))),om,d+gap (l.drop (a+d)),om,rfl,?_,by rw[hg,hg1 h,hdrop,Qbj],i⟩;rw[Qbj];exact C.wr0 rfl
  generalize hJ:(λ(L:Sl) (st':St)=>∃ k',k'<l.length - (a+d)/\∃ d2:Nat,a+d2<=l.length/\k'=l.length - (a+d2)/\Cl st' 0 (cC l (a+d2) (qc p ((l.drop a).take d2)))/\qb (l.drop a)=d2+qb (l.drop (a+d2))/\Has L 0 (.ptr 0 0))=J at *;have go2:gap (l.drop (a+d))≠0->∀ L,Has L 0 (.ptr 0 0)->J L (wr s 0 0 (cC l (a+d+gap (l.drop (a+d))) (qc p ((l.drop a).take (d+gap (l.drop (a+d))))))):=λh L i=>by rw[<-hJ];exact go h L i
  clear go;unfold cC at *;by_cases h1:q7 YF (l.drop (a+d))=0
  .cases h2:begins [47,47] (l.drop (a+d)) with
   |true=>
    rw[if_pos ⟨h1,h2⟩] at hgap;rw[<-hgap] at R2;by_cases hz:gap (l.drop (a+d))=0
    ·(have zz:=C.r;repeat' first|apply jb<;>intro _|simp(disch:=try exact JY) only[ja i0,R1,R2,R3,h1,h2,hz,C.q,C.r,rzZ,γ,ε])
     exact fin hz
    ·(have zz:=C.r;repeat' first|apply jb<;>intro _|simp(disch:=try exact JY) only[ja i0,R1,R2,R3,S1,h1,h2,hz,C.q,C.r,rzZ,γ,ε])
     exact go2 hz _ (by simp(disch:=decide) only[h12,i0])
   |false=>
    have hz:gap (l.drop (a+d))=0:=by rw[hgap,if_neg (λh=>by rw[h2] at h;exact absurd h.2 dc)];exact h1
    (have zz:=C.r;repeat' first|apply jb<;>intro _|simp(disch:=try exact JY) only[ja i0,R1,R2,R3,h1,h2,C.q,C.r,rzZ,γ,ε])
    exact fin hz
  .have hz:gap (l.drop (a+d))=q7 YF (l.drop (a+d)):=by rw[hgap,if_neg (λh=>h1 h.1)]
   rw[<-hz] at h1 R1
   (have zz:=C.r;repeat' first|apply jb<;>intro _|simp(disch:=try exact JY) only[ja i0,R1,R2,R3,S1,h1,C.q,C.r,rzZ,γ,ε])
   exact go2 h1 _ (by simp(disch:=decide) only[h12,i0])
 .refine⟨0,om,rfl,?_,by rw[Qaj,Qbq],?_⟩
  .exact Cl.new st0 (cC l a p)
  .simp(disch:=decide) only[h12]
def PI (base:Bs):Prop:=∀ (s:Lc) (st:St),WB s->s.length<=281474976710656->(s.length<=7->base.run 160 [.str s,.int .i64 10,.int .i64 64] st=.ok (.tup [.int .i64 (vH s:Int),.nilif]) st)/\(7<s.length->base.run 160 [.str s,.int .i64 10,.int .i64 64] st=.ok (.tup [.bad,.bad]) st)
theorem jsd (s:St)(K:AV->St->Prop):jk (QB δ .neq 254 true .nilif .nilif s) K=K (.bool false) s:=by
 have:QB δ .neq 254 true .nilif .nilif s=.ok (.bool false) s:=Qa0
 rw[this];rfl
theorem FzD.nx {s:St}{t:Tk}{e e':Int}{cs:List AV}(h1:cs=t.cells)(h2:e'=e):FzD 1 9 s (.tup [.agg cs,.int .i64 e']) (.tup [.agg t.cells,.int .i64 e]):=by
 subst h1 h2;exact FzD.tup (.cons (.agg (.pc rfl)) (.pc rfl))
theorem jsc (hb:NB base)(hP:PI base){l:Lc}{a e n:Nat}{t:Tk}{p:Nat×Nat}(ha:a<=l.length)(hl:l.length<=1048576)(hp1:p.1<=1073741824)(hp2:p.2<=1073741824)(hp3:1<=p.2)(h:yR (l.drop a) p=(e,t,n)) :
  Met δ base 121 (cC l a p) [] (.ok (.tup [.agg t.cells,.int .i64 (e:Int)])) (cC l (a+n) (qc p ((l.drop a).take n))):=by
 refine PM.met ?_ rfl λp st=>hb.no 121 dc _ _;refine qa x75 haa (hb.pur 121 3 dc) rfl ?_;simp only[y75,jj,ζ,θ,κ,μ];rw[(by unfold z75;simp only[qq];rfl:z75=_)];have hrl:(l.drop a).length=l.length - a:=Qav;have S:=λ(n:Nat) (h:a+n<=l.length)=>@jin base hb l a n p h om hp1 hp2 hp3;have C0:Cl (nw st0 (cC l a p)) 0 (cC l a p):=Cl.new st0 _;unfold cC at *;generalize hr:l.drop a=r at *;have hL:=KA hb;have hD:=jfk hb;have hI:=je1 hb;have hR:=gA hb r om hI;have hR2:=gA hb r om hD;have hK:=jj8 hb;have hS:=jrS hb r om;have l1:=Zu Jg r;have l2:=Zu qf r;have l3:=jct r;have S1:=λst q=>@S (q7 Jg r) om st q;have S2:=λst q=>@S (q7 qf r) om st q;have S3:=λst q=>@S (U2 r) om st q;clear S;rcases r with _|⟨x,r'⟩
 .simp only[yR,Prod.mk.injEq] at h;repeat' first|apply jb<;>intro _|simp(disch:=try exact dzA) only[hr,rzZ,γ,ε]
  obtain⟨rfl,rfl,rfl⟩:=h;refine G1.done (c':=[_,_,_,_]) ?_ rfl rfl (FzD.tup (.cons (.agg (.pc rfl)) (.pc rfl)));simp(disch:=first|assumption|decide|omega|(simp only[jf,ji,jm,ju,jl,q6,τ,φ];first|done|omega)) only[jA,jE,jz];exact C0
 .have e0:x :: r'≠[]:=by simp
  have e1:(0:Int)<((x :: r').length:Int):=by simp
  have P0:qf x=true->WB ((x :: r').take (q7 qf (x :: r'))):=λh=>jea h;have P1:qf x=true->q7 qf (x :: r')<=7->∀ st K Kp,XB δ base 160 [.str ((x :: r').take (q7 qf (x :: r'))),.int .i64 10,.int .i64 64] st K Kp=K (.tup [.int .i64 (vH ((x :: r').take (q7 qf (x :: r'))):Int),.nilif]) st:=λh h7 st K Kp=>by
   have e:((x :: r').take (q7 qf (x :: r'))).length<=7:=by rw[Qas];omega
   exact GX ((hP _ st (P0 h) om).1 e) K Kp
  have P2:qf x=true->7<q7 qf (x :: r')->∀ st K Kp,XB δ base 160 [.str ((x :: r').take (q7 qf (x :: r'))),.int .i64 10,.int .i64 64] st K Kp=K (.tup [.bad,.bad]) st:=λh h7 st K Kp=>by
   have e:((x :: r').take (q7 qf (x :: r'))).length=q7 qf (x :: r'):=by rw[Qas];omega
   exact GX ((hP _ st (P0 h) om).2 om) K Kp
  unfold yR at h;simp only at h;generalize q7 Jg (x :: r')=n1 at *;generalize q7 qf (x :: r')=n2 at *;generalize U2 (x :: r')=n3 at *;by_cases c1:zN x=true
  .rw[if_pos c1] at h
   (have zz:=aI @jA (aI @jE @C0);repeat' first|apply jb<;>intro _|simp(disch:=try exact JY) only[hr,e0,e1,hL,hR,hK,S1,jA,jE,c1,jA,jE,C0,rzZ,γ,ε])
   all_goals((first|rw[if_pos om] at h|rw[if_neg om] at h);(first|rw[if_pos (by assumption)] at h|rw[if_neg (by assumption)] at h|skip);simp only[Prod.mk.injEq] at h;obtain⟨rfl,rfl,rfl⟩:=h;refine G1.done (c':=[_,_,_,_]) ?_ rfl rfl (FzD.nx rfl rfl);simp(disch:=first|assumption|decide|omega|(simp only[jf,ji,jm,ju,jl,q6,τ,φ];first|done|omega)) only[jA,jE,jz];first|exact C0|(refine Cl.wr0 (c:=[.str l,.int .i64 (a:Int),.int .i64 (p.1:Int),.int .i64 (p.2:Int)]) ?_ rfl;simp(disch:=first|assumption|decide|omega|(simp only[jf,ji,jm,ju,jl,q6,τ,φ];first|done|omega)) only[jA,jE,jz];exact C0))
  .rw[if_neg c1] at h;by_cases c2:qf x=true
   .rw[if_pos c2] at h;by_cases h7:7<n2
    .repeat' first|apply jb<;>intro _|simp(disch:=try exact dzA) only[hr,e0,e1,hL,hD,hR2,P2,c1,c2,rzZ,γ,ε]
     all_goals((first|rw[if_pos om] at h|rw[if_neg om] at h);(first|rw[if_pos (by assumption)] at h|rw[if_neg (by assumption)] at h|skip);simp only[Prod.mk.injEq] at h;obtain⟨rfl,rfl,rfl⟩:=h;refine G1.done (c':=[_,_,_,_]) ?_ rfl rfl (FzD.nx rfl rfl);simp(disch:=first|assumption|decide|omega|(simp only[jf,ji,jm,ju,jl,q6,τ,φ];first|done|omega)) only[jA,jE,jz];first|exact C0|(refine Cl.wr0 (c:=[.str l,.int .i64 (a:Int),.int .i64 (p.1:Int),.int .i64 (p.2:Int)]) ?_ rfl;simp(disch:=first|assumption|decide|omega|(simp only[jf,ji,jm,ju,jl,q6,τ,φ];first|done|omega)) only[jA,jE,jz];exact C0))
    ·(have zz:=aI @jA (aI @jE @C0);repeat' first|apply jb<;>intro _|simp(disch:=try exact JY) only[hr,e0,e1,hL,hD,hR2,P1,S2,c1,c2,jsd,jA,jE,C0,rzZ,γ,ε])
     all_goals((first|rw[if_pos om] at h|rw[if_neg om] at h);(first|rw[if_pos (by assumption)] at h|rw[if_neg (by assumption)] at h|skip);simp only[Prod.mk.injEq] at h;obtain⟨rfl,rfl,rfl⟩:=h;refine G1.done (c':=[_,_,_,_]) ?_ rfl rfl (FzD.nx rfl rfl);simp(disch:=first|assumption|decide|omega|(simp only[jf,ji,jm,ju,jl,q6,τ,φ];first|done|omega)) only[jA,jE,jz];first|exact C0|(refine Cl.wr0 (c:=[.str l,.int .i64 (a:Int),.int .i64 (p.1:Int),.int .i64 (p.2:Int)]) ?_ rfl;simp(disch:=first|assumption|decide|omega|(simp only[jf,ji,jm,ju,jl,q6,τ,φ];first|done|omega)) only[jA,jE,jz];exact C0))
   .rw[if_neg c2] at h
    (have zz:=aI @jA (aI @jE @C0);repeat' first|apply jb<;>intro _|simp(disch:=try exact JY) only[hr,e0,e1,hL,hD,hS,S3,c1,c2,jA,jE,C0,rzZ,γ,ε])
    all_goals((first|rw[if_pos om] at h|rw[if_neg om] at h);(first|rw[if_pos (by assumption)] at h|rw[if_neg (by assumption)] at h|skip);simp only[Prod.mk.injEq] at h;obtain⟨rfl,rfl,rfl⟩:=h;refine G1.done (c':=[_,_,_,_]) ?_ rfl rfl (FzD.nx rfl rfl);simp(disch:=first|assumption|decide|omega|(simp only[jf,ji,jm,ju,jl,q6,τ,φ];first|done|omega)) only[jA,jE,jz];first|exact C0|(refine Cl.wr0 (c:=[.str l,.int .i64 (a:Int),.int .i64 (p.1:Int),.int .i64 (p.2:Int)]) ?_ rfl;simp(disch:=first|assumption|decide|omega|(simp only[jf,ji,jm,ju,jl,q6,τ,φ];first|done|omega)) only[jA,jE,jz];exact C0))
theorem Tk.cells_l (t:Tk):t.cells.length=5:=nr rfl
theorem Tk.cells_g (t:Tk)(k:Nat):t.cells.getD k .bad=([.int .i64 (t.kind:Int),.str t.text,.int .i64 (t.num:Int),.int .i64 (t.line:Int),.int .i64 (t.col:Int)]:List AV).getD k .bad:=nr rfl
theorem Tk.cells_d (t:Tk)(k:Nat):t.cells.drop k=([.int .i64 (t.kind:Int),.str t.text,.int .i64 (t.num:Int),.int .i64 (t.line:Int),.int .i64 (t.col:Int)]:List AV).drop k:=nr rfl
theorem Tk.cells_p (t:Tk):t.cells.all pc=true:=rfl
theorem Tk.cells_c (t:Tk):lall AV.cell t.cells=true:=nr rfl
theorem Tk.cells_R:type_of% (a4 @Tk.cells_l @Tk.cells_g @Tk.cells_d (aI @Tk.cells_c (frE Tk.cells_l))):=(a4 @Tk.cells_l @Tk.cells_g @Tk.cells_d (aI @Tk.cells_c (frE Tk.cells_l)))
theorem Tk.cells_E:type_of% (aI @Tk.cells_l (aI @Tk.cells_c @Tk.cells_g)):=(aI @Tk.cells_l (aI @Tk.cells_c @Tk.cells_g))
theorem dzC {p:Prop}(h:p:=by first|assumption|decide|omega|(simp only[Tk.cells_E,rzN,τ,φ];first|done|omega)|(apply J4<;>first|omega|((simp(disch:=first|assumption|omega|(simp only[Tk.cells_E,rzN,τ,φ];first|done|omega)) only[rzL,τ,φ,Qaj,γ,Tk.cells_E ])<;>first|done|omega))|(simp(disch:=first|assumption|omega|(simp only[Tk.cells_E,rzN,τ,φ];first|done|omega)) only[Tk.cells_E,rzG,κ,μ,ε,QaF,τ,φ,Qai,Qam];first|done|omega|decide)):p:=h
theorem jmB {p:Prop}(h:p:=by first|assumption|decide|omega|(simp only[Tk.cells_E,zz,rzN,τ,φ];first|done|omega)|(apply J4<;>first|omega|((simp(disch:=first|assumption|omega|(simp only[Tk.cells_E,zz,rzN,τ,φ];first|done|omega)) only[rzL,τ,φ,Qaj,γ,Tk.cells_E,zz ])<;>first|done|omega))|(simp(disch:=first|assumption|omega|(simp only[Tk.cells_E,zz,rzN,τ,φ];first|done|omega)) only[Tk.cells_E,zz,rzG,κ,μ,ε,QaF,τ,φ,Qai,Qam];first|done|omega|decide)):p:=h
def zG (q:Nat×Nat×Nat):List AV:=[.int .i64 (q.1:Int),.int .i64 (q.2.1:Int),.int .i64 (q.2.2:Int)]
theorem jl9 {r:Lc}{p:Nat×Nat}{e n:Nat}{t:Tk}(h:yR r p=(e,t,n)):t.line=p.1/\t.col=p.2:=by
 cases r with
 |nil=>simp[yR] at h;rw[<-h.2.1];exact⟨rfl,rfl⟩
 |cons x r'=>
  unfold yR at h;simp only at h;split at h
  .split at h<;>(simp only[Prod.mk.injEq] at h;rw[<-h.2.1];exact⟨rfl,rfl⟩)
  .split at h
   .split at h<;>(simp only[Prod.mk.injEq] at h;rw[<-h.2.1];exact⟨rfl,rfl⟩)
   .split at h<;>(simp only[Prod.mk.injEq] at h;rw[<-h.2.1];exact⟨rfl,rfl⟩)
theorem joi (hb:NB base)(hP:PI base)(l:Lc)(hl:l.length<=9223372036854775807):Tot base 88 [.str l] (.tup [.lst (qj l).1.length (fl Tk.cells (qj l).1),.agg (zG (qj l).2)]):=by
 refine hb.tot ?_ rfl rfl;refine jB x35 haa (hb.pur 88 1 dc) ?_;simp only[y35,jj,ζ,θ,κ,μ];rw[(by unfold z35;simp only[qq];rfl:z35=_)];repeat' first|apply jb<;>intro _|simp(disch:=try exact dzC) only[Tk.cells_R,rzZ,γ,ε]
 .rw[show qj l=([],(132,1,1)) from if_pos om];exact FzD.tup (.cons .nils (.cons (.agg (.pc haa)) .nil))
 .have hl:l.length<=65536:=om
  rw[show qj l=JE l (1,1) from if_neg om];refine ye (λmm L s=>∃ (a:Nat) (p:Nat×Nat) (acc:List Tk) (v:AV),a<=l.length/\mm=l.length - a/\p.1+(l.length - a)<=l.length+1/\p.2+(l.length - a)<=l.length+1/\1<=p.2/\acc.length<=a/\ahead acc (JE (l.drop a) p)=JE l (1,1)/\2<=s.nx/\Cl s 0 [.int .i64 0,.int .i64 0,.int .i64 0]/\Cl s 1 (cC l a p)/\Lv 2 s.nx s v acc.length (fl Tk.cells acc) 5/\Has L 3 (.ptr 0 0)/\Has L 4 (.ptr 1 0)/\Has L 5 v) ?_ l.length ?_
  .rintro mm L s ⟨a,p,acc,v,ha,rfl,h1,h2,h3,h4,h5,h6,C0,C1,V,i3,i4,i5⟩;obtain⟨m,hm⟩:∃ m,m=s.nx:=⟨_,rfl⟩;rw[<-hm] at V;have hm':m<=s.nx:=QaY hm;have hgl:=kL (l.drop a);rw[Qav] at hgl;have W:=WQ ((l.drop a).take (qb (l.drop a))) p h3;have hlt:((l.drop a).take (qb (l.drop a))).length=qb (l.drop a):=by rw[Qas,Qav];omega
   rw[hlt] at W;have B:=λst q=>@jmH base hb l a p ha om om h3 om st q;rcases hx:yR ((l.drop a).drop (qb (l.drop a))) (qc p ((l.drop a).take (qb (l.drop a)))) with ⟨e,t,n⟩
   have hN:=hx;rw[Qbw] at hN;have hnl:=Ky hN;rw[Qav] at hnl;have N:=λst q=>@jsc base hb hP l (a+qb (l.drop a)) e n t (qc p ((l.drop a).take (qb (l.drop a)))) om om om om W.2.2 hN st q;have B1:=λK Kp=>B s 1 C1 K Kp;have N1:=λK Kp=>N (wr s 1 0 (cC l (a+qb (l.drop a)) (qc p ((l.drop a).take (qb (l.drop a)))))) 1 (C1.wr0 rfl) K Kp;clear B N;have hT:t.line=(qc p ((l.drop a).take (qb (l.drop a)))).1/\t.col=(qc p ((l.drop a).take (qb (l.drop a)))).2:=jl9 hN;generalize hq:qc p ((l.drop a).take (qb (l.drop a)))=q at *;generalize hg:qb (l.drop a)=g at *;have aE:=λ(he:e≠0)=>jjY (acc:=acc) (by rw[hg,hq];exact hx) he;have W2:=WQ ((l.drop (a+g)).take n) q W.2.2;have hlt2:((l.drop (a+g)).take n).length=n:=by rw[Qas,Qav];omega
   rw[hlt2] at W2;have A:=λst bv xc xx K h hv=>@Jt 2 m acc.length 5 st v (fl Tk.cells acc) K 48 bv xc xx h dc om om hv;have V2:∀ st m',Lv 2 m st v acc.length (fl Tk.cells acc) 5->2<=st.nx->m'=st.nx+1->Lv 2 m' (aps v st t.cells) (apv 5 v st) (acc ++ [t]).length (fl Tk.cells (acc ++ [t])) 5:=λst m' h h2 h3=>by
    rw[υ,Xl,Qc];exact h.put (Tk.cells_l t) h2 h3
   unfold cC at *;by_cases he:e=0
   .subst he;have hk:=gQ hN;by_cases hn:n=0
    .subst hn;have k5:t.kind=5:=hk.1.2 rfl
     (have zz:=a4 V.ln @jD @jG (aI @V (aI C0.r C1.r));repeat' first|apply jb<;>intro _|simp(disch:=try exact jmB) only[ja i3,ja i4,ja i5,B1,N1,A,V.at,C0.q,C1.q,V.ln,jD,jG,V,C0.r,C1.r,Tk.cells_R,rzZ,γ,ε])
     rw[<-h5,jjZ (by rw[hg,hq];exact hx)];refine FzD.tup (.cons ((?_:Lv 2 (s.nx+3) _ _ _ _ 5).fz (Qae _) (zq Tk.cells_p _)) (.cons (.agg (.pc haa)) .nil));simp(disch:=first|decide|omega) only[jH,jD];refine V2 _ _ ?_ (by simp only[jf,ji];omega) (by simp only[jf,ji]);simp(disch:=first|decide|omega|(simp only[jf,ji];omega)) only[jH,jD,jG];exact V
    .have k5:¬ (t.kind:Int)=5:=λh=>hn (hk.1.1 om)
     (have zz:=a4 V.ln @jD @jG (aI @V (aI C0.r C1.r));repeat' first|apply jb<;>intro _|simp(disch:=try exact jmB) only[ja i3,ja i4,ja i5,B1,N1,A,V.at,C0.q,C1.q,V.ln,jD,jG,V,C0.r,C1.r,Tk.cells_R,rzZ,γ,ε])
     have hA:=jhu (acc:=acc) (show yR ((l.drop a).drop (qb (l.drop a))) (qc p ((l.drop a).take (qb (l.drop a))))=(0,t,n) by rw[hg,hq];exact hx) hn;rw[hg,hq] at hA;simp only[Qbw,<-Qbj] at hA;refine⟨l.length - (a+g+n),om,a+g+n,qc q ((l.drop (a+g)).take n),acc ++ [t],?_,om,rfl,om,om,W2.2.2,by rw[υ,List.length_singleton];omega,by rw[<-h5,hA],om,?_,?_,?_,?_,?_,?_⟩;rotate_left
     .simp(disch:=first|decide|omega|(simp only[jf,ji];omega)) only[V.cl,jA,jE];exact C0
     .simp(disch:=first|decide|omega|(simp only[jf,ji];omega)) only[V.cl,jA,jE];exact(C1.wr0 haa).wr0 haa
     .refine V2 _ _ ?_ ?_ ?_;all_goals first|(simp only[jf,ji];done)|(simp only[jf,ji];omega)|(simp(disch:=first|decide|omega|(simp only[jf,ji];omega)) only[jH,jD,jG];exact V)
     .simp(disch:=decide) only[h12,i3]
     .simp(disch:=decide) only[h12,i4]
     .simp(disch:=decide) only[h12]
   ·(have zz:=a4 V.ln @jD @jG (aI @V (aI C0.r C1.r));repeat' first|apply jb<;>intro _|simp(disch:=try exact jmB) only[ja i3,ja i4,ja i5,B1,N1,A,V.at,C0.q,C1.q,V.ln,jD,jG,V,C0.r,C1.r,Tk.cells_R,rzZ,γ,ε])
    rw[<-h5,aE he];exact FzD.tup (.cons .nils (.cons (.agg (.pc haa)) .nil))
  .refine⟨0,(1,1),[],.nils,om,rfl,om,om,η _,Qae _,jjX _ _,η _,?_,?_,Lv.nil,?_⟩
   .simp(disch:=first|assumption|decide|omega|(simp only[jf,ji,jm,ju,jl,q6,τ,φ];first|done|omega)) only[jA,jE,jz];exact Cl.new st0 _
   .exact Cl.new (nw st0 _) _
   .simp(disch:=decide) only[h12]
def jld:XC:=(OK [IV 2 0,Tw] [OZ 5 2,oF 6 5,OP 7 6 3,oy 8 7,OV 9 8 0 2,OS 10 8 9,Tr 11 8 .eql 10 4,T7 12 8 11,oy 13 12,Os 14 13 1,Tv 15 13 1 2,Td 16 13 15,O7 17 (13,true) 185 [] [14,16],II 18 13 17 OI,TR 18])
def jqR:XF:=⟨[0,1],jld,[(.t 4)]⟩
theorem jwq:jx δ 162=some jqR:=Qa0
def jla:XC:=(IZ [IV 3 0,IV 4 1,IV 5 2,T4 6] (IY [Oq 7 14] 0 (.seq (oM (T5 8 7 (Th 9 .lss 8 31)) 9 .skip (.exit 0)) (IK 1 (OQ [To 12 7,(Ts 13 188 12 0 [],some [TM 13,Ic (Tu 14 3) 0,Ij (oF 15 14) 14 9 [(1,0)],Ic (oK 16 IH) 0]),IT 14 1 3,Oj 15 14 14 9 [(1,0)],IJ (ow 16 (.strb .eql 13 15))] (TC 16 [oy 17 7,TJ 18 4,TJ 19 5,Ip 20 2 6 (Tf oB oB oJ oB oB) [((0,6),18),((6,6),19)],TB 21 3,oF 22 21,oD 23 4 3,oF 24 23,IG 25 (Tf oB oB oJ oB oB) [((0,1),17),((3,1),20),((4,1),22),((5,1),24)],o9 6 6 25] .skip)) (TA 10 7 (IQ 11 10 1) 7 11)))) [IG 26 (Tf oB oB oJ oB oB) [],o9 6 6 26])
def jqO:XF:=⟨[0,1,2],jla,[(.cA 6 6)]⟩
theorem jwn:jx δ 172=some jqO:=Qa0
def z94:XC:=(OK [Oz 0] [TG 1 1 oJ [Ow 0 [60,45,62]],IG 2 [.nils,oB] [((0,1),1),((1,1),OM)],TG 3 1 oJ [Ow 0 [45,62]],IG 4 [.nils,oB] [((0,1),3),((1,1),Tb)],TG 5 1 oJ [O4 0 124],IG 6 [.nils,oB] [((0,1),5),((1,1),OM)],TG 7 1 oJ [O4 0 38],IG 8 [.nils,oB] [((0,1),7),((1,1),OM)],TG 9 4 oJ [O4 0 85,O4 1 82,O4 2 83,O4 3 84],IG 10 [.nils,oB] [((0,1),9),((1,1),Tb)],TG 11 6 oJ [O4 0 61,Ow 1 [33,61],O4 2 60,Ow 3 [60,61],O4 4 62,Ow 5 [62,61]],IG 12 [.nils,oB] [((0,1),11),((1,1),IR 2)],TG 13 2 oJ [O4 0 43,O4 1 45],IG 14 [.nils,oB] [((0,1),13),((1,1),OM)],TG 15 1 oJ [O4 0 42],IG 16 [.nils,oB] [((0,1),15),((1,1),OM)],Ip 17 8 2 [.nils,oB] [((0,2),2),((2,2),4),((4,2),6),((6,2),8),((8,2),10),((10,2),12),((12,2),14),((14,2),16)],oz 0 17])
def y94:XF:=⟨[],z94,[(.t 0)]⟩
theorem x94:jx δ 137=some y94:=Qa0
def z77:XC:=(ou [IV 3 1] (Oo [Iz 4,Th 5 .geq 4 32] 5 [o7 6 5 3,OG 7 98 6]))
def y77:XF:=⟨[0,1],z77,[]⟩
theorem x77:jx δ 123=some y77:=Qa0
def z50:XC:=(ou [IV 1 0] (.ops [TB 2 1,oF 3 2,oD 4 4 1,oF 5 4,IG 6 [oB,oB,oB] [((0,1),IR 151),((1,1),3),((2,1),5)],ol 7 (.iface 71 6),o6 (.pan 7)]))
def y50:XF:=⟨[0],z50,[]⟩
theorem x50:jx δ 98=some y50:=Qa0
def z49:XC:=(oX [Ib 2 [oB,oJ,oB,oB,oB]] (.cops [Tp 3,La 4 3,Iw (OZ 5 4),O5 6 5,Tp 7,La 8 7,Iw (Tu 9 8),O5 10 9,Iw (Ih 11 5 6 10),Iw (o7 12 5 11),Iw (o9 5 2 12)]) .ret)
def y49:XF:=⟨[0],z49,[(.cA 2 5)]⟩
theorem x49:jx δ 97=some y49:=Qa0
def z76:XC:=(ou [Ib 4 [oB,oJ,oB,oB,oB],OA 5] (Oy [Iz 7,OG 8 97 7,Ib 6 [oB,oJ,oB,oB,oB],o9 5 6 8] [o7 9 5 6,OU 10,OL 11 162 9 10,TH 12 11] 12 [o7 13 5 6,o9 5 4 13,OA 5] (OK [Iz 14,Ix 15 14,Tu 16 15,oF 17 16,IQ 18 17 1,Ix 19 14,Tu 20 19,TV 20 18] [o7 21 5 6,o9 5 4 21,oK 5 Io])))
def y76:XF:=⟨[0,1],z76,[(.cA 4 5),(.t 5)]⟩
theorem x76:jx δ 122=some y76:=Qa0
def GU:XC:=(ou [Iz 7,OU 8,TG 9 1 oJ [((0,1),8)],OL 10 122 7 9,oy 6 10,O8 11 6,O9 12 6,Ib 4 [oB,oJ,oB,oB,oB],o9 5 4 11,oz 5 12] (Oo (T5 13 5 (TH 14 13)) 14 [o7 15 5 4,OG 16 98 15]))
def jlz:XF:=⟨[0,1],GU,[]⟩
theorem jrf:jx δ 164=some jlz:=Qa0
def jb2:XC:=(ou [Ib 2 [oB,oJ,oB,oB,oB]] (oX [Iz 4,OG 5 97 4,Ib 3 [oB,oJ,oB,oB,oB],o9 5 3 5] (Oo [OZ 6 3,oF 7 6,Th 8 .neq 7 1] 8 [o7 9 5 3,OG 10 98 9]) (OK [Iz 11,Ix 12 11,Tu 13 12,oF 14 13,IQ 15 14 1,Ix 16 11,Tu 17 16,TV 17 15] [o7 18 5 3,o9 5 2 18])))
def jlA:XF:=⟨[0],jb2,[(.cA 2 5)]⟩
theorem jrg:jx δ 163=some jlA:=Qa0
def WM:XC:=(Te [IO 2] [Iz 7,TG 8 1 oJ [O4 0 45],OL 9 122 7 8,oy 6 9,O8 10 6,O9 11 6,ol 3 (.alloc [oB,oJ,oB,oB,oB]),o9 5 3 10,TR 11] (oX [Iz 12,OG 13 97 12,Ib 5 [oB,oJ,oB,oB,oB],o9 5 5 13] (Oo [OZ 14 5,oF 15 14,Th 16 .neq 15 2] 16 [o7 17 5 5,OG 18 98 17]) (IZ [Iz 19,Ix 20 19,Tu 21 20,oF 22 21,IQ 23 22 1,Ix 24 19,Tu 25 24,TV 25 23] (ID [oz 26 4] 26 [oD 27 2 5,oF 28 27,ol 29 (.un .neg 28),Tl 29]) [oD 30 2 5,oF 31 30,Tl 31])))
def jb3:XF:=⟨[0],WM,[(.t 2)]⟩
theorem jga:jx δ 165=some jb3:=Qa0
def jb0:XC:=(ou [Iz 2,Ix 3 2,oD 4 2 3,oF 5 4,IQ 6 5 1,Ix 7 2,oD 8 2 7,TV 8 6] (Oo [Iz 9,Ix 10 9,oD 11 2 10,oF 12 11,Th 13 .gtr 12 60] 13 [Iz 14,OG 15 97 14,OG 16 98 15]))
def jlx:XF:=⟨[0],jb0,[]⟩
theorem jrd:jx δ 187=some jlx:=Qa0
def Qp:XC:=(Te [T4 2] [Iz 5,OG 6 97 5,Ib 3 [oB,oJ,oB,oB,oB],o9 5 3 6] (oX [TB 7 3,oF 8 7,oD 9 4 3,oF 10 9,IG 11 (Tf oB oB oJ oB oB) [((4,1),8),((5,1),10)],T4 4,o9 6 4 11] (.block 0 (oM [OZ 15 3,oF 16 15,OP 17 16 2,oz 14 17] 14 (.dops [IT 18 2 3,Tj 19 18 18 2,IT 20 0 4,T6 1 20 Tb [(1,2)],IT 21 1 4,T6 1 21 19 []]) (oM [OZ 23 3,oF 24 23,OP 25 24 1,oz 22 25] 22 (.dops [IT 26 1 3,Tj 27 26 26 9,IT 28 0 4,T6 1 28 (IR 3) [(1,9)],IT 29 2 4,T6 1 29 27 []]) (oM [o7 31 5 3,TG 32 1 oJ [Ow 0 [116,114,117,101]],OL 33 162 31 32,oz 30 33] 30 (.ops [OZ 34 4,TV 34 (IR 2),Tu 35 4,TV 35 Tb]) (oM [o7 37 5 3,TG 38 1 oJ [Ow 0 [102,97,108,115,101]],OL 39 162 37 38,oz 36 39] 36 (.ops [OZ 40 4,TV 40 (IR 2)]) (oM [o7 42 5 3,TG 43 1 oJ [O4 0 40],OL 44 162 42 43,oz 41 44] 41 (Te [Iz 45,Ix 46 45,Tu 47 46,oF 48 47,IQ 49 48 1,Ix 50 45,Tu 51 50,TV 51 49] [Iz 52,OG 53 187 52] (Te [Iz 54,Ig 55 137 [],OL 56 136 54 55,o9 6 4 56] [Iz 57,Ix 58 57,oD 59 2 58,oF 60 59,Ii 61 .sub 60 1,Ix 62 57,oD 63 2 62,TV 63 61] (OK [Iz 64,OL 65 164 64 (o4 [41])] [TJ 66 4,o9 6 2 66]))) (.ops [o7 12 5 3,OG 13 98 12]))))))) (OK [Iz 67,Ix 68 67,Tu 69 68,oF 70 69,IQ 71 70 1,Ix 72 67,Tu 73 72,TV 73 71] [TJ 74 4,o9 6 2 74])))
def uZ:XF:=⟨[0],Qp,[(.cA 2 6)]⟩
theorem WN:jx δ 186=some uZ:=Qa0
def vE:XC:=(ou [T4 2] (Oy [Iz 8,TG 9 9 oJ [O4 0 45,O4 1 33,O4 2 88,O4 3 70,O4 4 71,O4 5 89,O4 6 90,O4 7 79,O4 8 72],OL 10 122 8 9,oy 7 10,O8 11 7,O9 12 7,Ib 3 [oB,oJ,oB,oB,oB],o9 5 3 11,TR 12] (T5 13 4 (TH 14 13)) 14 [Iz 15,OG 16 186 15,o9 6 2 16] (ou [Iz 17,OG 18 187 17] (Te [Iz 19,OG 20 171 19,T4 5,o9 6 5 20] [Iz 21,Ix 22 21,oD 23 2 22,oF 24 23,Ii 25 .sub 24 1,Ix 26 21,oD 27 2 26,TV 27 25] (IZ [Oq 6 5] (Ie 0 (.seq (OQ [To 28 6,(Ts 29 188 28 0 [],some [TM 29,Ic (Tu 30 3) 0,Ij (oF 31 30) 30 9 [(1,0)],Ic (oK 32 IH) 0]),IT 30 1 3,Oj 31 30 30 9 [(1,0)],IJ (ow 32 (.strb .neq 29 31))] (IX 32 0)) (.block 1 (.ops (TA 33 6 (IQ 34 33 1) 6 34))))) [oy 35 6,TJ 36 5,Ip 37 1 6 (Tf oB oB oJ oB oB) [((0,6),36)],TB 38 3,oF 39 38,oD 40 4 3,oF 41 40,IG 42 (Tf oB oB oJ oB oB) [((0,1),35),((3,1),37),((4,1),39),((5,1),41)],o9 6 2 42])))))
def GW:XF:=⟨[0],vE,[(.cA 2 6)]⟩
theorem jce:jx δ 171=some GW:=Qa0
def z93:XC:=(Oy [T4 4] [OU 8,IU 9 8,Ti 10 .eql 9] 10 [Iz 11,OG 12 171 11,o9 6 4 12] (IY [Iz 13,OU 14,ol 15 (.slS 2 14 (some Tb) none),OL 16 136 13 15,T4 5,o9 6 5 16] 0 (.block 1 (Oy [Iz 18,OU 19,Ih 20 2 19 OM,OZ 21 20,oF 22 21,OL 23 122 18 22,oy 17 23,O8 24 17,O9 25 17,Ib 6 [oB,oJ,oB,oB,oB],o9 5 6 24,oz 7 25] (T5 26 7 (TH 27 26)) 27 [TJ 28 5,o9 6 4 28] (.seq (Id [OU 29,Ih 30 2 29 OM,Tu 31 30,oF 32 31,Th 33 .eql 32 1] 33 (OQ [Tc 34 5 6 6 194 [],Tc 35 6 5 5 65 [],TO 36,IJ (OU 37),(IB (OL 38 136 36 37) 0 [(2,65),(3,194)],I6),(IB (Ig 39 172 [34,35,38]) 0 [],I6),T6 6 4 39 []] .ret)) (OQ [Tc 40 5 6 6 194 [],Tc 41 6 5 5 65 [],TO 42,IJ (OU 43),IJ (ol 44 (.slS 2 43 (some Tb) none)),(IB (OL 45 136 42 44) 0 [(3,65),(4,194)],I6),(IB (Ig 46 172 [40,41,45]) 0 [],I6),T6 6 5 46 []] (ID [OU 47,Ih 48 2 47 OM,Tu 49 48,oF 50 49,Th 51 .eql 50 2] 51 [TJ 52 5,o9 6 4 52])))))))
def y93:XF:=⟨[0,1],z93,[(.cA 4 6)]⟩
theorem x93:jx δ 136=some y93:=Qa0
def z48:XC:=(Te [T4 2] [Iz 5,OG 6 97 5,Ib 3 [oB,oJ,oB,oB,oB],o9 5 3 6] (IZ [Iz 7,Ig 8 137 [],OL 9 136 7 8,T4 4,o9 6 4 9] (Oo [TJ 10 4,OG 11 138 10,TH 12 11] 12 [o7 13 5 3,OG 14 98 13]) [TJ 15 4,o9 6 2 15]))
def y48:XF:=⟨[0],z48,[(.cA 2 6)]⟩
theorem x48:jx δ 96=some y48:=Qa0
def jkZ:XC:=(ou [oK 2 oJ] (IZ [IG 4 [oJ,oJ,oJ,oJ,oJ,oJ,oJ,oJ,oJ,oJ,oJ,oJ,oJ,oJ,oJ,oJ,oJ,oJ,oJ,oJ,oJ,oJ,oJ,oJ,oJ,oJ] [O4 0 45,O4 1 33,O4 2 88,O4 3 70,O4 4 71,O4 5 89,O4 6 90,O4 7 79,O4 8 72,O4 9 42,O4 10 43,O4 11 45,O4 12 61,Ow 13 [33,61],O4 14 60,Ow 15 [60,61],O4 16 62,Ow 17 [62,61],O4 18 85,O4 19 82,O4 20 83,O4 21 84,O4 22 38,O4 23 124,Ow 24 [45,62],Ow 25 [60,45,62]],Ib 3 [oJ,oJ,oJ,oJ,oJ,oJ,oJ,oJ,oJ,oJ,oJ,oJ,oJ,oJ,oJ,oJ,oJ,oJ,oJ,oJ,oJ,oJ,oJ,oJ,oJ,oJ],o9 26 3 4] (ID [Iz 5,Ii 6 .lss 5 5,oy 7 6,Oh 8 7 0,Tr 9 7 .geq 8 31,On 10 7 Oi 9] 10 [oK 2 oJ]) [Iz 11,Ii 12 .sub 11 5,OO 13 26 1 3 12,oF 14 13,Tl 14]))
def jqC:XF:=⟨[0],jkZ,[(.t 2)]⟩
theorem jwb:jx δ 188=some jqC:=Qa0
def jkY:XC:=(IZ [IO 2] (.block 0 (oM [Iz 4,Ii 5 .geq 4 5,oy 6 5,Os 7 6 0,Iv 8 6 (o8 .leq 7 13),II 9 6 8 OI,oz 3 9] 3 (o3 [Oq 2 1]) (ID [Iz 11,Ii 12 .geq 11 14,oy 13 12,Os 14 13 0,Iv 15 13 (o8 .lss 14 31),II 16 13 15 OI,oz 10 16] 10 [Oq 2 2]))) [IO 2])
def jqB:XF:=⟨[0],jkY,[(.t 2)]⟩
theorem jwa:jx δ 189=some jqB:=Qa0
def jkX:XC:=(IZ [IV 1 0,TU] (ou [OZ 3 1,Ot 4 3] (.block 0 (T9 6 4 1 5 6 5 [Tu 7 1,oF 8 7,ON 9 .geq 8 oB,oy 10 9,Tv 11 10 1 1,Td 12 10 11,Iv 13 10 (o8 .leq 12 1000000),II 14 10 13 OI,oy 15 14,Tv 16 15 2 1,Td 17 15 16,Iv 18 15 (.strb .eql 17 (.c oJ)),II 19 15 18 OI,Tl 19] (T9 21 4 2 20 21 20 [Tu 22 1,oF 23 22,ON 24 .eql 23 oB,oy 25 24,OV 26 25 1 1,OS 27 25 26,Tr 28 25 .eql 27 1,T7 29 25 28,oy 30 29,Tv 31 30 2 1,Td 32 30 31,Iv 33 30 (.strb .eql 32 (.c oJ)),II 34 30 33 OI,Tl 34] (T9 36 4 3 35 36 35 [Tu 37 1,oF 38 37,ON 39 .eql 38 oB,oy 40 39,Tv 41 40 2 1,Td 42 40 41,O7 43 (40,true) 201 [] [42],II 44 40 43 OI,Tl 44] (ID (I4 (OP 46 4 4) 45 46) 45 [oD 47 2 1,oF 48 47,Tn 49 48 (.c oJ),Tl 49])))))) [Tu 50 1,oF 51 50,ON 52 .eql 51 oB,oy 53 52,Tv 54 53 2 1,Td 55 53 54,Iv 56 53 (.strb .eql 55 (.c oJ)),II 57 53 56 OI,Tl 57])
def jqA:XF:=⟨[0],jkX,[(.t 2)]⟩
theorem jv9:jx δ 190=some jqA:=Qa0
def z95:XC:=(OK [IV 1 0,TU] [TJ 3 1,OL 4 173 3 (IR 60),Tl 4])
def y95:XF:=⟨[0],z95,[(.t 2)]⟩
theorem x95:jx δ 138=some y95:=Qa0
def jb1:XC:=(IZ [IV 2 0,IV 3 1,Tw] (OQ [IT 5 0 2,Tj 6 5 5 3,IJ (Ii 7 .lss 6 1),To 8 7,IJ (OV 9 8 0 2),IM (OS 10 8 9) 9 3 [],IJ (Tr 11 8 .geq 10 31),IJ (T7 12 8 11),To 13 12,IM (OS 14 13 3) 3 3 [],IJ (Tr 15 13 .lss 14 1),IJ (T7 16 13 15),To 17 16,IJ (OV 18 17 3 2),IM (OS 19 17 18) 18 63 [],IJ (TT 20 17 19),IJ (OV 21 17 0 2),IM (OS 22 17 21) 21 3 [],(IB (O7 23 (17,false) 189 [] [22]) 0 [(3,63)],I6),IJ (Iu 24 17 (.bin .neq 20 23)),IJ (T7 25 17 24),To 26 25,IM (Iu 27 26 (.ldA 6 2)) 2 65 [],(IB (O7 28 (26,false) 190 [] [27]) 0 [],I6),IJ (Iu 29 26 (I8 28)),IJ (On 30 26 Oi 29)] (TC 30 [Tw] .skip)) [TB 31 2,oF 32 31,ol 33 (.fn 192 [3]),OL 34 191 32 33,ol 35 (I8 34),TR 35])
def jly:XF:=⟨[0,1],jb1,[(.t 4)]⟩
theorem jre:jx δ 173=some jly:=Qa0
def jkV:XC:=(OK [IV 2 0,OA 3] [TJ 4 2,oF 5 1,Ii 6 .sub 5 1,OL 7 173 4 6,ol 8 (I8 7),oz 3 8])
def jqy:XF:=⟨[0,1],jkV,[(.t 3)]⟩
theorem jv7:jx δ 192=some jqy:=Qa0
def jkW:XC:=(OK [Tw] [Iz 5,OU 6,OL 7 202 5 6,ON 8 .geq 7 oB,TR 8])
def jqz:XF:=⟨[0,1],jkW,[(.t 4)]⟩
theorem jv8:jx δ 191=some jqz:=Qa0
def jkQ:XC:=(Ty [IO 4] [Iz 6,IP 7 6,IO 8] 0 9 8 7 9 0 1 (OW 10 8 5 10) (ID [OU 11,Iz 12,oy 13 5,Ih 14 6 12 13,TJ 15 14,oE 16 true none 11 [15]] 16 (OW 17 5 4 17)) 18 8 1 8 18 [Oq 4 (-(0+1))])
def jqt:XF:=⟨[0,1],jkQ,[(.t 4)]⟩
theorem jv2:jx δ 202=some jqt:=Qa0
def jk0:XC:=(OK [Tw] [Iz 5,OU 6,OL 7 200 5 6,ON 8 .geq 7 oB,TR 8])
def jqD:XF:=⟨[0,1],jk0,[(.t 4)]⟩
theorem jwc:jx δ 185=some jqD:=Qa0
def jkS:XC:=(Ty [IO 4] [Iz 6,IP 7 6,IO 8] 0 9 8 7 9 0 1 (OW 10 8 5 10) (ID [OU 11,Iz 12,oy 13 5,TK 14 12 13,oF 15 14,ow 16 (.strb .eql 11 15)] 16 (OW 17 5 4 17)) 18 8 1 8 18 [Oq 4 (-(0+1))])
def jqv:XF:=⟨[0,1],jkS,[(.t 4)]⟩
theorem jv4:jx δ 200=some jqv:=Qa0
def jkR:XC:=(IZ [TU] (ID [Iz 3,Tn 4 3 (.c oJ),oy 5 4,Oh 6 5 0,Iu 7 5 (.lenS 6),Tr 8 5 .gtr 7 32,T7 9 5 8,oy 10 9,Oh 11 10 0,Iu 12 10 (.ixStr 11 OM),O7 13 (10,false) 156 [] [12],Iu 14 10 (I8 13),T7 15 10 14,oy 16 15,Oh 17 16 0,O7 18 (16,false) 158 [] [17],On 19 16 Oi 18] 19 [TU]) [Iz 20,OL 21 151 20 (oQ 157 []),Iz 22,ol 23 (.lenS 22),IW 24 .eql 21 23,Tl 24])
def jqu:XF:=⟨[0],jkR,[(.t 2)]⟩
theorem jv3:jx δ 201=some jqu:=Qa0
theorem dzD {p:Prop}(h:p:=by first|assumption|decide|omega|(simp only[qQ,Tk.cells_E,rzN,τ,φ];first|done|omega)|(apply J4<;>first|omega|((simp(disch:=first|assumption|omega|(simp only[qQ,Tk.cells_E,rzN,τ,φ];first|done|omega)) only[rzL,τ,φ,Qaj,γ,qQ,Tk.cells_E ])<;>first|done|omega))|(simp(disch:=first|assumption|omega|(simp only[qQ,Tk.cells_E,rzN,τ,φ];first|done|omega)) only[qQ,Tk.cells_E,rzG,κ,μ,ε,QaF,τ,φ,Qai,Qam];first|done|omega|decide)):p:=h
theorem cyD {p:Prop}(h:p:=by apply J4<;>first|omega|((simp(disch:=first|assumption|omega|(simp only[qQ,Tk.cells_E,rzN,τ,φ];first|done|omega)) only[rzL,τ,φ,Qaj,γ,qQ,Tk.cells_E])<;>first|done|rfl|omega|(simp;done)|(simp;omega))):p:=h
theorem qS {p:Prop}(h:p:=by first|assumption|decide|omega|(simp only[qQ,Tk.cells_E,zz,rzN,τ,φ];first|done|omega)|(apply J4<;>first|omega|((simp(disch:=first|assumption|omega|(simp only[qQ,Tk.cells_E,zz,rzN,τ,φ];first|done|omega)) only[rzL,τ,φ,Qaj,γ,qQ,Tk.cells_E,zz ])<;>first|done|omega))|(simp(disch:=first|assumption|omega|(simp only[qQ,Tk.cells_E,zz,rzN,τ,φ];first|done|omega)) only[qQ,Tk.cells_E,zz,rzG,κ,μ,ε,QaF,τ,φ,Qai,Qam];first|done|omega|decide)):p:=h
theorem qh {p:Prop}(h:p:=by apply J4<;>first|omega|((simp(disch:=first|assumption|omega|(simp only[qQ,Tk.cells_E,zz,rzN,τ,φ];first|done|omega)) only[rzL,τ,φ,Qaj,γ,qQ,Tk.cells_E,zz])<;>first|done|rfl|omega|(simp;done)|(simp;omega))):p:=h
theorem vyD {p:Prop}(h:p:=by first|exact FzD.u|exact FzD.pa haa|exact FzD.agg (.pc haa)|exact FzD.tup (.cons (FzD.agg (.pc haa)) (.pc haa))|exact FzD.iface (FzD.agg (.pc haa))|exact Yu|(rw[<-qx];exact FzD.agg (.pc (yd _)))|exact FzD.agg (.pc (by simp only[yd,Tk.cells_p]))):p:=h
theorem V4 {S:Lb}{k:Nat}(h:k<S.length):(S.map AV.str).getD k .bad=.str S[k]:=by simp[Qaf,h]
theorem r6:type_of%(aI @jd (aI @Tk.cells_R @rzZ)):=aI @jd (aI @Tk.cells_R @rzZ)
theorem jog (hb:NB base)(S:Lb)(hn:S.length<=1000000)(x:Lc):Tot base 200 [.lst S.length (S.map .str),.str x] (.int .i64 (fi (λy=>decide (x=y)) S)):=by
 refine hb.tot ?_ rfl rfl;refine jB jv4 haa (hb.pur 200 1 dc) ?_;simp only[jqv,jj,ζ,θ,κ,μ];rw[(by unfold jkS;simp only[qq];rfl:jkS=_)];repeat' first|apply jb<;>intro _|simp(disch:=try exact dzD) only[r6,γ,ε]
 refine jU S.length (λk L s=>(∀ j (h1:j<S.length),j<k->decide (x=S[j])=false)/\Has L 0 (.lst S.length (S.map .str))/\Has L 1 (.str x)) ?_ (λk L s hk hI hi hn=>?_) (λL s hI=>?_)
 .refine⟨λj _ hj=>absurd hj (QaI _),?_⟩;simp(disch:=decide) only[h12]
 .obtain⟨h0,i0,i1⟩:=hI;have hl:(S.map AV.str).length=S.length:=Qac ..;have e:=V4 hk
  (have zz:=@hl;repeat' first|apply jb<;>intro _|simp(disch:=try exact qS) only[ja i0,ja i1,ja hi,qI,e,hl,r6,γ,ε])
  .exact G0.v (by rw[Vv hk (λj hj=>h0 j om hj) (by simpa using ‹x=S[k]›)]) rfl
  .refine⟨⟨λj h1 hj=>?_,?_⟩,?_⟩
   .rcases Qaq j k with h|h
    .simpa using h0 j h1 h
    .have:j=k:=om
     subst this;simpa using ‹¬ x=S[j]›
   .simp(disch:=decide) only[h12,i0,i1]
   .simp(disch:=decide) only[h12,hi,hn]
 .obtain⟨h0,i0,i1⟩:=hI;repeat' first|apply jb<;>intro _|simp(disch:=try exact dzD) only[r6,γ,ε]
  exact G0.v (by rw[Vu λj hj=>h0 j hj hj];rfl) rfl
theorem jgU {α:Type}(q:α->Bool):∀ xs:List α,decide (0<=fi q xs)=xs.any q
 |[]=>rfl
 |x :: xs=>by
  have ih:=jgU q xs;by_cases h:q x=true
  .simp[fi,h]
  .rw[List.any_cons,<-ih];simp only[fi,h,if_false,Bool.false_or];by_cases h2:fi q xs<0
   .rw[if_pos h2];simp;omega
   .rw[if_neg h2];simp;omega
theorem jpy (x:Lc)(S:Lb):(S.any λy=>decide (x=y))=decide (x∈S):=by
 induction S with
 |nil=>rfl
 |cons y S ih=>rw[List.any_cons,ih];simp
theorem jtP (hb:NB base)(S:Lb)(hn:S.length<=1000000)(x:Lc):Tot base 185 [.lst S.length (S.map .str),.str x] (.bool (decide (x∈S))):=by
 refine hb.tot ?_ rfl rfl;refine jB jwc haa (hb.pur 185 1 dc) ?_;simp only[jqD,jj,ζ,θ,κ,μ];rw[(by unfold jk0;simp only[qq];rfl:jk0=_)];repeat' first|apply jb<;>intro _|simp(disch:=try exact dzD) only[jog hb S hn x,r6,γ,ε]
 exact G0.v (by rw[jgU,jpy]) rfl
def isM (t:Tk)(S:Lb):Bool:=decide (t.kind=3\/t.kind=4) && decide (t.text∈S)
theorem jtH (hb:NB base)(t:Tk)(S:Lb)(hn:S.length<=1000000):PX δ base 162 [.agg t.cells,.lst S.length (S.map .str)] (.ok (.bool (isM t S))):=by
 refine jB jwq haa (hb.pur 162 1 dc) ?_;simp only[jqR,jj,ζ,θ,κ,μ];rw[(by unfold jld;simp only[qq];rfl:jld=_)];repeat' first|apply jb<;>intro _|simp(disch:=try exact dzD) only[jtP hb S hn,r6,γ,ε]
 all_goals(refine G0.v ?_ rfl;unfold isM;simp;try omega)
theorem jtG (hb:NB base)(t:Tk)(S:Lb)(hn:S.length<=1000000):Tot base 162 [.agg t.cells,.lst S.length (S.map .str)] (.bool (isM t S)):=hb.tot (jtH hb t S hn) rfl rfl
def er (t:Tk):AV:=.iface 71 (.agg [.int .i64 151,.int .i64 (t.line:Int),.int .i64 (t.col:Int)])
theorem G0.er (t:Tk){s:St}:G0 (er t) (.iface 71 (.agg [.int .i64 151,.int .i64 (t.line:Int),.int .i64 (t.col:Int)])) s:=FzD.iface (FzD.agg (.pc rfl))
theorem Qf (hb:NB base)(t:Tk):Ret base 98 [.agg t.cells] (.pn (er t)):=by
 refine hb.ret ?_ rfl rfl;refine jB x50 haa (hb.pur 98 1 dc) ?_;simp only[y50,jj,ζ,θ,κ,μ];rw[(by unfold z50;simp only[qq];rfl:z50=_)];repeat' first|apply jb<;>intro _|simp(disch:=try exact dzD) only[r6,γ,ε]
 exact G0.er t
theorem jso (hb:NB base)(op:Int):Tot base 189 [.int .i64 op] (.int .i64 (if 5<=op/\op<=13 then 1 else if 14<=op/\op<31 then 2 else 0)):=by
 refine hb.tot ?_ rfl rfl;refine jB jwa haa (hb.pur 189 1 dc) ?_;simp only[jqB,jj,ζ,θ,κ,μ];rw[(by unfold jkY;simp only[qq];rfl:jkY=_)];repeat' first|apply jb<;>intro _|simp(disch:=try exact dzD) only[r6,γ,ε]
 all_goals(refine G0.v ?_ rfl;repeat' split)<;>first|rfl|(exfalso;omega)|(simp_all;done)|(simp;omega)|(simp_all;omega)
def vo:Lb:=[[45],[33],[88],[70],[71],[89],[90],[79],[72],[42],[43],[45],[61],[33,61],[60],[60,61],[62],[62,61],[85],[82],[83],[84],[38],[124],[45,62],[60,45,62]]
def sgn (op:Int):Lc:=if 5<=op/\op<31 then vo.getD (op - 5).toNat [] else []
theorem jj3 (hb:NB base)(op:Int):Tot base 188 [.int .i64 op] (.str (sgn op)):=by
 refine hb.tot ?_ rfl rfl;refine jB jwb haa (hb.pur 188 1 dc) ?_;simp only[jqC,jj,ζ,θ,κ,μ];rw[(by unfold jkZ;simp only[qq];rfl:jkZ=_)];repeat' first|apply jb<;>intro _|simp(disch:=try exact dzD) only[r6,γ,ε]
 .exact G0.v (by rw[sgn,if_neg om]) rfl
 .exact G0.v (by rw[sgn,if_neg om]) rfl
 .have h26:(op - 5).toNat<vo.length:=by show(op - 5).toNat<26;omega
  show G0 _ ((vo.map AV.str).getD _ _) _;rw[QaF,V4 h26];exact G0.v (by rw[sgn,if_pos om,Qab,Qad h26];rfl) rfl
def nm (l:Lc):Bool:=decide (l≠[]) && decide (l.length<=32) && zN (l.getD 0 0) && !Hy l && decide (q7 Jg l=l.length)
theorem jtE (hb:NB base)(l:Lc)(hl:l.length<=4611686018427387904):Tot base 201 [.str l] (.bool (nm l)):=by
 refine hb.tot ?_ rfl rfl;have e0:¬ l=[]->0<l.length:=λh=>by cases l<;>simp_all
 refine jB jv3 haa (hb.pur 201 1 dc) ?_;simp only[jqu,jj,ζ,θ,κ,μ];rw[(by unfold jkR;simp only[qq];rfl:jkR=_)];by_cases h:l=[]
 .subst h;repeat' first|apply jb<;>intro _|simp(disch:=try exact dzD) only[r6,γ,ε]
  exact G0.v rfl rfl
 .have e1:(0:Int)<(l.length:Int):=by have:=e0 h;omega
  repeat' first|apply jb<;>intro _|simp(disch:=try exact dzD) only[KA hb,jj8 hb,gA hb l hl (je1 hb),h,e1,r6,γ,ε]
  all_goals(refine G0.v (congrArg AV.bool ?_) rfl;rw[Qaw];unfold nm;simp_all<;>omega)
def Vn (x:Ex):Bool:=
 if x.op=1 then decide (0<=x.num) && decide (x.num<=1000000) && decide (x.name=[])
 else if x.op=2 then(decide (x.num=0) ||decide (x.num=1)) && decide (x.name=[])
 else if x.op=3 then decide (x.num=0) && nm x.name
 else if x.op=4 then decide (x.name=[])
 else decide (x.num=0) && decide (x.name=[])
theorem jsn (hb:NB base)(x:Ex)(hl:x.name.length<=4611686018427387904):Tot base 190 [.agg (eE x)] (.bool (Vn x)):=by
 refine hb.tot ?_ (by first|rfl|simp[pa,pc,yd,Tk.cells_p]) rfl;refine jB jv9 haa (hb.pur 190 1 dc) ?_;simp only[jqA,jj,ζ,θ,κ,μ];rw[(by unfold jkX;simp only[qq];rfl:jkX=_)];repeat' first|apply jb<;>intro _|simp(disch:=try exact dzD) only[jtE hb _ hl,r6,γ,ε]
 all_goals(refine G0.v ?_ rfl;simp only[Vn];simp[*];try omega)
theorem jis (hb:NB base)(n:Nat)(t:Tk):Ret base 123 [.int .i64 (n:Int),.agg t.cells] (if 32<=n then .pn (er t) else .ok (.tup [])):=by
 refine hb.ret ?_ rfl rfl;refine jB x77 haa (hb.pur 123 1 dc) ?_;simp only[y77,jj,ζ,θ,κ,μ];rw[(by unfold z77;simp only[qq];rfl:z77=_)];repeat' first|apply jb<;>intro _|simp(disch:=try exact dzD) only[Qf hb,r6,γ,ε]
 .rw[if_pos om];exact FzD.iface (FzD.agg (.pc rfl))
 .rw[if_neg om];exact FzD.u
def Xe (v:Lb×Nat):List AV:=[.lst v.1.length (v.1.map .str),.int .i64 (v.2:Int)]
def Jf:List (Lb×Nat):=[([[60,45,62]],0),([[45,62]],1),([[124]],0),([[38]],0),([[85],[82],[83],[84]],1),([[61],[33,61],[60],[60,61],[62],[62,61]],2),([[43],[45]],0),([[42]],0)]
theorem jcZ (hb:NB base):Tot base 137 [] (.lst 8 (fl Xe Jf)):=by
 refine hb.tot ?_ rfl rfl;refine jB x94 haa (hb.pur 137 1 dc) ?_;simp only[y94,jj,ζ,θ,κ,μ];rw[(by unfold z94;simp only[qq];rfl:z94=_)];repeat' first|apply jb<;>intro _|simp(disch:=try exact dzD) only[r6,γ,ε]
 exact⟨[8,0,1,2,3,4,5,6,7],by kernel_rfl,λb _=>Qae _⟩
theorem jeS {m d b cap:Nat}{s:St}{ks:List Ex}{op num l c:Int}{nm:Lc}{ex:Bool}{cs:List AV}(C:Cl s b cs)(hc:cs=fl eE ks)(hm:m<=b) :
  FzD m (d+4) s (.agg [.int .i64 op,.int .i64 num,.str nm,.slice b 0 ks.length cap 6 ex,.int .i64 l,.int .i64 c]) (.agg (eE (.mk op num nm ks l c))):=by
 subst hc;rw[qx];have hl:=zZ Jp ks;refine FzD.agg (.cons (.pc rfl) (.cons (.pc rfl) (.cons (.pc rfl) (.cons (FzD.slice C.rw_ (QaY hl.symm) hm ?_) (.pc rfl)))));rw[<-hl,Qak];exact .pc (zq yd ks)
theorem Yu {m d:Nat}{s:St}{op num l c:Int}{nm:Lc}:FzD m (d+2) s (.agg [.int .i64 op,.int .i64 num,.str nm,.nils,.int .i64 l,.int .i64 c]) (.agg (eE (.mk op num nm [] l c))):=by
 rw[qx];exact FzD.agg (.cons (.pc rfl) (.cons (.pc rfl) (.cons (.pc rfl) (.cons .nils (.pc rfl)))))
theorem jlL:Go.Ev.isAgg δ 9=some false:=Qa0
theorem jlK:Go.Ev.sizeOf δ 9=some 1:=Qa0
theorem gy {t:TypeId}{b i:Nat}{cs:List AV}{v:AV}{s:St}(h1:Go.Ev.isAgg δ t=some false)(h2:Go.Ev.sizeOf δ t=some 1)(C:Cl s b cs)(hi:i<cs.length)(hv:cs.getD i .bad=v)(hc:eqs v=true):jZ δ t (.ptr b i) v s.h=true:=
 JA h1 h2 (by rw[C.len];exact hi) ((C.cell i hi).trans hv) hc
section
variable {st:St} {K:AV->St->Prop}
theorem jry {z vs:List AV}{o:Nat}{a:List AV}(ha:z.take o=a)(h:o+vs.length=z.length):upd z o vs=a ++ vs:=by
 rw[<-Wi z o vs om,ha,h];simp
theorem jtz {cx cy:List AV}{z0 z1 z2 z3 z4 z5:AV}(hx:cx.length=6)(hy:cy.length=6)(hlx:lall AV.cell cx=true)(hly:lall AV.cell cy=true) :
  jk (HP 2 6 [z0,z1,z2,z3,z4,z5] [((0,6),.agg cx),((6,6),.agg cy)] st) K=K (.slice st.nx 0 2 2 6 true) (nw st (cx ++ cy)):=by
 have e1:upd ([z0,z1,z2,z3,z4,z5] ++ [z0,z1,z2,z3,z4,z5]) 0 cx=cx ++ [z0,z1,z2,z3,z4,z5]:=by
  rw[<-Wi _ 0 cx (by rw[hx];exact Nat.le_add_left _ _),hx];rfl
 have e2:upd (cx ++ [z0,z1,z2,z3,z4,z5]) 6 cy=cx ++ cy:=jry (by rw[<-hx,List.take_left]) (by rw[υ,hx,hy];rfl);rw[jmO,U4,U4,gE,QaU,jbS (v:=.agg cx) rfl hx (Nat.le_add_left 6 6),YI,e1,jbS (v:=.agg cy) rfl hy (by rw[υ,hx];exact η 12),YI,e2,jhx (by rw[jmg _ _ hlx,hly])]
end
def wF (text:Lc):Option Nat:=(ω 17).find? λi=>decide (sgn ((14+i:Nat):Int)=text)
def Qt (t:Tk)(x y:Ex):Ex:=match wF t.text with
 |some i=>.mk ((14+i:Nat):Int) 0 [] [x,y] t.line t.col
 |none=>.mk 0 0 [] [] 0 0
theorem jl6 {text:Lc}{i:Nat}(hi:i<17)(h:sgn ((14+i:Nat):Int)=text)(hj:∀ j,j<i->sgn ((14+j:Nat):Int)≠text):wF text=some i:=by
 unfold wF;rw[List.find?_range_eq_some];exact⟨by simpa using h,by simpa using hi,λj hj'=>by simpa using hj j hj'⟩
theorem jl5 {text:Lc}(hj:∀ j,j<17->sgn ((14+j:Nat):Int)≠text):wF text=none:=by
 unfold wF;rw[List.find?_range_eq_none];exact λj hj'=>by simpa using hj j hj'
def zE:List AV:=[.int .i64 0,.int .i64 0,.str [],.nils,.int .i64 0,.int .i64 0]
theorem juG (hb:NB base)(t:Tk)(x y:Ex):Tot base 172 [.agg t.cells,.agg (eE x),.agg (eE y)] (.agg (eE (Qt t x y))):=by
 refine hb.tot ?_ (by first|rfl|simp[pa,pc,yd,Tk.cells_p]) rfl;refine jB jwn haa (hb.pur 172 1 dc) ?_;simp only[jqO,jj,ζ,θ,κ,μ];rw[(by unfold jla;simp only[qq];rfl:jla=_)];repeat' first|apply jb<;>intro _|simp(disch:=try exact dzD) only[r6,γ,ε]
 have hC:=Cl.new st0 t.cells;have hs:jZ δ 9 (.ptr 0 1) (.str t.text) (nw (nw (nw (nw st0 t.cells) (eE x)) (eE y)) zE).h=true:=gy jlL jlK (((hC.nw _).nw _).nw _) (QbF (QaS 3)) rfl rfl;unfold zE at hs;refine ye (λmm L s=>∃ i:Nat,i<=17/\mm=17 - i/\s=nw (nw (nw (nw st0 t.cells) (eE x)) (eE y)) zE/\(∀ j,j<i->sgn ((14+j:Nat):Int)≠t.text)/\Has L 3 (.ptr 0 0)/\Has L 4 (.ptr 1 0)/\Has L 5 (.ptr 2 0)/\Has L 6 (.ptr 3 0)/\Has L 7 (.int .i64 ((14+i:Nat):Int))) ?_ 17 ?_
 .rintro mm L s ⟨i,hi,rfl,rfl,hj,i3,i4,i5,i6,i7⟩;unfold zE;have hS:=jj3 hb ((14+i:Nat):Int);repeat' first|apply jb<;>intro _|simp(disch:=try exact dzD) only[ja i3,ja i4,ja i5,ja i6,ja i7,hS,hs,↓jtz,r6,γ,ε]
  .have e:Qt t x y=.mk ((14+i:Nat):Int) 0 [] [x,y] t.line t.col:=by unfold Qt;rw[jl6 om ‹_› hj]
   rw[e];refine jeS (ks:=[x,y]) (cs:=eE x ++ eE y) ?_ (by simp[fl]) (Qae _);simp(disch:=first|assumption|decide|omega|(simp only[jf,ji,jm,ju,jl,q6,τ,φ];first|done|omega)) only[jA,jE,jz];exact Cl.new _ _
  .refine⟨17 - (i+1),om,i+1,om,rfl,λj hj'=>?_,?_⟩
   .by_cases h:j=i
    .rw[h];assumption
    .exact hj j om
   .rw[show((14+(i+1):Nat):Int)=((14+i:Nat):Int)+1 by omega];simp(disch:=decide) only[h12,i3,i4,i5,i6]
  .have e:Qt t x y=.mk 0 0 [] [] 0 0:=by unfold Qt;rw[jl5 λj hj'=>hj j om]
   rw[e];exact Yu
 .refine⟨0,om,rfl,rfl,λj hj=>absurd hj (QaI _),?_⟩;rw[show((14+0:Nat):Int)=14 from rfl];simp(disch:=decide) only[h12]
theorem jnb {P:Program}{f:FuncId}{xs:List AV}{st:St}{v:AV}{R:St->Prop}(h:∀ K Kp:AV->St->Prop,(∀ s,R s->K v s)->XB P base f xs st K Kp):∃ s,R s/\∀ K Kp:AV->St->Prop,XB P base f xs st K Kp=K v s:=by
 obtain⟨r,⟨N,D,h1⟩,h4⟩:=h (λv' s'=>v'=v/\R s') (λ_ _=>False) λs hs=>⟨rfl,hs⟩;cases r with
 |no=>exact h4.elim
 |pn v s=>exact h4.elim
 |ok v' s'=>
  obtain⟨rfl,hR⟩:=h4;exact⟨_,hR,λK Kp=>propext ⟨λ⟨r2,⟨N2,D2,h2⟩,h3⟩=>by
   have e1:=h1 (max N N2) (Qao ..) (max D D2) (Qao ..);have e2:=h2 (max N N2) (Qap ..) (max D D2) (Qap ..);rw[e1] at e2;subst e2;exact h3,λh=>⟨_,⟨N,D,h1⟩,h⟩⟩⟩
theorem jpg (hb:NB base)(xs:List Ex)(hn:xs.length<=4611686018427387904)(f:FuncId)(caps:List AV)(q:Ex->Bool){R:St->Prop}(hR:∀ s t:St,R s->R (bk t s))(hR2:∀ s:St,R s->R s.bare)
  (hq:∀ y∈xs,∀ s:St,R s->∃ s',R s'/\∀ K Kp:AV->St->Prop,XB δ base f (.agg (eE y) :: caps) s K Kp=K (.bool (q y)) s') {st:St} (h0:R st) :
  ∃ s',R s'/\∀ K Kp:AV->St->Prop,XB δ base 202 [.lst xs.length (fl eE xs),.fn f caps] st K Kp=K (.int .i64 (fi q xs)) s':=by
 refine jnb λK Kp hK=>?_;refine qu jv2 haa (hb.at0 202 dc dc _ _) ?_;simp only[jqt,jj,ζ,θ,κ,μ];rw[(by unfold jkQ;simp only[qq];rfl:jkQ=_)];have h0:=hR2 _ h0;have hK:∀ s,R s->K (.int .i64 (fi q xs)) (bk st s):=λs h=>hK _ (hR _ _ h);have hbk:bk st st.bare=st:=rfl;have hbc:back st st.bare=st:=rfl;have hbb:st.bare.bare=st.bare:=rfl;generalize st.bare=s0 at *;repeat' first|apply jb<;>intro _|simp(disch:=try exact dzD) only[r6,γ,ε]
 refine jU xs.length (λk L s=>R s/\(∀ j (h1:j<xs.length),j<k->q xs[j]=false)/\Has L 0 (.lst xs.length (fl eE xs))/\Has L 1 (.fn f caps)) ?_ (λk L s hk hI hi hn=>?_) (λL s hI=>?_)
 .refine⟨h0,λj _ hj=>absurd hj (QaI _),?_⟩;simp(disch:=decide) only[h12]
 .obtain⟨hs,h0,i0,i1⟩:=hI;obtain⟨s',hs',e⟩:=hq xs[k] (Qaa hk) s hs;repeat' first|apply jb<;>intro _|simp(disch:=try exact dzD) only[ja i0,ja i1,ja hi,e,r6,γ,ε]
  .have:=hK _ (hR2 _ hs');rw[Vv hk (λj hj=>h0 j om hj) ‹_›] at this;exact this
  .refine⟨⟨hs',λj h1 hj=>?_,?_⟩,?_⟩
   .rcases Qaq j k with h|h
    .exact h0 j h1 h
    .have:j=k:=om
     subst this;simpa using ‹¬ q xs[j]=true›
   .simp(disch:=decide) only[h12,i0,i1]
   .simp(disch:=decide) only[h12,hi,hn]
 .obtain⟨hs,h0,i0,i1⟩:=hI;repeat' first|apply jb<;>intro _|simp(disch:=try exact dzD) only[r6,γ,ε]
  have:=hK _ (hR2 _ hs);rw[Vu λj hj=>h0 j hj hj] at this;exact this
theorem jtt (hb:NB base)(xs:List Ex)(hn:xs.length<=4611686018427387904)(f:FuncId)(caps:List AV)(q:Ex->Bool){R:St->Prop}(hR:∀ s t:St,R s->R (bk t s))(hR2:∀ s:St,R s->R s.bare)
  (hq:∀ y∈xs,∀ s:St,R s->∃ s',R s'/\∀ K Kp:AV->St->Prop,XB δ base f (.agg (eE y) :: caps) s K Kp=K (.bool (q y)) s') {st:St} (h0:R st) :
  ∃ s',R s'/\∀ K Kp:AV->St->Prop,XB δ base 191 [.lst xs.length (fl eE xs),.fn f caps] st K Kp=K (.bool (xs.any q)) s':=by
 refine jnb λK Kp hK=>?_;refine qu jv8 haa (hb.at0 191 dc dc _ _) ?_;simp only[jqz,jj,ζ,θ,κ,μ];rw[(by unfold jkW;simp only[qq];rfl:jkW=_)];have h0:=hR2 _ h0;have hK:∀ s,R s->K (.bool (xs.any q)) (bk st s):=λs h=>hK _ (hR _ _ h);have hbk:bk st st.bare=st:=rfl;have hbc:back st st.bare=st:=rfl;have hbb:st.bare.bare=st.bare:=rfl;generalize st.bare=s0 at *;obtain⟨s',hs',e⟩:=jpg hb xs hn f caps q hR hR2 hq h0;repeat' first|apply jb<;>intro _|simp(disch:=try exact dzD) only[e,r6,γ,ε]
 rw[jgU];exact hK _ hs'
def zF:Nat->Ex->Bool
 |0,_=>false
 |d+1,x=>decide (1<=x.op) && decide (x.op<31) && decide ((x.kids.length:Int)=if 5<=x.op/\x.op<=13 then 1 else if 14<=x.op/\x.op<31 then 2 else 0) && Vn x && x.kids.all (zF d)
theorem jrB:Go.Ev.isAgg δ 3=some false:=Qa0
theorem jrA:Go.Ev.sizeOf δ 3=some 1:=Qa0
theorem jnA:Go.Ev.isAgg δ 63=some false:=Qa0
theorem jnz:Go.Ev.sizeOf δ 63=some 1:=Qa0
theorem jbf:Go.Ev.isAgg δ 65=some true:=Qa0
theorem jbe:Go.Ev.sizeOf δ 65=some 6:=Qa0
theorem jrT {t:TypeId}{b k:Nat}{cs:List AV}{s:St}(h1:Go.Ev.isAgg δ t=some true)(h2:Go.Ev.sizeOf δ t=some k)(C:Cl s b cs)(hi:cs.length=k)(hk:0<k)(hc:cs.all eqs=true):jZ δ t (.ptr b 0) (.agg cs) s.h=true:=
 YW h1 h2 hk (by rw[C.len];omega) (by rw[C.ratsP k 0 om,Qbl,<-hi,Qak]) hc
theorem jwO (hb:NB base){y:Ex}{d b:Nat}{v:Bool}(hd:d<=60)(ih:Tot base 173 [.agg (eE y),.int .i64 (d:Int)] (.bool v)){st:St}(C:Cl st b [.int .i64 ((d+1:Nat):Int)])(K Kp:AV->St->Prop) :
  XB δ base 192 [.agg (eE y),.ptr b 0] st K Kp=K (.bool (!v)) (nw st (eE y)):=by
 refine jf5 (λK Kp hK=>?_) K Kp;refine qu jv7 haa (hb.at0 192 dc dc _ _) ?_;simp only[jqy,jj,ζ,θ,κ,μ];rw[(by unfold jkV;simp only[qq];rfl:jkV=_)];have hK:K (.bool (!v)) (bk st (nw st.bare (eE y))):=hK;have C:=C.bar;have hbk:bk st st.bare=st:=rfl;have hbc:back st st.bare=st:=rfl;have hbb:st.bare.bare=st.bare:=rfl;generalize st.bare=s0 at *;have L0:=C.lt;have e:((d+1:Nat):Int) - 1=(d:Int):=om
 (have zz:=C.r;repeat' first|apply jb<;>intro _|simp(disch:=try exact qS) only[ih,e,C.q,C.r,r6,γ,ε])
 exact hK
theorem Kr (d:Nat)(x:Ex):zF (d+1) x=(decide (1<=x.op) && decide (x.op<31) && decide ((x.kids.length:Int)=if 5<=x.op/\x.op<=13 then 1 else if 14<=x.op/\x.op<31 then 2 else 0) && Vn x && x.kids.all (zF d)):=rfl
theorem jfw {α:Type}(p:α->Bool):∀ xs:List α,xs.all p = !(xs.any λx=>!p x)
 |[]=>rfl
 |x :: xs=>by rw[QaC,List.any_cons,jfw p xs];cases p x<;>simp
theorem joC (hb:NB base):∀ (d:Nat),d<=60->∀ x:Ex,szE x<=BIG->Tot base 173 [.agg (eE x),.int .i64 (d:Int)] (.bool (zF d x)):=by
 intro d;induction d with
 |zero=>
  intro _ x hx;refine hb.tot ?_ (by first|rfl|simp[pa,pc,yd,Tk.cells_p]) rfl;refine jB jre haa (hb.pur 173 1 dc) ?_;simp only[jly,jj,ζ,θ,κ,μ];rw[(by unfold jb1;simp only[qq];rfl:jb1=_)];repeat' first|apply jb<;>intro _|simp(disch:=try exact dzD) only[r6,γ,ε]
  all_goals exact G0.v rfl rfl
 |succ d ih=>
  intro hd x hx;refine hb.tot ?_ (by first|rfl|simp[pa,pc,yd,Tk.cells_p]) rfl;refine jB jre haa (hb.pur 173 1 dc) ?_;simp only[jly,jj,ζ,θ,κ,μ];rw[(by unfold jb1;simp only[qq];rfl:jb1=_)];have hs1:∀ k v,k<6->(eE x).getD k .bad=v->eqs v=true->jZ δ 3 (.ptr 0 k) v (nw (nw st0 (eE x)) [.int .i64 ((d+1:Nat):Int)]).h=true:=λk v hk hv hc=>gy jrB jrA ((Cl.new st0 (eE x)).nw _) (by rw[Jp];exact hk) hv hc;have hs2:jZ δ 63 (.ptr 0 3) (.lst x.kids.length (fl eE x.kids)) (nw (nw st0 (eE x)) [.int .i64 ((d+1:Nat):Int)]).h=true:=gy jnA jnz ((Cl.new st0 (eE x)).nw _) (by rw[Jp];decide) (jsV x 3) rfl;have hs3:jZ δ 65 (.ptr 0 0) (.agg (eE x)) (nw (nw st0 (eE x)) [.int .i64 ((d+1:Nat):Int)]).h=true:=jrT jbf jbe ((Cl.new st0 (eE x)).nw _) (Jp x) dc (by rw[qx];rfl);have hkl:=vL x.kids;have hsz:=ZZ x;have hB:BIG=1099511627776:=rfl;have hs:=Kr d x;obtain⟨s',_,e⟩:=jtt hb x.kids om 192 [.ptr 1 0] (λy=>!zF d y) (R:=λs=>Cl s 1 [.int .i64 ((d+1:Nat):Int)]) (λs t h=>⟨h.lt,h.row,h.len,h.cell⟩) (λs h=>h.bar)
   (λy hy s C=>⟨nw s (eE y),C.nw _,λK Kp=>jwO hb om (ih om y (by
    obtain⟨k,hk,rfl⟩:=List.getElem_of_mem hy;have:=vj hk;omega)) C K Kp⟩) (Cl.new (nw st0 (eE x)) [.int .i64 ((d+1:Nat):Int)])
  repeat' first|apply jb<;>intro _|simp(disch:=try exact dzD) only[jso hb,jsn hb x om,hs1,hs2,hs3,e,r6,γ,ε]
  .refine G0.v ?_ rfl;rw[hs];simp;omega
  .refine G0.v ?_ rfl;rw[hs];simp;omega
  .refine G0.v ?_ rfl;rw[hs];simp[*]
  .refine G0.v ?_ rfl;rw[hs];simp[*]
  .refine G0.v ?_ rfl;rw[hs,jfw];first|(simp[*];done)|(simp[*];omega)|(simp;intro _;refine⟨⟨⟨om,om⟩,by simp_all⟩,by simp_all⟩)
theorem jpE (hb:NB base)(x:Ex)(hx:szE x<=BIG):Tot base 138 [.agg (eE x)] (.bool (zF 60 x)):=by
 refine hb.tot ?_ (by first|rfl|simp[pa,pc,yd,Tk.cells_p]) rfl;refine jB x95 haa (hb.pur 138 1 dc) ?_;simp only[y95,jj,ζ,θ,κ,μ];rw[(by unfold z95;simp only[qq];rfl:z95=_)];have:Tot base 173 [.agg (eE x),.int .i64 60] (.bool (zF 60 x)):=joC hb 60 (η _) x hx;repeat' first|apply jb<;>intro _|simp(disch:=try exact dzD) only[this,r6,γ,ε]
 exact G0.v rfl rfl
def tk (ts:List Tk)(i:Nat):Tk:=ts.getD i ⟨0,[],0,0,0⟩
theorem jnD {ts:List Tk}{i:Nat}(h:i<ts.length):ts[i]=tk ts i:=by simp[tk,Qaf,h]
def pC (ts:List Tk)(i d:Nat):List AV:=[.lst ts.length (fl Tk.cells ts),.int .i64 (i:Int),.int .i64 (d:Int)]
theorem Y0 (hb:NB base){ts:List Tk}{i d:Nat}(hi:i<ts.length):Met δ base 97 (pC ts i d) [] (.ok (.agg (tk ts i).cells)) (pC ts i d):=by
 refine PM.met ?_ rfl λp st=>hb.no 97 dc _ _;refine qa x49 haa (hb.pur 97 3 dc) rfl ?_;simp only[y49,jj,ζ,θ,κ,μ];rw[(by unfold z49;simp only[qq];rfl:z49=_)];unfold pC;repeat' first|apply jb<;>intro _|simp(disch:=try exact dzD) only[hi,r6,γ,ε]
 rw[jnD hi];refine G1.done ?_ rfl rfl (FzD.agg (.pc haa));simp(disch:=first|assumption|decide|omega|(simp only[jf,ji,jm,ju,jl,q6,τ,φ];first|done|omega)) only[jA,jE,jz];exact Cl.new _ _
theorem Wk (S:Lb):(S.map AV.str).all pc=true:=by induction S with|nil=>rfl|cons x S ih=>simp[pc]
theorem jii (hb:NB base){ts:List Tk}{i d:Nat}(hi:i<ts.length)(h2:i<=1000000)(S:Lb)(hS:S.length<=1000000) :
  (isM (tk ts i) S=true->PM δ base 122 (pC ts i d) [.lst S.length (S.map .str)] (.ok (.tup [.agg (tk ts i).cells,.bool true])) (pC ts (i+1) d)) /\
  (isM (tk ts i) S=false->PM δ base 122 (pC ts i d) [.lst S.length (S.map .str)] (.ok (.tup [.agg (tk ts i).cells,.bool false])) (pC ts i d)):=by
 have N:=λst p=>@Y0 base hb ts i d hi st p;unfold pC at *;constructor<;>intro h
 .refine qa x76 haa (hb.pur 122 3 dc) rfl ?_;simp only[y76,jj,ζ,θ,κ,μ];rw[(by unfold z76;simp only[qq];rfl:z76=_)];repeat' first|apply jb<;>intro _|simp(disch:=try exact dzD) only[N,jtG hb (tk ts i) S hS,h,r6,γ,ε]
  (refine G1.done cyD haa haa ?_;try exact vyD)
 .refine qa x76 haa (hb.pur 122 3 dc) rfl ?_;simp only[y76,jj,ζ,θ,κ,μ];rw[(by unfold z76;simp only[qq];rfl:z76=_)];repeat' first|apply jb<;>intro _|simp(disch:=try exact dzD) only[N,jtG hb (tk ts i) S hS,h,r6,γ,ε]
  (refine G1.done cyD haa haa ?_;try exact vyD)
theorem jrI (hb:NB base){ts:List Tk}{i d:Nat}(hi:i<ts.length)(h2:i<=1000000)(S:Lb)(hS:S.length<=1000000){st:St}{p:Nat}(C:Cl st p (pC ts i d))(K Kp:AV->St->Prop) :
  XB δ base 122 [.ptr p 0,.lst S.length (S.map .str)] st K Kp=ifW (isM (tk ts i) S=true) (K (.tup [.agg (tk ts i).cells,.bool true]) (wr st p 0 (pC ts (i+1) d))) (K (.tup [.agg (tk ts i).cells,.bool false]) (wr st p 0 (pC ts i d))):=by
 have T:=jii hb hi h2 (d:=d) S hS;cases h:isM (tk ts i) S with
 |true=>rw[Gh rfl];exact(T.1 h).xb C rfl (λst=>hb.no 122 dc _ _) K Kp
 |false=>rw[Gi dc];exact(T.2 h).xb C rfl (λst=>hb.no 122 dc _ _) K Kp
theorem YS (hb:NB base){ts:List Tk}{i d:Nat}(hi:i<ts.length)(h2:i<=1000000)(S:Lb){cs:List AV}{n:Nat}(hc:S.map .str=cs)(hn:S.length=n)(hS:n<=1000000)(st:St)(p b m:Nat)(x:Bool)(C:Cl st p (pC ts i d))(D:Cl st b cs)(hne:p≠b)(K Kp:AV->St->Prop) :
  XB δ base 122 [.ptr p 0,.slice b 0 n m 1 x] st K Kp=ifW (isM (tk ts i) S=true) (K (.tup [.agg (tk ts i).cells,.bool true]) (wr (kl b st) p 0 (pC ts (i+1) d))) (K (.tup [.agg (tk ts i).cells,.bool false]) (wr (kl b st) p 0 (pC ts i d))):=by
 subst hc hn;have T:=jii hb hi h2 (d:=d) S hS;have F:Fza st [.slice b 0 S.length m 1 x] [.lst S.length (S.map .str)] [b]:=Fza.sl D hac (Wk S) .nil;have C':Cl (kills [b] st) p (pC ts i d):=(jT hne).symm▸C;cases h:isM (tk ts i) S with
 |true=>rw[Gh rfl];exact(T.1 h).xbk C' F rfl (λst=>hb.no 122 dc _ _) K Kp
 |false=>rw[Gi dc];exact(T.2 h).xbk C' F rfl (λst=>hb.no 122 dc _ _) K Kp
theorem jml (hb:NB base)(t:Tk)(S:Lb){cs:List AV}{n:Nat}(hc:S.map .str=cs)(hn:S.length=n)(hS:n<=1000000)(st:St)(b m:Nat)(x:Bool)(D:Cl st b cs)(K Kp:AV->St->Prop) :
  XB δ base 162 [.agg t.cells,.slice b 0 n m 1 x] st K Kp=K (.bool (isM t S)) (kl b st):=by
 subst hc hn;have F:Fza st [.agg t.cells,.slice b 0 S.length m 1 x] [.agg t.cells,.lst S.length (S.map .str)] [b]:=Fza.pa haa (Fza.sl D hac (Wk S) .nil);exact(jtH hb t S hS).xf F (λst=>hb.no 162 dc _ _) K Kp
theorem jse (hb:NB base){ts:List Tk}{i d:Nat}(hi:i<ts.length)(h2:i<=1000000)(c:Lc) :
  (isM (tk ts i) [c]=true->PM δ base 164 (pC ts i d) [.str c] (.ok (.tup [])) (pC ts (i+1) d)) /\
  (isM (tk ts i) [c]=false->PM δ base 164 (pC ts i d) [.str c] (.pn (er (tk ts i))) (pC ts i d)):=by
 have T:=YS hb hi h2 (d:=d) [c] (cs:=[.str c]) (n:=1) rfl rfl dc;unfold pC at *;constructor<;>intro h
 .refine qa jrf haa (hb.pur 164 3 dc) rfl ?_;simp only[jlz,jj,ζ,θ,κ,μ];rw[(by unfold GU;simp only[qq];rfl:GU=_)];repeat' first|apply jb<;>intro _|simp(disch:=try exact dzD) only[T,h,Qf hb,r6,γ,ε]
  (refine G1.done cyD haa haa ?_;try exact vyD)
 .refine qa jrf haa (hb.pur 164 3 dc) rfl ?_;simp only[jlz,jj,ζ,θ,κ,μ];rw[(by unfold GU;simp only[qq];rfl:GU=_)];repeat' first|apply jb<;>intro _|simp(disch:=try exact dzD) only[T,h,Qf hb,r6,γ,ε]
  (refine G1.done cyD haa haa ?_;try exact vyD)
theorem PM.two {P:Program}{f:FuncId}{cs xs c1 c2:List AV}{o1 o2:Oc}{q:Bool}(h:(q=true->PM P base f cs xs o1 c1)/\(q=false->PM P base f cs xs o2 c2))(hp:xs.all pa=true)(hb:∀ p st,base.run f (.ptr p 0 :: xs) st=.no){st:St}{p:Nat}(C:Cl st p cs)(K Kp:AV->St->Prop) :
  XB P base f (.ptr p 0 :: xs) st K Kp=ifW (q=true) (Ys o1 K Kp (wr st p 0 c1)) (Ys o2 K Kp (wr st p 0 c2)):=by
 cases hq:q with
 |true=>rw[Gh rfl];exact(h.1 hq).xb C hp (hb p) K Kp
 |false=>rw[Gi dc];exact(h.2 hq).xb C hp (hb p) K Kp
theorem QJ (hb:NB base){ts:List Tk}{i d:Nat}(hi:i<ts.length)(h2:i<=1000000)(c:Lc){st:St}{p:Nat}(C:Cl st p (pC ts i d))(K Kp:AV->St->Prop) :
  XB δ base 164 [.ptr p 0,.str c] st K Kp=ifW (isM (tk ts i) [c]=true) (K (.tup []) (wr st p 0 (pC ts (i+1) d))) (Kp (er (tk ts i)) (wr st p 0 (pC ts i d))):=
 PM.two (o1:=.ok _) (o2:=.pn _) (jse hb hi h2 c) rfl (λ_ _=>hb.no 164 dc _ _) C K Kp
theorem Wr (hb:NB base){ts:List Tk}{i d:Nat}(hi:i<ts.length)(h2:i<=1000000){st:St}{p:Nat}(C:Cl st p (pC ts i d))(K Kp:AV->St->Prop) :
  XB δ base 163 [.ptr p 0] st K Kp=ifW (decide ((tk ts i).kind=1)=true) (K (.agg (tk ts i).cells) (wr st p 0 (pC ts (i+1) d))) (Kp (er (tk ts i)) (wr st p 0 (pC ts i d))):=by
 refine PM.two (o1:=.ok _) (o2:=.pn _) ?_ rfl (λ_ _=>hb.no 163 dc _ _) C K Kp;have N:=λst p=>@Y0 base hb ts i d hi st p;unfold pC at *;clear C;constructor<;>intro h
 .have h':((tk ts i).kind:Int)=1:=by simp at h;omega
  refine qa jrg haa (hb.pur 163 3 dc) rfl ?_;simp only[jlA,jj,ζ,θ,κ,μ];rw[(by unfold jb2;simp only[qq];rfl:jb2=_)];repeat' first|apply jb<;>intro _|simp(disch:=try exact dzD) only[N,h',Qf hb,r6,γ,ε]
  (refine G1.done cyD haa haa ?_;try exact vyD)
 .have h':¬ ((tk ts i).kind:Int)=1:=by simp at h;omega
  refine qa jrg haa (hb.pur 163 3 dc) rfl ?_;simp only[jlA,jj,ζ,θ,κ,μ];rw[(by unfold jb2;simp only[qq];rfl:jb2=_)];repeat' first|apply jb<;>intro _|simp(disch:=try exact dzD) only[N,h',Qf hb,r6,γ,ε]
  (refine G1.done cyD haa haa ?_;try exact vyD)
theorem jiH (hb:NB base){ts:List Tk}{i d:Nat}(hi:i<ts.length)(h2:d<=1000000){st:St}{p:Nat}(C:Cl st p (pC ts i d))(K Kp:AV->St->Prop) :
  XB δ base 187 [.ptr p 0] st K Kp=ifW (decide (60<d+1)=true) (Kp (er (tk ts i)) (wr st p 0 (pC ts i (d+1)))) (K (.tup []) (wr st p 0 (pC ts i (d+1)))):=by
 refine PM.two (o1:=.pn _) (o2:=.ok _) ?_ rfl (λ_ _=>hb.no 187 dc _ _) C K Kp;have N:=λst p=>@Y0 base hb ts i (d+1) hi st p;have e:((d:Int)+1)=((d+1:Nat):Int):=om
 unfold pC at *;clear C;constructor<;>intro h
 .have h':(60:Int)<((d+1:Nat):Int):=by simp at h;omega
  refine qa jrd haa (hb.pur 187 3 dc) rfl ?_;simp only[jlx,jj,ζ,θ,κ,μ];rw[(by unfold jb0;simp only[qq];rfl:jb0=_)];repeat' first|apply jb<;>intro _|simp(disch:=try exact dzD) only[N,h',Qf hb,e,r6,γ,ε]
  (refine G1.done cyD haa haa ?_;try exact vyD)
 .have h':¬ (60:Int)<((d+1:Nat):Int):=by simp at h;omega
  refine qa jrd haa (hb.pur 187 3 dc) rfl ?_;simp only[jlx,jj,ζ,θ,κ,μ];rw[(by unfold jb0;simp only[qq];rfl:jb0=_)];repeat' first|apply jb<;>intro _|simp(disch:=try exact dzD) only[N,h',Qf hb,e,r6,γ,ε]
  (refine G1.done cyD haa haa ?_;try exact vyD)
abbrev Lev:=Lb×Nat
def zm:Lb:=[[45],[33],[88],[70],[71],[89],[90],[79],[72]]
def kd (text:Lc):Nat:=5+zm.idxOf text
inductive PR where
 |ok (x:Ex) (j:Nat)
 |er (t:Tk)
mutual
def yS (ts:List Tk):Nat->List Lev->Nat->Nat->Option PR
 |0,_,_,_=>none
 |n+1,[],i,d=>Qx ts n i d
 |n+1,v :: l,i,d=>match yS ts n l i d with
  |some (.ok x j)=>Q0 ts n v l x j d
  |r=>r
def Q0 (ts:List Tk):Nat->Lev->List Lev->Ex->Nat->Nat->Option PR
 |0,_,_,_,_,_=>none
 |n+1,v,l,x,i,d=>
  if isM (tk ts i) v.1=true then
   (if v.2=1 then(match yS ts n (v :: l) (i+1) d with
    |some (.ok y j)=>some (.ok (Qt (tk ts i) x y) j)
    |r=>r)
   else(match yS ts n l (i+1) d with
    |some (.ok y j)=>if v.2=2 then some (.ok (Qt (tk ts i) x y) j) else Q0 ts n v l (Qt (tk ts i) x y) j d
    |r=>r))
  else some (.ok x i)
def Qx (ts:List Tk):Nat->Nat->Nat->Option PR
 |0,_,_=>none
 |n+1,i,d=>
  if isM (tk ts i) zm=true then
   (if 60<d+1 then some (.er (tk ts (i+1))) else(match Qx ts n (i+1) (d+1) with
    |some (.ok x j)=>some (.ok (.mk (kd (tk ts i).text:Nat) 0 [] [x] (tk ts i).line (tk ts i).col) j)
    |r=>r))
  else Yq ts n i d
def Yq (ts:List Tk):Nat->Nat->Nat->Option PR
 |0,_,_=>none
 |n+1,i,d=>
  if(tk ts i).kind=2 then some (.ok (.mk 1 (tk ts i).num [] [] (tk ts i).line (tk ts i).col) (i+1))
  else if(tk ts i).kind=1 then some (.ok (.mk 3 0 (tk ts i).text [] (tk ts i).line (tk ts i).col) (i+1))
  else if isM (tk ts i) [[116,114,117,101]]=true then some (.ok (.mk 2 1 [] [] (tk ts i).line (tk ts i).col) (i+1))
  else if isM (tk ts i) [[102,97,108,115,101]]=true then some (.ok (.mk 2 0 [] [] (tk ts i).line (tk ts i).col) (i+1))
  else if isM (tk ts i) [[40]]=true then
   (if 60<d+1 then some (.er (tk ts (i+1))) else(match yS ts n Jf (i+1) (d+1) with
    |some (.ok x j)=>if isM (tk ts j) [[41]]=true then some (.ok x (j+1)) else some (.er (tk ts j))
    |r=>r))
  else some (.er (tk ts i))
end
structure Wds (ts:List Tk):Prop where
 len:ts.length<=1000000
 next:∀ i,i<ts.length->(tk ts i).kind≠5->i+1<ts.length
 txt:∀ i,(tk ts i).text.length<=65536
theorem Vp {t:Tk}{S:Lb}(h:isM t S=true):(t.kind=3\/t.kind=4)/\t.text∈S:=by
 simpa[isM] using h
theorem Wds.isM {ts:List Tk}(W:Wds ts){i:Nat}(hi:i<ts.length){S:Lb}(h:isM (tk ts i) S=true):i+1<ts.length:=W.next i hi (by have:=(Vp h).1;omega)
def Sz (ts:List Tk)(i:Nat)(a:Nat)(r:PR):Prop:=match r with | .ok x j=>i<=j/\j<ts.length/\szE x<=a+(j - i) * 65537 | .er _=>True
theorem vM (op num:Int)(nm:Lc)(ks:List Ex)(l c:Int):szE (.mk op num nm ks l c)=zj ks+nm.length+1:=rfl
theorem joy (t:Tk)(x y:Ex):szE (Qt t x y)<=szE x+szE y+1:=by
 unfold Qt;split
 .rw[vM];simp[zj]
 .rw[vM];simp[zj]
theorem gt {ts:List Tk}(W:Wds ts):∀ n,(∀ lv i d r,yS ts n lv i d=some r->i<ts.length->Sz ts i 0 r)/\(∀ v l x i d r,Q0 ts n v l x i d=some r->i<ts.length->Sz ts i (szE x) r)/\(∀ i d r,Qx ts n i d=some r->i<ts.length->Sz ts i 0 r)/\(∀ i d r,Yq ts n i d=some r->i<ts.length->Sz ts i 0 r):=by
 intro n;induction n with
 |zero=>exact⟨λ_ _ _ _ h=>(by simp[yS] at h),λ_ _ _ _ _ _ h=>(by simp[Q0] at h),λ_ _ _ h=>(by simp[Qx] at h),λ_ _ _ h=>(by simp[Yq] at h)⟩
 |succ n ih=>
  obtain⟨iE,iL,iP,iV⟩:=ih;refine⟨λlv i d r h hi=>?_,λv l x i d r h hi=>?_,λi d r h hi=>?_,λi d r h hi=>?_⟩
  .cases lv with
   |nil=>unfold yS at h;exact iP i d r h hi
   |cons v l=>
    unfold yS at h;cases hx:yS ts n l i d with
    |none=>rw[hx] at h;cases h
    |some q=>cases q with
     |er t=>rw[hx] at h;cases h;trivial
     |ok x j=>
      rw[hx] at h;have h1:=iE l i d _ hx hi;have h2:=iL v l x j d r h h1.2.1;cases r with
      |er t=>trivial
      |ok y k=>
       simp only[Sz] at h1 h2 ⊢;obtain⟨a1,a2,a3⟩:=h1;obtain⟨b1,b2,b3⟩:=h2;refine⟨om,b2,?_⟩;have:(k - i) * 65537=(k - j) * 65537+(j - i) * 65537:=by rw[<-QaJ];congr 1;omega
       omega
  .unfold Q0 at h;by_cases c:isM (tk ts i) v.1=true
   .rw[if_pos c] at h;have hi1:=W.isM hi c;have key:∀ lv y j,yS ts n lv (i+1) d=some (.ok y j)->i<=j/\j<ts.length/\szE (Qt (tk ts i) x y)<=szE x+(j - i) * 65537:=λlv y j he=>by
     have h1:=iE lv (i+1) d _ he hi1;simp only[Sz] at h1;obtain⟨a1,a2,a3⟩:=h1;have:=joy (tk ts i) x y;have:(j - i) * 65537=(j - (i+1)) * 65537+65537:=by rw[<-QaX];congr 1;omega
     exact⟨om,a2,om⟩
    by_cases w1:v.2=1
    .rw[if_pos w1] at h;cases he:yS ts n (v :: l) (i+1) d with
     |none=>rw[he] at h;cases h
     |some q=>cases q with
      |er t=>rw[he] at h;cases h;trivial
      |ok y j=>rw[he] at h;cases h;exact key _ y j he
    .rw[if_neg w1] at h;cases he:yS ts n l (i+1) d with
     |none=>rw[he] at h;cases h
     |some q=>cases q with
      |er t=>rw[he] at h;cases h;trivial
      |ok y j=>
       rw[he] at h;have hk:=key _ y j he;by_cases w2:v.2=2
       .simp only[w2,if_true] at h;cases h;exact hk
       .simp only[w2,if_false] at h;have h2:=iL v l _ j d r h hk.2.1;cases r with
        |er t=>trivial
        |ok z k=>
         simp only[Sz] at h2 ⊢;obtain⟨b1,b2,b3⟩:=h2;refine⟨om,b2,?_⟩;have:(k - i) * 65537=(k - j) * 65537+(j - i) * 65537:=by rw[<-QaJ];congr 1;omega
         omega
   .rw[if_neg c] at h;cases h;exact⟨η _,hi,om⟩
  .unfold Qx at h;by_cases c:isM (tk ts i) zm=true
   .rw[if_pos c] at h;have hi1:=W.isM hi c;by_cases hd:60<d+1
    .rw[if_pos hd] at h;cases h;trivial
    .rw[if_neg hd] at h;cases he:Qx ts n (i+1) (d+1) with
     |none=>rw[he] at h;cases h
     |some q=>cases q with
      |er t=>rw[he] at h;cases h;trivial
      |ok y j=>
       rw[he] at h;cases h;have h1:=iP (i+1) (d+1) _ he hi1;simp only[Sz] at h1 ⊢;obtain⟨a1,a2,a3⟩:=h1;have:(j - i) * 65537=(j - (i+1)) * 65537+65537:=by rw[<-QaX];congr 1;omega
       refine⟨om,a2,?_⟩;rw[vM];simp[zj];omega
   .rw[if_neg c] at h;exact iV i d r h hi
  .unfold Yq at h;have ht:=W.txt i;have leaf:∀ (x:Ex),szE x<=65537->i+1<ts.length->Sz ts i 0 (.ok x (i+1)):=λx hx h1=>⟨om,h1,om⟩;by_cases k2:(tk ts i).kind=2
   .rw[if_pos k2] at h;cases h;exact leaf _ (by rw[vM];simp[zj]) (W.next i hi om)
   rw[if_neg k2] at h;by_cases k1:(tk ts i).kind=1
   .rw[if_pos k1] at h;cases h;exact leaf _ (by rw[vM];simp[zj];omega) (W.next i hi om)
   rw[if_neg k1] at h;split at h
   .cases h;exact leaf _ (by rw[vM];simp[zj]) (W.isM hi ‹_›)
   split at h
   .cases h;exact leaf _ (by rw[vM];simp[zj]) (W.isM hi ‹_›)
   split at h
   .rename_i c;have hi1:=W.isM hi c;by_cases hd:60<d+1
    .rw[if_pos hd] at h;cases h;trivial
    .rw[if_neg hd] at h;cases he:yS ts n Jf (i+1) (d+1) with
     |none=>rw[he] at h;cases h
     |some q=>cases q with
      |er t=>rw[he] at h;cases h;trivial
      |ok y j=>
       rw[he] at h;have h1:=iE Jf (i+1) (d+1) _ he hi1;simp only[Sz] at h1;obtain⟨a1,a2,a3⟩:=h1;dsimp only at h;by_cases c2:isM (tk ts j) [[41]]=true
       .rw[if_pos c2] at h;cases h;have:=W.isM a2 c2;simp only[Sz];exact⟨om,this,χ a3 (Nat.add_le_add_left (QaA _ om) _)⟩
       .rw[if_neg c2] at h;cases h;trivial
   .cases h;trivial
def Ans (base:Bs)(f:FuncId)(c xs:List AV)(ts:List Tk)(d:Nat):PR->Prop
 |.ok x j=>PM δ base f c xs (.ok (.agg (eE x))) (pC ts j d)
 |.er t=>∃ i' d',PM δ base f c xs (.pn (er t)) (pC ts i' d')
def okL (lv:List Lev):Prop:=lv.length<=8/\∀ v∈lv,v.1.length<=6
def IsE (base:Bs)(ts:List Tk)(n:Nat):Prop:=∀ lv i d r,yS ts n lv i d=some r->i<ts.length->d<=60->okL lv->Ans base 136 (pC ts i d) [.lst lv.length (fl Xe lv)] ts d r
def IsP (base:Bs)(ts:List Tk)(n:Nat):Prop:=∀ i d r,Qx ts n i d=some r->i<ts.length->d<=60->Ans base 171 (pC ts i d) [] ts d r
def IsV (base:Bs)(ts:List Tk)(n:Nat):Prop:=∀ i d r,Yq ts n i d=some r->i<ts.length->d<=60->Ans base 186 (pC ts i d) [] ts d r
theorem jwL:Go.Ev.isAgg δ 2=some false:=Qa0
theorem jwK:Go.Ev.sizeOf δ 2=some 1:=Qa0
theorem jul:Go.Ev.isAgg δ 194=some true:=Qa0
theorem juk:Go.Ev.sizeOf δ 194=some 5:=Qa0
theorem sm2 {b o:Nat}{v:AV}{h:T AO}(ho:o<jV h b)(hv:rat h b o=v)(hc:eqs v=true):(jZ δ 2 (.ptr b o) v h=true)=True:=eq_true (JA jwL jwK ho hv hc)
theorem sm9 {b o:Nat}{v:AV}{h:T AO}(ho:o<jV h b)(hv:rat h b o=v)(hc:eqs v=true):(jZ δ 9 (.ptr b o) v h=true)=True:=eq_true (JA jlL jlK ho hv hc)
theorem yI (k:IntKind)(n:Int):eqs (.int k n)=true:=nr rfl
theorem yH (l:Lc):eqs (.str l)=true:=nr rfl
theorem jon (hb:NB base){ts:List Tk}(W:Wds ts){n:Nat}(ihE:IsE base ts n):IsV base ts (n+1):=by
 intro i d r h hi hd;have hN:=λst p=>@Y0 base hb ts i d hi st p;have wl:=W.len;have hx:(i:Int)+1=((i+1:Nat):Int):=om
 unfold Yq at h;by_cases k2:(tk ts i).kind=2
 .rw[if_pos k2] at h;cases h;have k2':((tk ts i).kind:Int)=2:=om
  show PM _ _ _ _ _ _ _;unfold pC at *;refine qa WN haa (hb.pur 186 3 dc) rfl ?_;simp only[uZ,jj,ζ,θ,κ,μ];rw[(by unfold Qp;simp only[qq];rfl:Qp=_)]
  (have zz:=aI @yI @yH;repeat' first|apply jb<;>intro _|simp(disch:=try exact qS) only[hN,k2',sm2,yI,yH,r6,γ,ε])
  (refine G1.done cyD haa haa ?_;try exact vyD)
 rw[if_neg k2] at h;have k2':¬ ((tk ts i).kind:Int)=2:=om
 by_cases k1:(tk ts i).kind=1
 .rw[if_pos k1] at h;cases h;have k1':((tk ts i).kind:Int)=1:=om
  show PM _ _ _ _ _ _ _;unfold pC at *;refine qa WN haa (hb.pur 186 3 dc) rfl ?_;simp only[uZ,jj,ζ,θ,κ,μ];rw[(by unfold Qp;simp only[qq];rfl:Qp=_)]
  (have zz:=aI @yI @yH;repeat' first|apply jb<;>intro _|simp(disch:=try exact qS) only[hN,k2',k1',sm9,yI,yH,r6,γ,ε])
  (refine G1.done cyD haa haa ?_;try exact vyD)
 rw[if_neg k1] at h;have k1':¬ ((tk ts i).kind:Int)=1:=om
 have T:=jml hb (tk ts i) [[116,114,117,101]] (cs:=[.str [116,114,117,101]]) (n:=1) rfl rfl dc;have F:=jml hb (tk ts i) [[102,97,108,115,101]] (cs:=[.str [102,97,108,115,101]]) (n:=1) rfl rfl dc;have B:=jml hb (tk ts i) [[40]] (cs:=[.str [40]]) (n:=1) rfl rfl dc;by_cases c1:isM (tk ts i) [[116,114,117,101]]=true
 .rw[if_pos c1] at h;cases h;show PM _ _ _ _ _ _ _;unfold pC at *;refine qa WN haa (hb.pur 186 3 dc) rfl ?_;simp only[uZ,jj,ζ,θ,κ,μ];rw[(by unfold Qp;simp only[qq];rfl:Qp=_)];repeat' first|apply jb<;>intro _|simp(disch:=try exact dzD) only[hN,k2',k1',T,c1,r6,γ,ε]
  (refine G1.done cyD haa haa ?_;try exact vyD)
 rw[if_neg c1] at h;by_cases c2:isM (tk ts i) [[102,97,108,115,101]]=true
 .rw[if_pos c2] at h;cases h;show PM _ _ _ _ _ _ _;unfold pC at *;refine qa WN haa (hb.pur 186 3 dc) rfl ?_;simp only[uZ,jj,ζ,θ,κ,μ];rw[(by unfold Qp;simp only[qq];rfl:Qp=_)];repeat' first|apply jb<;>intro _|simp(disch:=try exact dzD) only[hN,k2',k1',T,F,c1,c2,r6,γ,ε]
  (refine G1.done cyD haa haa ?_;try exact vyD)
 rw[if_neg c2] at h;by_cases c3:isM (tk ts i) [[40]]=true
 .rw[if_pos c3] at h;have hi1:=W.isM hi c3;have O:=λst p=>@jiH base hb ts (i+1) d hi1 om st p;by_cases hd2:60<d+1
  .rw[if_pos hd2] at h;cases h;refine⟨i+1,d+1,?_⟩;unfold pC at *;refine qa WN haa (hb.pur 186 3 dc) rfl ?_;simp only[uZ,jj,ζ,θ,κ,μ];rw[(by unfold Qp;simp only[qq];rfl:Qp=_)];repeat' first|apply jb<;>intro _|simp(disch:=try exact dzD) only[hN,k2',k1',T,F,B,c1,c2,c3,O,hx,hd2,r6,γ,ε]
   (refine G1.done cyD haa haa ?_;try exact vyD)
  .rw[if_neg hd2] at h;cases he:yS ts n Jf (i+1) (d+1) with
   |none=>rw[he] at h;cases h
   |some q=>
    have A:=ihE _ _ _ _ he hi1 om ⟨dc,dc⟩;have hL:=jcZ hb;have hz:=(gt W n).1 _ _ _ _ he hi1;cases q with
    |er t=>
     rw[he] at h;cases h;obtain⟨i',d',A⟩:=A;have E:∀ st p,Cl st p (pC ts (i+1) (d+1))->∀ K Kp,XB δ base 136 [.ptr p 0,.lst 8 (fl Xe Jf)] st K Kp=_:=λst p C K Kp=>A.xb C rfl (λst=>hb.no 136 dc _ _) K Kp;refine⟨i',d',?_⟩;unfold pC at *;refine qa WN haa (hb.pur 186 3 dc) rfl ?_;simp only[uZ,jj,ζ,θ,κ,μ];rw[(by unfold Qp;simp only[qq];rfl:Qp=_)];repeat' first|apply jb<;>intro _|simp(disch:=try exact dzD) only[hN,k2',k1',T,F,B,c1,c2,c3,O,hx,hd2,hL,E,r6,γ,ε]
     (refine G1.done cyD haa haa ?_;try exact vyD)
    |ok x j=>
     rw[he] at h;dsimp only at h;have A:PM _ _ _ _ _ _ _:=A;have E:∀ st p,Cl st p (pC ts (i+1) (d+1))->∀ K Kp,XB δ base 136 [.ptr p 0,.lst 8 (fl Xe Jf)] st K Kp=_:=λst p C K Kp=>A.xb C rfl (λst=>hb.no 136 dc _ _) K Kp;have hj:j<ts.length:=hz.2.1;have M:=λst p=>@QJ base hb ts j d hj om [41] st p;have e1:((d+1:Nat):Int) - 1=(d:Int):=om
     by_cases c4:isM (tk ts j) [[41]]=true
     .rw[if_pos c4] at h;cases h;show PM _ _ _ _ _ _ _;unfold pC at *;refine qa WN haa (hb.pur 186 3 dc) rfl ?_;simp only[uZ,jj,ζ,θ,κ,μ];rw[(by unfold Qp;simp only[qq];rfl:Qp=_)];repeat' first|apply jb<;>intro _|simp(disch:=try exact dzD) only[hN,k2',k1',T,F,B,c1,c2,c3,O,hx,hd2,hL,E,e1,M,c4,r6,γ,ε]
      (refine G1.done cyD haa haa ?_;try exact vyD)
     .rw[if_neg c4] at h;cases h;refine⟨j,d,?_⟩;unfold pC at *;refine qa WN haa (hb.pur 186 3 dc) rfl ?_;simp only[uZ,jj,ζ,θ,κ,μ];rw[(by unfold Qp;simp only[qq];rfl:Qp=_)];repeat' first|apply jb<;>intro _|simp(disch:=try exact dzD) only[hN,k2',k1',T,F,B,c1,c2,c3,O,hx,hd2,hL,E,e1,M,c4,r6,γ,ε]
      (refine G1.done cyD haa haa ?_;try exact vyD)
 .rw[if_neg c3] at h;cases h;refine⟨i,d,?_⟩;unfold pC at *;refine qa WN haa (hb.pur 186 3 dc) rfl ?_;simp only[uZ,jj,ζ,θ,κ,μ];rw[(by unfold Qp;simp only[qq];rfl:Qp=_)];repeat' first|apply jb<;>intro _|simp(disch:=try exact dzD) only[hN,k2',k1',T,F,B,c1,c2,c3,Qf hb,r6,γ,ε]
  (refine G1.done cyD haa haa ?_;try exact vyD)
theorem jeC:∀ k:Nat,k<9->sgn ((5+k:Nat):Int)=zm.getD k []:=dc
theorem jpb {x:Lc}(h:x∈zm):zm.idxOf x<9/\sgn ((5+zm.idxOf x:Nat):Int)=x/\∀ j,j<zm.idxOf x->sgn ((5+j:Nat):Int)≠x:=by
 have h9:zm.idxOf x<9:=List.idxOf_lt_length_of_mem h;refine⟨h9,?_,λj hj=>?_⟩
 .rw[jeC _ h9,Qab,Qad (show zm.idxOf x<zm.length from h9)];simp
 .rw[jeC _ om,Qab,Qad (show j<zm.length by show j<9;omega)];intro he;have hlt:j<zm.findIdx (· == x):=hj;have hno:=List.not_of_lt_findIdx hlt;have he':zm[j]'(show j<zm.length by show j<9;omega)=x:=he;rw[he'] at hno;simp at hno
theorem jl3 (hb:NB base){ts:List Tk}(W:Wds ts){n:Nat}(ihP:IsP base ts n)(ihV:IsV base ts n):IsP base ts (n+1):=by
 intro i d r h hi hd;have wl:=W.len;have hx:(i:Int)+1=((i+1:Nat):Int):=om
 have T:=YS hb hi (d:=d) om zm (cs:=[.str [45],.str [33],.str [88],.str [70],.str [71],.str [89],.str [90],.str [79],.str [72]]) (n:=9) rfl rfl dc;unfold Qx at h;by_cases c1:isM (tk ts i) zm=true
 .rw[if_pos c1] at h;have hi1:=W.isM hi c1;have O:=λst p=>@jiH base hb ts (i+1) d hi1 om st p;by_cases hd2:60<d+1
  .rw[if_pos hd2] at h;cases h;refine⟨i+1,d+1,?_⟩;unfold pC at *;refine qa jce haa (hb.pur 171 3 dc) rfl ?_;simp only[GW,jj,ζ,θ,κ,μ];rw[(by unfold vE;simp only[qq];rfl:vE=_)];repeat' first|apply jb<;>intro _|simp(disch:=try exact dzD) only[T,c1,O,hd2,r6,γ,ε]
   (refine G1.done cyD haa haa ?_;try exact vyD)
  .rw[if_neg hd2] at h;cases he:Qx ts n (i+1) (d+1) with
   |none=>rw[he] at h;cases h
   |some q=>
    have A:=ihP _ _ _ he hi1 om;have hz:=(gt W n).2.2.1 _ _ _ he hi1;cases q with
    |er t=>
     rw[he] at h;cases h;obtain⟨i',d',A⟩:=A;have E:∀ st p,Cl st p (pC ts (i+1) (d+1))->∀ K Kp,XB δ base 171 [.ptr p 0] st K Kp=_:=λst p C K Kp=>A.xb C rfl (λst=>hb.no 171 dc _ _) K Kp;refine⟨i',d',?_⟩;unfold pC at *;refine qa jce haa (hb.pur 171 3 dc) rfl ?_;simp only[GW,jj,ζ,θ,κ,μ];rw[(by unfold vE;simp only[qq];rfl:vE=_)];repeat' first|apply jb<;>intro _|simp(disch:=try exact dzD) only[T,c1,O,hd2,E,r6,γ,ε]
     (refine G1.done cyD haa haa ?_;try exact vyD)
    |ok x j=>
     rw[he] at h;cases h;have A:PM _ _ _ _ _ _ _:=A;have E:∀ st p,Cl st p (pC ts (i+1) (d+1))->∀ K Kp,XB δ base 171 [.ptr p 0] st K Kp=_:=λst p C K Kp=>A.xb C rfl (λst=>hb.no 171 dc _ _) K Kp;have hj:j<ts.length:=hz.2.1;have e1:((d+1:Nat):Int) - 1=(d:Int):=om
     show PM _ _ _ _ _ _ _;unfold pC at *;refine qa jce haa (hb.pur 171 3 dc) rfl ?_;simp only[GW,jj,ζ,θ,κ,μ];rw[(by unfold vE;simp only[qq];rfl:vE=_)];repeat' first|apply jb<;>intro _|simp(disch:=try exact dzD) only[T,c1,O,hd2,E,e1,r6,γ,ε]
     obtain⟨x1,x2,x3⟩:=jpb (Vp c1).2;refine Wh λu hu=>?_;have n0:u.nx=5:=by rw[hu];rfl
     have C0:Cl u 0 [.lst ts.length (fl Tk.cells ts),.int .i64 (j:Int),.int .i64 (d:Int)]:=by
      rw[hu]
      (try exact cyD)
     have C1:Cl u 1 [.int .i64 0,.int .i64 0,.str [],.nils,.int .i64 0,.int .i64 0]:=by
      rw[hu]
      (try exact cyD)
     have C3:Cl u 3 (tk ts i).cells:=by
      rw[hu]
      (try exact cyD)
     have C4:Cl u 4 (eE x):=by
      rw[hu]
      (try exact cyD)
     clear hu;have hs:jZ δ 9 (.ptr 3 1) (.str (tk ts i).text) u.h=true:=gy jlL jlK C3 (QbF (QaS 3)) rfl rfl;refine ye (λmm L s=>∃ k:Nat,k<=zm.idxOf (tk ts i).text/\mm=zm.idxOf (tk ts i).text - k/\s=u/\Has L 0 (.ptr 0 0)/\Has L 2 (.ptr 1 0)/\Has L 3 (.ptr 3 0)/\Has L 5 (.ptr 4 0)/\Has L 6 (.int .i64 ((5+k:Nat):Int))) ?_ (zm.idxOf (tk ts i).text) ?_
     .rintro mm L s ⟨k,hk,rfl,rfl,i0,i2,i3,i5,i6⟩;have hS:=jj3 hb ((5+k:Nat):Int);by_cases hk2:k=zm.idxOf (tk ts i).text
      .rw[<-hk2] at x2
       (have zz:=a4 @n0 C0.r C1.r (aI C3.r C4.r);repeat' first|apply jb<;>intro _|simp(disch:=try exact qS) only[ja i0,ja i2,ja i3,ja i5,ja i6,hS,hs,x2,C0.q,C1.q,C3.q,C4.q,n0,C0.r,C1.r,C3.r,C4.r,r6,γ,ε])
       rw[show kd (tk ts i).text=5+k by unfold kd;rw[<-hk2],<-qx];refine G1.done ?_ haa haa (jeS (ks:=[x]) (b:=5) (cs:=eE x) ?_ (by rw[Qc]) dc)
       ·(have zz:=aI C0.q (aI @n0 C0.r);try exact qh)
       .rw[jz,jA dc,<-n0];exact Cl.new s _
      .have x3':=x3 k om
       (have zz:=a4 @n0 C0.r C1.r (aI C3.r C4.r);repeat' first|apply jb<;>intro _|simp(disch:=try exact qS) only[ja i0,ja i2,ja i3,ja i5,ja i6,hS,hs,x3',C0.q,C1.q,C3.q,C4.q,n0,C0.r,C1.r,C3.r,C4.r,r6,γ,ε])
       refine⟨zm.idxOf (tk ts i).text - (k+1),om,k+1,om,rfl,?_⟩;rw[show((5+(k+1):Nat):Int)=((5+k:Nat):Int)+1 by omega];simp(disch:=decide) only[h12,i0,i2,i3,i5]
     .refine⟨0,om,rfl,rfl,?_⟩;rw[show((5+0:Nat):Int)=5 from rfl];simp(disch:=decide) only[h12]
 .rw[if_neg c1] at h;have A:=ihV _ _ _ h hi hd;cases r with
  |er t=>
   obtain⟨i',d',A⟩:=A;have E:∀ st p,Cl st p (pC ts i d)->∀ K Kp,XB δ base 186 [.ptr p 0] st K Kp=_:=λst p C K Kp=>A.xb C rfl (λst=>hb.no 186 dc _ _) K Kp;refine⟨i',d',?_⟩;unfold pC at *;refine qa jce haa (hb.pur 171 3 dc) rfl ?_;simp only[GW,jj,ζ,θ,κ,μ];rw[(by unfold vE;simp only[qq];rfl:vE=_)];repeat' first|apply jb<;>intro _|simp(disch:=try exact dzD) only[T,c1,E,r6,γ,ε]
   (refine G1.done cyD haa haa ?_;try exact vyD)
  |ok x j=>
   have A:PM _ _ _ _ _ _ _:=A;have E:∀ st p,Cl st p (pC ts i d)->∀ K Kp,XB δ base 186 [.ptr p 0] st K Kp=_:=λst p C K Kp=>A.xb C rfl (λst=>hb.no 186 dc _ _) K Kp;show PM _ _ _ _ _ _ _;unfold pC at *;refine qa jce haa (hb.pur 171 3 dc) rfl ?_;simp only[GW,jj,ζ,θ,κ,μ];rw[(by unfold vE;simp only[qq];rfl:vE=_)];repeat' first|apply jb<;>intro _|simp(disch:=try exact dzD) only[T,c1,E,r6,γ,ε]
   (refine G1.done cyD haa haa ?_;try exact vyD)
theorem K8 {α:Type}{enc:α->List AV}{z:Nat}(hz:∀ x,(enc x).length=z)(x:α)(xs:List α){k:IntKind}{n:Nat}(hn:n=xs.length+1){st:St}{K:AV->St->Prop}:jk (Zk z (.lst n (fl enc (x :: xs))) (some (.int k 1)) none st) K=K (.lst xs.length (fl enc xs)) st:=by
 subst hn;have e1:QcC 1 (xs.length+1)=true:=qo om;have e2:QcC (xs.length+1) (xs.length+1)=true:=qo (η _);have e3:QcC (QcE (xs.length+1) z) (jP (fl enc (x :: xs)))=true:=qo (by rw[jO,zZ hz];exact η _);have e4:(AV.int k 1)=.int k ((1:Nat):Int):=rfl;have e5:yl (zp (fl enc (x :: xs)) (QcE 1 z)) (QcE (QcF (xs.length+1) 1) z)=fl enc xs:=by
  rw[qX,yX];show((fl enc (x :: xs)).drop (1 * z)).take ((xs.length+1 - 1) * z)=_;rw[HG hz,QbI];show(fl enc xs).take _=_;rw[<-zZ hz,Qak]
 rw[e4];simp only[Zk,optA,Wp,e1,e2,e3,cond_true,jk];rw[e5];rfl
theorem vT (v:Lev):(Xe v).length=2:=nr rfl
theorem kE (v:Lev)(l:List Lev){st:St}{K:AV->St->Prop}:jk (XW (.lptr (fl Xe (v :: l)) 0) st) K=K (.lst v.1.length (v.1.map .str)) st:=qI (by rw[Qd,υ,vT];omega)
theorem hH (v:Lev)(l:List Lev){st:St}{K:AV->St->Prop}:jk (XW (.lptr (fl Xe (v :: l)) 1) st) K=K (.int .i64 (v.2:Int)) st:=qI (by rw[Qd,υ,vT];omega)
theorem jcs {b:Nat}{cs:List AV}{h:T AO}(ho:0+5<=jV h b)(hv:rats h b 0 5=cs)(hc:cs.all eqs=true):(jZ δ 194 (.ptr b 0) (.agg cs) h=true)=True:=eq_true (YW jul juk dc ho hv hc)
theorem QT {b:Nat}{cs:List AV}{h:T AO}(ho:0+6<=jV h b)(hv:rats h b 0 6=cs)(hc:cs.all eqs=true):(jZ δ 65 (.ptr b 0) (.agg cs) h=true)=True:=eq_true (YW jbf jbe dc ho hv hc)
theorem QY (x:Ex):(eE x).all eqs=true:=nr (by rw[qx];rfl)
theorem Wg (t:Tk):t.cells.all eqs=true:=nr rfl
def EK (ts:List Tk)(d:Nat)(r:PR)(v:AV)(s:St):Prop:=match r with | .ok y j=>G1 3 (pC ts j d) (.agg (eE y)) v s | .er _=>False
def EP (ts:List Tk)(r:PR)(v:AV)(s:St):Prop:=match r with | .ok _ _=>False | .er t=>∃ i' d',G1 3 (pC ts i' d') (er t) v s
theorem jha (ts:List Tk)(d:Nat)(y:Ex)(j:Nat)(v:AV)(s:St):EK ts d (.ok y j) v s=G1 3 (pC ts j d) (.agg (eE y)) v s:=nr rfl
theorem jn8 (ts:List Tk)(t:Tk)(v:AV)(s:St):EP ts (.er t) v s = ∃ i' d',G1 3 (pC ts i' d') (er t) v s:=nr rfl
theorem jmN {f:FuncId}{F:XF}(hl:jx δ f=some F)(hnd:F.body.nd=true)(hm:base.pur f=3){xs:List AV}{ts:List Tk}{i d:Nat}{r:PR}
  (h:xC δ base F.body (jj F.ps (.ptr 0 0 :: xs)) (nw st0 (pC ts i d)) (Xo δ F.res (EK ts d r)) λv _ s=>EP ts r v s.bare):Ans base f (pC ts i d) xs ts d r:=by
 rw[<-Hv] at h;obtain⟨q,he,hq⟩:=Yv (st:=Zt (pC ts i d)) (K:=EK ts d r) (Kp:=EP ts r) hl hnd h;cases r with
 |ok y j=>
  refine PM.of hm rfl ⟨q,he,?_⟩;cases q<;>first|exact hq|exact hq.elim
 |er t=>
  cases q with
  |no=>exact hq.elim
  |ok v s=>exact(hq:False).elim
  |pn v s=>
   obtain⟨i',d',hq⟩:=(hq:∃ i' d',G1 3 (pC ts i' d') (er t) v s);exact⟨i',d',PM.of hm rfl ⟨_,he,hq⟩⟩
theorem jsF (hb:NB base){ts:List Tk}(W:Wds ts){n:Nat}(ihE:∀ m,m<=n->IsE base ts m)(ihP:IsP base ts n):IsE base ts (n+1):=by
 intro lv i d r h hi hd ok;have wl:=W.len;unfold yS at h;cases lv with
 |nil=>
  dsimp only at h;have A:=ihP _ _ _ h hi hd;cases r with
  |er t=>
   obtain⟨i',d',A⟩:=A;have E:∀ st p,Cl st p (pC ts i d)->∀ K Kp,XB δ base 171 [.ptr p 0] st K Kp=_:=λst p C K Kp=>A.xb C rfl (λst=>hb.no 171 dc _ _) K Kp;refine⟨i',d',?_⟩;unfold pC at *;refine qa x93 haa (hb.pur 136 3 dc) rfl ?_;simp only[y93,jj,ζ,θ,κ,μ];rw[(by unfold z93;simp only[qq];rfl:z93=_)];repeat' first|apply jb<;>intro _|simp(disch:=try exact dzD) only[E,r6,γ,ε]
   (refine G1.done cyD haa haa ?_;try exact vyD)
  |ok x j=>
   have A:PM _ _ _ _ _ _ _:=A;have E:∀ st p,Cl st p (pC ts i d)->∀ K Kp,XB δ base 171 [.ptr p 0] st K Kp=_:=λst p C K Kp=>A.xb C rfl (λst=>hb.no 171 dc _ _) K Kp;show PM _ _ _ _ _ _ _;unfold pC at *;refine qa x93 haa (hb.pur 136 3 dc) rfl ?_;simp only[y93,jj,ζ,θ,κ,μ];rw[(by unfold z93;simp only[qq];rfl:z93=_)];repeat' first|apply jb<;>intro _|simp(disch:=try exact dzD) only[E,r6,γ,ε]
   (refine G1.done cyD haa haa ?_;try exact vyD)
 |cons v l=>
  dsimp only at h;have hlen:(0:Int)<((l.length+1:Nat):Int):=om
  have hlen2:¬ ((l.length+1:Nat):Int)=0:=om
  cases he:yS ts n l i d with
  |none=>rw[he] at h;cases h
  |some q=>
   have A:=ihE n (η _) _ _ _ _ he hi hd ⟨by have:=ok.1;simp at this;omega,λw hw=>ok.2 w (Qcc _ hw)⟩;have hz:=(gt W n).1 _ _ _ _ he hi;cases q with
   |er t=>
    rw[he] at h;cases h;obtain⟨i',d',A⟩:=A;have E:∀ st p,Cl st p (pC ts i d)->∀ K Kp,XB δ base 136 [.ptr p 0,.lst l.length (fl Xe l)] st K Kp=_:=λst p C K Kp=>A.xb C rfl (λst=>hb.no 136 dc _ _) K Kp;refine⟨i',d',?_⟩;unfold pC at *;refine qa x93 haa (hb.pur 136 3 dc) rfl ?_;simp only[y93,jj,ζ,θ,κ,μ];rw[(by unfold z93;simp only[qq];rfl:z93=_)];repeat' first|apply jb<;>intro _|simp(disch:=try exact dzD) only[E,hlen2,K8 vT v l,r6,γ,ε]
    (refine G1.done cyD haa haa ?_;try exact vyD)
   |ok x j=>
    rw[he] at h;dsimp only at h;have A:PM _ _ _ _ _ _ _:=A;have E:∀ st p,Cl st p (pC ts i d)->∀ K Kp,XB δ base 136 [.ptr p 0,.lst l.length (fl Xe l)] st K Kp=_:=λst p C K Kp=>A.xb C rfl (λst=>hb.no 136 dc _ _) K Kp;have hj:j<ts.length:=hz.2.1;show Ans base 136 (pC ts i d) [.lst (v :: l).length (fl Xe (v :: l))] ts d r;refine jmN x93 haa (hb.pur 136 3 dc) ?_;simp only[y93,jj,ζ,θ,κ,μ];rw[(by unfold z93;simp only[qq];rfl:z93=_)];unfold pC at *;repeat' first|apply jb<;>intro _|simp(disch:=try exact dzD) only[E,hlen2,K8 vT v l,r6,γ,ε]
    refine Wh λu hu=>?_;have n0:3<=u.nx:=by rw[hu];exact η _
    have C0:Cl u 0 (pC ts j d):=by
     rw[hu];unfold pC
     (try exact cyD)
    have C1:Cl u 1 [.int .i64 0,.int .i64 0,.str [],.nils,.int .i64 0,.int .i64 0]:=by
     rw[hu]
     (try exact cyD)
    have C2:Cl u 2 (eE x):=by
     rw[hu]
     (try exact cyD)
    clear hu E A;refine ye (λmm L s=>∃ (m i':Nat) (x':Ex),m<=n/\mm=m/\Q0 ts m v l x' i' d=some r/\i'<ts.length/\3<=s.nx/\Cl s 0 (pC ts i' d)/\Cl s 1 [.int .i64 0,.int .i64 0,.str [],.nils,.int .i64 0,.int .i64 0]/\Cl s 2 (eE x')/\Has L 0 (.ptr 0 0)/\Has L 1 (.lst (l.length+1) (fl Xe (v :: l)))/\Has L 4 (.ptr 1 0)/\Has L 5 (.ptr 2 0)) ?_ n ?_
    .rintro m L s ⟨_,i',x',hm,rfl,hl,hi',n0,C0,C1,C2,i0,i1,i4,i5⟩;cases m with
     |zero=>simp[Q0] at hl
     |succ m=>
     unfold Q0 at hl;have hx:(i':Int)+1=((i'+1:Nat):Int):=om
     have T:=λst p=>@jrI base hb ts i' d hi' om v.1 (by have:=ok.2 v hac;omega) st p;have R2:rats s.h 2 0 6=eE x':=(C2.ratsP 6 0 (by rw[Jp];decide)).trans (by rw[Qbl,<-Jp x',Qak]);have l2:=C2.len;rw[Jp] at l2;have L0:=C0.lt;have L1:=C1.lt;have L2:=C2.lt;by_cases c1:isM (tk ts i') v.1=true
     .rw[if_pos c1] at hl;have hi1:=W.isM hi' c1;have hw:=λy=>juG hb (tk ts i') x' y;by_cases w1:v.2=1
      .rw[if_pos w1] at hl;have w1':(v.2:Int)=1:=om
       cases he2:yS ts m (v :: l) (i'+1) d with
       |none=>rw[he2] at hl;cases hl
       |some q=>
        have A:=ihE m om _ _ _ _ he2 hi1 hd ok;cases q with
        |er t=>
         rw[he2] at hl;cases hl;obtain⟨i2,d2,A⟩:=A;have E:∀ st p,Cl st p (pC ts (i'+1) d)->∀ K Kp,XB δ base 136 [.ptr p 0,.lst (l.length+1) (fl Xe (v :: l))] st K Kp=_:=λst p C K Kp=>A.xb C rfl (λst=>hb.no 136 dc _ _) K Kp;unfold pC at *
         (have zz:=a4 @QY @Wg @R2 (aI @l2 (aI C0.r C1.r));repeat' first|apply jb<;>intro _|simp(disch:=try exact qS) only[ja i0,ja i1,ja i4,ja i5,T,c1,E,w1',kE,hH,jcs,QT,Km i5,jn8,R2,C0.q,C1.q,QY,Wg,R2,l2,C0.r,C1.r,r6,γ,ε])
         refine⟨i2,d2,?_⟩;unfold pC
         (refine G1.done (by have zz:=a4 C0.q C1.q C2.q (aI C0.r (aI C1.r C2.r));exact qh) haa haa ?_;try exact vyD)
        |ok y j=>
         rw[he2] at hl;cases hl;have A:PM _ _ _ _ _ _ _:=A;have E:∀ st p,Cl st p (pC ts (i'+1) d)->∀ K Kp,XB δ base 136 [.ptr p 0,.lst (l.length+1) (fl Xe (v :: l))] st K Kp=_:=λst p C K Kp=>A.xb C rfl (λst=>hb.no 136 dc _ _) K Kp;unfold pC at *
         (have zz:=a4 @QY @Wg @R2 (aI @l2 (aI C0.r C1.r));repeat' first|apply jb<;>intro _|simp(disch:=try exact qS) only[ja i0,ja i1,ja i4,ja i5,T,c1,E,w1',kE,hH,jcs,QT,Km i5,jha,<-qx,hw,R2,C0.q,C1.q,QY,Wg,R2,l2,C0.r,C1.r,r6,γ,ε])
         unfold pC
         (refine G1.done (by have zz:=a4 C0.q C1.q C2.q (aI C0.r (aI C1.r C2.r));exact qh) haa haa ?_;try exact vyD)
      .rw[if_neg w1] at hl;have w1':¬ (v.2:Int)=1:=om
       cases he2:yS ts m l (i'+1) d with
       |none=>rw[he2] at hl;cases hl
       |some q=>
        have A:=ihE m om _ _ _ _ he2 hi1 hd ⟨by have:=ok.1;simp at this;omega,λw hw=>ok.2 w (Qcc _ hw)⟩;have hz2:=(gt W m).1 _ _ _ _ he2 hi1;cases q with
        |er t=>
         rw[he2] at hl;cases hl;obtain⟨i2,d2,A⟩:=A;have E:∀ st p,Cl st p (pC ts (i'+1) d)->∀ K Kp,XB δ base 136 [.ptr p 0,.lst l.length (fl Xe l)] st K Kp=_:=λst p C K Kp=>A.xb C rfl (λst=>hb.no 136 dc _ _) K Kp;unfold pC at *
         (have zz:=a4 @QY @Wg @R2 (aI @l2 (aI C0.r C1.r));repeat' first|apply jb<;>intro _|simp(disch:=try exact qS) only[ja i0,ja i1,ja i4,ja i5,T,c1,E,w1',kE,hH,jcs,QT,Km i5,jn8,K8 vT v l,R2,C0.q,C1.q,QY,Wg,R2,l2,C0.r,C1.r,r6,γ,ε])
         refine⟨i2,d2,?_⟩;unfold pC
         (refine G1.done (by have zz:=a4 C0.q C1.q C2.q (aI C0.r (aI C1.r C2.r));exact qh) haa haa ?_;try exact vyD)
        |ok y j=>
         rw[he2] at hl;dsimp only at hl;have A:PM _ _ _ _ _ _ _:=A;have hj2:j<ts.length:=hz2.2.1;have E:∀ st p,Cl st p (pC ts (i'+1) d)->∀ K Kp,XB δ base 136 [.ptr p 0,.lst l.length (fl Xe l)] st K Kp=_:=λst p C K Kp=>A.xb C rfl (λst=>hb.no 136 dc _ _) K Kp;by_cases w2:v.2=2
         .rw[if_pos w2] at hl;cases hl;have w2':(v.2:Int)=2:=om
          unfold pC at *
          (have zz:=a4 @QY @Wg @R2 (aI @l2 (aI C0.r C1.r));repeat' first|apply jb<;>intro _|simp(disch:=try exact qS) only[ja i0,ja i1,ja i4,ja i5,T,c1,E,w1',w2',kE,hH,jcs,QT,Km i5,jha,<-qx,hw,K8 vT v l,R2,C0.q,C1.q,QY,Wg,R2,l2,C0.r,C1.r,r6,γ,ε])
          unfold pC
          (refine G1.done (by have zz:=a4 C0.q C1.q C2.q (aI C0.r (aI C1.r C2.r));exact qh) haa haa ?_;try exact vyD)
         .rw[if_neg w2] at hl;have w2':¬ (v.2:Int)=2:=om
          unfold pC at *
          (have zz:=a4 @QY @Wg @R2 (aI @l2 (aI C0.r C1.r));repeat' first|apply jb<;>intro _|simp(disch:=try exact qS) only[ja i0,ja i1,ja i4,ja i5,T,c1,E,w1',w2',kE,hH,jcs,QT,Km i5,<-qx,hw,K8 vT v l,R2,C0.q,C1.q,QY,Wg,R2,l2,C0.r,C1.r,r6,γ,ε])
          refine⟨m,om,m,j,Qt (tk ts i') x' y,om,rfl,hl,hj2,om,?_,?_,?_,?_⟩
          ·(have zz:=a4 C0.q C1.q C2.q (aI C0.r (aI C1.r C2.r));try exact qh)
          ·(have zz:=a4 C0.q C1.q C2.q (aI C0.r (aI C1.r C2.r));try exact qh)
          ·(have zz:=a4 C0.q C1.q C2.q (aI C0.r (aI C1.r C2.r));try exact qh)
          .simp(disch:=decide) only[h12,i0,i1,i4,i5]
     .rw[if_neg c1] at hl;cases hl;unfold pC at *
      (have zz:=a4 @R2 @l2 C0.r C1.r;repeat' first|apply jb<;>intro _|simp(disch:=try exact qS) only[ja i0,ja i1,ja i4,ja i5,T,c1,kE,jha,<-qx,R2,C0.q,C1.q,R2,l2,C0.r,C1.r,r6,γ,ε])
      unfold pC
      (refine G1.done (by have zz:=a4 C0.q C1.q C2.q (aI C0.r (aI C1.r C2.r));exact qh) haa haa ?_;try exact vyD)
    .refine⟨n,j,x,η _,rfl,h,hj,n0,C0,C1,C2,?_⟩;simp(disch:=decide) only[h12]
mutual
def Ex.ev (q:Ex->Prop):Ex->Prop
 |.mk o n nm ks l c=>q (.mk o n nm ks l c)/\Ex.evs q ks
def Ex.evs (q:Ex->Prop):List Ex->Prop
 |[]=>True
 |x :: xs=>x.ev q/\Ex.evs q xs
end
def atW (ts:List Tk)(x:Ex):Prop:=x.op≠4/\∃ k,k<ts.length/\(tk ts k).kind≠5/\x.line=(tk ts k).line/\x.col=(tk ts k).col
def GoodR (ts:List Tk)(i:Nat):PR->Prop
 |.ok x j=>i<=j/\j<ts.length/\x.ev (atW ts)
 |.er t=>∃ k,k<ts.length/\t=tk ts k
theorem GoodR.le {ts:List Tk}{i j:Nat}{r:PR}(h:GoodR ts j r)(hij:i<=j):GoodR ts i r:=by
 cases r with
 |ok x k=>exact⟨χ hij h.1,h.2⟩
 |er t=>exact h
def okT (l:List Lev):Prop:=∀ v∈l,∀ s∈v.1,(wF s).isSome=true
theorem gM:okT Jf:=by
 have:(Jf.all λv=>v.1.all λs=>(wF s).isSome)=true:=by decide +kernel
 intro v hv s hs;rw[Qah] at this;have h:=this v hv;rw[Qah] at h;exact h s hs
theorem Wn {ts:List Tk}{k:Nat}(hk:k<ts.length)(h5:(tk ts k).kind≠5){o n:Int}{nm:Lc}{ks:List Ex}(ho:o≠4)(h:Ex.evs (atW ts) ks):(Ex.mk o n nm ks (tk ts k).line (tk ts k).col).ev (atW ts):=
 ⟨⟨ho,k,hk,h5,rfl,rfl⟩,h⟩
theorem jid {ts:List Tk}{k:Nat}(hk:k<ts.length)(h5:(tk ts k).kind≠5){x y:Ex}(hx:x.ev (atW ts))(hy:y.ev (atW ts))(ht:(wF (tk ts k).text).isSome=true):(Qt (tk ts k) x y).ev (atW ts):=by
 unfold Qt;split
 .refine Wn hk h5 om ⟨hx,hy,trivial⟩
 .rename_i h;rw[h] at ht;cases ht
theorem Gg {t:Tk}{S:Lb}(h:isM t S=true):t.kind≠5:=by have:=(Vp h).1;omega
def Anw (f:Nat->Option PR)(Q:PR->Prop):Prop:=∃ N r,Q r/\∀ n,N<=n->f n=some r
theorem Anw.mono {f:Nat->Option PR}{Q R:PR->Prop}(h:Anw f Q)(k:∀ r,Q r->R r):Anw f R:=by
 obtain⟨N,r,h1,h2⟩:=h;exact⟨N,r,k r h1,h2⟩
theorem joe {f g:Nat->Option PR}{Q:PR->Prop}(h:Anw f Q)(k:∀ n,g (n+1)=f n):Anw g Q:=by
 obtain⟨N,r,h1,h2⟩:=h;refine⟨N+1,r,h1,λn hn=>?_⟩;obtain⟨m,rfl⟩:∃ m,n=m+1:=⟨n - 1,om⟩;rw[k,h2 m om]
theorem uY {g:Nat->Option PR}{Q:PR->Prop}(r:PR)(hQ:Q r)(k:∀ n,g (n+1)=some r):Anw g Q:=by
 refine⟨1,r,hQ,λn hn=>?_⟩;obtain⟨m,rfl⟩:∃ m,n=m+1:=⟨n - 1,om⟩;exact k m
theorem GS {f g:Nat->Option PR}{Q R:PR->Prop}(F:Ex->Nat->Nat->Option PR)(h:Anw f Q)(k:∀ n,g (n+1)=(match f n with|some (.ok x j)=>F x j n|r=>r))(he:∀ t,Q (.er t)->R (.er t))(ho:∀ x j,Q (.ok x j)->Anw (F x j) R):Anw g R:=by
 obtain⟨N,r,h1,h2⟩:=h;cases r with
 |er t=>
  refine⟨N+1,.er t,he t h1,λn hn=>?_⟩;obtain⟨m,rfl⟩:∃ m,n=m+1:=⟨n - 1,om⟩;rw[k,h2 m om]
 |ok x j=>
  obtain⟨M,r,h3,h4⟩:=ho x j h1;refine⟨max N M+1,r,h3,λn hn=>?_⟩;obtain⟨m,rfl⟩:∃ m,n=m+1:=⟨n - 1,om⟩;rw[k,h2 m om];exact h4 m om
theorem GR {f:Nat->Option PR}{Q:PR->Prop}(r:PR)(hQ:Q r)(k:∀ n,f n=some r):Anw f Q:=⟨0,r,hQ,λn _=>k n⟩
structure AnsM (ts:List Tk)(m:Nat):Prop where
 e:∀ i d l,i<ts.length->ts.length<=i+m->d<=60->okT l->Anw (λn=>yS ts n l i d) (GoodR ts (i+1))
 p:∀ i d,i<ts.length->ts.length<=i+m->d<=60->Anw (λn=>Qx ts n i d) (GoodR ts (i+1))
 o:∀ i d v l x,i<ts.length->ts.length<=i+m->d<=60->okT (v :: l)->x.ev (atW ts)->Anw (λn=>Q0 ts n v l x i d) (GoodR ts i)
theorem jtu {ts:List Tk}(W:Wds ts):∀ m,AnsM ts m
 |0=>⟨λi d l h1 h2=>by omega,λi d h1 h2=>by omega,λi d v l x h1 h2=>by omega⟩
 |m+1=>by
  have ih:=jtu W m;have hv:∀ i d,i<ts.length->ts.length<=i+(m+1)->d<=60->Anw (λn=>Yq ts n i d) (GoodR ts (i+1)):=by
   intro i d hi hm hd;by_cases h2:(tk ts i).kind=2
   .exact uY (.ok (.mk 1 (tk ts i).num [] [] (tk ts i).line (tk ts i).col) (i+1)) ⟨η _,W.next i hi om,Wn hi om dc (ks:=[]) trivial⟩ λn=>by simp only[Yq];rw[if_pos h2]
   by_cases h1:(tk ts i).kind=1
   .exact uY (.ok (.mk 3 0 (tk ts i).text [] (tk ts i).line (tk ts i).col) (i+1)) ⟨η _,W.next i hi om,Wn hi om dc (ks:=[]) trivial⟩ λn=>by simp only[Yq];rw[if_neg h2,if_pos h1]
   by_cases ht:isM (tk ts i) [[116,114,117,101]]=true
   .exact uY (.ok (.mk 2 1 [] [] (tk ts i).line (tk ts i).col) (i+1)) ⟨η _,W.isM hi ht,Wn hi (Gg ht) dc (ks:=[]) trivial⟩ λn=>by simp only[Yq];rw[if_neg h2,if_neg h1,if_pos ht]
   by_cases hf:isM (tk ts i) [[102,97,108,115,101]]=true
   .exact uY (.ok (.mk 2 0 [] [] (tk ts i).line (tk ts i).col) (i+1)) ⟨η _,W.isM hi hf,Wn hi (Gg hf) dc (ks:=[]) trivial⟩ λn=>by simp only[Yq];rw[if_neg h2,if_neg h1,if_neg ht,if_pos hf]
   by_cases hp:isM (tk ts i) [[40]]=true
   .have hi1:=W.isM hi hp;by_cases h60:60<d+1
    .exact uY (.er _) ⟨i+1,hi1,rfl⟩ λn=>by simp only[Yq];rw[if_neg h2,if_neg h1,if_neg ht,if_neg hf,if_pos hp,if_pos h60]
    .refine GS (λx j n=>if isM (tk ts j) [[41]]=true then some (.ok x (j+1)) else some (.er (tk ts j))) (ih.e (i+1) (d+1) Jf hi1 om om gM) (λn=>by simp only[Yq];rw[if_neg h2,if_neg h1,if_neg ht,if_neg hf,if_pos hp,if_neg h60]<;>rfl) (λt h=>h) λx j h=>?_;by_cases hq:isM (tk ts j) [[41]]=true
     .exact GR (.ok x (j+1)) ⟨by have:=h.1;omega,W.isM h.2.1 hq,h.2.2⟩ λn=>if_pos hq
     .exact GR (.er (tk ts j)) ⟨j,h.2.1,rfl⟩ λn=>if_neg hq
   .exact uY (.er _) ⟨i,hi,rfl⟩ λn=>by simp only[Yq];rw[if_neg h2,if_neg h1,if_neg ht,if_neg hf,if_neg hp]
  have hp:∀ i d,i<ts.length->ts.length<=i+(m+1)->d<=60->Anw (λn=>Qx ts n i d) (GoodR ts (i+1)):=by
   intro i d hi hm hd;by_cases hp:isM (tk ts i) zm=true
   .have hi1:=W.isM hi hp;by_cases h60:60<d+1
    .exact uY (.er _) ⟨i+1,hi1,rfl⟩ λn=>by simp only[Qx];rw[if_pos hp,if_pos h60]
    .refine GS (λx j n=>some (.ok (.mk (kd (tk ts i).text:Nat) 0 [] [x] (tk ts i).line (tk ts i).col) j)) (ih.p (i+1) (d+1) hi1 om om) (λn=>by simp only[Qx];rw[if_pos hp,if_neg h60]<;>rfl) (λt h=>h) λx j h=>?_;exact GR (.ok (.mk (kd (tk ts i).text:Nat) 0 [] [x] (tk ts i).line (tk ts i).col) j) ⟨by have:=h.1;omega,h.2.1,Wn hi (Gg hp) (by unfold kd;omega) (ks:=[x]) ⟨h.2.2,trivial⟩⟩ λn=>rfl
   .exact joe (hv i d hi hm hd) λn=>by simp only[Qx];rw[if_neg hp]
  have he:∀ l i d,i<ts.length->ts.length<=i+(m+1)->d<=60->okT l->Anw (λn=>yS ts n l i d) (GoodR ts (i+1)):=by
   intro l;induction l with
   |nil=>intro i d hi hm hd hl;exact joe (hp i d hi hm hd) λn=>by simp only[yS]
   |cons v l ihl=>
    intro i d hi hm hd hl;refine GS (λx j n=>Q0 ts n v l x j d) (ihl i d hi hm hd λw hw=>hl w (Qcc _ hw)) (λn=>by simp only[yS]<;>rfl) (λt h=>h) λx j h=>?_;exact(ih.o j d v l x h.2.1 (by have:=h.1;omega) hd hl h.2.2).mono λr hr=>hr.le h.1
  refine⟨λi d l h1 h2 h3 h4=>he l i d h1 h2 h3 h4,hp,λi d v l x hi hm hd hl hx=>?_⟩;by_cases hs:isM (tk ts i) v.1=true
  .have hi1:=W.isM hi hs;have ht:(wF (tk ts i).text).isSome=true:=hl v (List.mem_cons_self ..) _ (Vp hs).2;have hl':okT l:=λw hw=>hl w (Qcc _ hw);by_cases hw:v.2=1
   .refine GS (λy j n=>some (.ok (Qt (tk ts i) x y) j)) (ih.e (i+1) d (v :: l) hi1 om hd hl) (λn=>by simp only[Q0];rw[if_pos hs,if_pos hw]<;>rfl) (λt h=>h) λy j h=>?_;exact GR (.ok (Qt (tk ts i) x y) j) ⟨by have:=h.1;omega,h.2.1,jid hi (Gg hs) hx h.2.2 ht⟩ λn=>rfl
   .refine GS (λy j n=>if v.2=2 then some (.ok (Qt (tk ts i) x y) j) else Q0 ts n v l (Qt (tk ts i) x y) j d) (ih.e (i+1) d l hi1 om hd hl') (λn=>by simp only[Q0];rw[if_pos hs,if_neg hw]<;>rfl) (λt h=>h) λy j h=>?_;have hxy:=jid hi (Gg hs) hx h.2.2 ht;by_cases h2:v.2=2
    .exact GR (.ok (Qt (tk ts i) x y) j) ⟨by have:=h.1;omega,h.2.1,hxy⟩ λn=>if_pos h2
    .obtain⟨N,r,h3,h4⟩:=ih.o j d v l _ h.2.1 (by have:=h.1;omega) hd hl hxy;exact⟨N,r,h3.le (by have:=h.1;omega),λn hn=>(if_neg h2).trans (h4 n hn)⟩
  .exact uY (.ok x i) ⟨η _,hi,hx⟩ λn=>by simp only[Q0];rw[if_neg hs]
theorem reads (hb:NB base){ts:List Tk}(W:Wds ts):∀ n,IsE base ts n/\IsP base ts n/\IsV base ts n:=by
 have key:∀ n,∀ m,m<=n->IsE base ts m/\IsP base ts m/\IsV base ts m:=by
  intro n;induction n with
  |zero=>
   intro m hm;obtain rfl:m=0:=om
   exact⟨λ_ _ _ _ h=>(by simp[yS] at h),λ_ _ _ h=>(by simp[Qx] at h),λ_ _ _ h=>(by simp[Yq] at h)⟩
  |succ n ih=>
   intro m hm;by_cases h:m<=n
   .exact ih m h
   .obtain rfl:m=n+1:=om
    obtain⟨h1,h2,h3⟩:=ih n (η _);exact⟨jsF hb W (λk hk=>(ih k hk).1) h2,jl3 hb W h2 h3,jon hb W h1⟩
 exact λn=>key n n (η _)
def K5 (ts:List Tk)(i:Nat)(r0:PR):PR:=match r0 with
 |.er t=>.er t
 |.ok x j=>if zF 60 x=true then .ok x j else .er (tk ts i)
def EvR (ts:List Tk)(i:Nat)(r:PR):Prop:=∃ N,∀ n,N<=n->yS ts n Jf i 0=some r
theorem EvR.uniq {ts:List Tk}{i:Nat}{r q:PR}(h:EvR ts i r)(k:EvR ts i q):r=q:=by
 obtain⟨N,h⟩:=h;obtain⟨M,k⟩:=k;have:=(h (max N M) (Qao ..)).symm.trans (k (max N M) (Qap ..));exact Option.some.inj this
open Classical in
def yY (ts:List Tk)(i:Nat):PR:=if h:∃ r,EvR ts i r then K5 ts i h.choose else .er (tk ts i)
theorem HY {ts:List Tk}{i:Nat}{r:PR}(h:EvR ts i r):yY ts i=K5 ts i r:=by
 unfold yY;rw[dif_pos ⟨r,h⟩];have:=(⟨r,h⟩:∃ r,EvR ts i r).choose_spec;rw[this.uniq h]
theorem evR {ts:List Tk}(W:Wds ts){i:Nat}(hi:i<ts.length):∃ r,GoodR ts (i+1) r/\EvR ts i r:=by
 obtain⟨N,r,hg,hr⟩:=(jtu W ts.length).e i 0 Jf hi om dc gM;exact⟨r,hg,N,hr⟩
theorem UT (hb:NB base){ts:List Tk}(W:Wds ts){i:Nat}(hi:i<ts.length):Ans base 96 (pC ts i 0) [] ts 0 (yY ts i):=by
 obtain⟨r,_,hr⟩:=evR W hi;rw[HY hr];obtain⟨N,hr⟩:=hr;have he:=hr N (η _);have A:=(reads hb W N).1 _ _ _ _ he hi om ⟨dc,dc⟩;have hz:=(gt W N).1 _ _ _ _ he hi;have hN:=λst p=>@Y0 base hb ts i 0 hi st p;have hL:=jcZ hb;cases r with
 |er t=>
  obtain⟨i',d',A⟩:=A;have E:∀ st p,Cl st p (pC ts i 0)->∀ K Kp,XB δ base 136 [.ptr p 0,.lst 8 (fl Xe Jf)] st K Kp=_:=λst p C K Kp=>A.xb C rfl (λst=>hb.no 136 dc _ _) K Kp;refine⟨i',d',?_⟩;unfold pC at *;refine qa x48 haa (hb.pur 96 3 dc) rfl ?_;simp only[y48,jj,ζ,θ,κ,μ];rw[(by unfold z48;simp only[qq];rfl:z48=_)];repeat' first|apply jb<;>intro _|simp(disch:=try exact dzD) only[hN,hL,E,r6,γ,ε]
  (refine G1.done cyD haa haa ?_;try exact vyD)
 |ok x j=>
  have A:PM _ _ _ _ _ _ _:=A;have E:∀ st p,Cl st p (pC ts i 0)->∀ K Kp,XB δ base 136 [.ptr p 0,.lst 8 (fl Xe Jf)] st K Kp=_:=λst p C K Kp=>A.xb C rfl (λst=>hb.no 136 dc _ _) K Kp;have hx:szE x<=BIG:=by
   have h1:=hz.2.2;have h2:(j - i) * 65537<=1000000 * 65537:=QaA _ (by have:=W.len;have:=hz.2.1;omega);have h3:1000000 * 65537<=BIG:=dc
   exact χ h1 (by rw[Qaj];exact χ h2 h3)
  have hR:=jpE hb x hx;unfold K5;dsimp only;by_cases c:zF 60 x=true
  .rw[if_pos c];show PM _ _ _ _ _ _ _;unfold pC at *;refine qa x48 haa (hb.pur 96 3 dc) rfl ?_;simp only[y48,jj,ζ,θ,κ,μ];rw[(by unfold z48;simp only[qq];rfl:z48=_)];repeat' first|apply jb<;>intro _|simp(disch:=try exact dzD) only[hN,hL,E,hR,c,<-qx,r6,γ,ε]
   (refine G1.done cyD haa haa ?_;try exact vyD)
  .rw[if_neg c];refine⟨j,0,?_⟩;unfold pC at *;refine qa x48 haa (hb.pur 96 3 dc) rfl ?_;simp only[y48,jj,ζ,θ,κ,μ];rw[(by unfold z48;simp only[qq];rfl:z48=_)];repeat' first|apply jb<;>intro _|simp(disch:=try exact dzD) only[hN,hL,E,hR,c,Qf hb,r6,γ,ε]
   (refine G1.done cyD haa haa ?_;try exact vyD)
def z15:XC:=(ou [T4 2,Ib 3 [oB,oB,oB]] (oX [Iz 9,OG 10 88 9,oy 8 10,O8 11 8,O9 12 8,TR 11,o9 3 3 12] (Id [OZ 13 3,oF 14 13,Tt 15 14] 15 (OQ [Tc 16 6 2 2 65 [],Tc 17 3 3 3 71 [],T6 6 2 16 [(0,71)],T6 3 3 17 []] .ret)) (Te [o6 (.defer (oQ 89 []) [3])] [oy 18 4,IG 19 [.nils,oB,oB] [((0,1),18)],ol 20 (.box 19),oz 5 20] (oX [oy 21 5,OG 22 96 21,T4 6,o9 6 6 22] (ou [oy 23 5,OG 24 97 23,Ib 7 [oB,oJ,oB,oB,oB],o9 5 7 24] (Oo [OZ 25 7,oF 26 25,Th 27 .neq 26 5] 27 [o7 28 5 7,OG 29 98 28])) (OQ [Tc 30 6 6 6 65 [],Tc 31 3 3 3 71 [],T6 6 2 30 [(0,71)],T6 3 3 31 []] .ret)))))
def y15:XF:=⟨[0],z15,[(.cA 2 6),(.cA 3 3)]⟩
theorem x15:jx δ 67=some y15:=Qa0
def z9:XC:=(ou [Ib 2 [.nils,.nils,.nils],Ib 3 [oB,oB,oB]] (oX [Iz 7,OG 8 88 7,oy 6 8,O8 9 6,O9 10 6,TR 9,o9 3 3 10] (Id [OZ 11 3,oF 12 11,Tt 13 12] 13 (OQ [Tc 14 3 2 2 26 [],Tc 15 3 3 3 71 [],T6 3 2 14 [(0,71)],T6 3 3 15 []] .ret)) (ou [o6 (.defer (oQ 89 []) [3])] (oX [oy 16 4,IG 17 [.nils,oB,oB] [((0,1),16)],ol 18 (.box 17),oz 5 18] (.dops [To 19 5,(Ts 20 90 19 0 [],some [TM 20,Ij (o7 21 3 3) 3 71 [(0,0)],Ic (o6 (.i (.mv I7))) 0,Ic (o6 (.i (.mv I7))) 0]),Tc 21 3 3 3 71 [(0,0)],T6 3 2 20 [(0,71)],T6 3 3 21 []]) .ret))))
def y9:XF:=⟨[0],z9,[(.cA 2 3),(.cA 3 3)]⟩
theorem x9:jx δ 65=some y9:=Qa0
def z78:XC:=(ou [Ib 2 [oJ,.nils,oB,oB]] (Te [Iz 7,OG 8 163 7,Ib 3 [oB,oJ,oB,oB,oB],o9 5 3 8] [Tu 9 3,oF 10 9,TB 11 3,oF 12 11,oD 13 4 3,oF 14 13,IG 15 [oJ,.nils,oB,oB] [((0,1),10),((2,1),12),((3,1),14)],Ib 4 [oJ,.nils,oB,oB],o9 4 4 15] (IY [Iz 16,OL 17 164 16 (o4 [123])] 0 (.block 1 (.seq (Id [Iz 18,OG 19 97 18,ol 20 (.fld1 0 19),Th 21 .eql 20 1] 21 (.dops [IT 22 1 4,Tj 23 22 22 141,IJ (IU 24 23),TO 25,(Ts 26 97 25 0 [(2,141)],I6),(IB (OL 27 123 24 26) 0 [],I6)])) (OQ [IT 28 1 4,Tj 29 28 28 141,TO 30,(Ts 31 163 30 0 [(1,141)],I6),IJ (ol 32 (.fld1 1 31)),IJ (TG 33 1 oJ [((0,1),32)]),Ol (OT 34 1 16 29 33) 0 [],IT 35 1 4,T6 1 35 34 []] (ou [Iz 37,TG 38 1 oJ [O4 0 44],OL 39 122 37 38,oy 36 39,O8 40 36,O9 41 36,ol 5 (.alloc [oB,oJ,oB,oB,oB]),o9 5 5 40,oz 6 41] (Id (T5 42 6 (TH 43 42)) 43 (OK [Iz 44,OL 45 164 44 (o4 [125])] [o7 46 4 4,o9 4 2 46])))))))))
def y78:XF:=⟨[0],z78,[(.cA 2 4)]⟩
theorem x78:jx δ 124=some y78:=Qa0
def jfS:XC:=(.seq (ou [Iz 45,TG 46 1 oJ [O4 0 61],OL 47 122 45 46,oy 44 47,O8 48 44,O9 49 44,ol 7 (.alloc [oB,oJ,oB,oB,oB]),o9 5 7 48,oz 8 49] (Oo [oz 50 8] 50 [Iz 51,OG 52 96 51,Ip 53 1 6 (Tf oB oB oJ oB oB) [((0,6),52)],oD 54 4 4,TV 54 53])) (OK [Iz 55,OL 56 164 55 (o4 [59])] [o7 57 7 4,o9 7 2 57]))
def jfT:XC:=(.seq (ou [Iz 21,TG 22 1 oJ [Ow 0 [98,111,111,108]],OL 23 122 21 22,oy 20 23,O8 24 20,O9 25 20,ol 5 (.alloc [oB,oJ,oB,oB,oB]),o9 5 5 24,oz 6 25] (oM [oz 26 6] 26 (.ops [Tu 27 4,TV 27 (o4 [98,111,111,108])]) (oM [Iz 28,OG 29 97 28,ol 30 (.fld1 0 29),Th 31 .eql 30 1] 31 (.ops [Iz 32,OG 33 163 32,ol 34 (.fld1 1 33),Tu 35 4,TV 35 34]) (Te [Iz 36,OG 37 165 36,oD 38 2 4,TV 38 37] [Iz 39,OL 40 164 39 (o4 [46,46])] (.ops [Iz 41,OG 42 165 41,TB 43 4,TV 43 42]))))) jfS)
def z79:XC:=(Te [Ib 2 [oJ,oJ,oB,oB,.nils,oB,oB]] [Iz 9,OG 10 163 9,Ib 3 [oB,oJ,oB,oB,oB],o9 5 3 10] (Te [Tu 11 3,oF 12 11,TB 13 3,oF 14 13,oD 15 4 3,oF 16 15,IG 17 [oJ,oJ,oB,oB,.nils,oB,oB] [((0,1),12),((5,1),14),((6,1),16)],Ib 4 [oJ,oJ,oB,oB,.nils,oB,oB],o9 7 4 17] [Iz 18,OL 19 164 18 (o4 [58])] jfT))
def y79:XF:=⟨[0],z79,[(.cA 2 7)]⟩
theorem x79:jx δ 125=some y79:=Qa0
def Ki:XC:=(Te [Ib 2 [oB,oB,oJ,.nils,oB,oB,.nils]] [Iz 7,OG 8 96 7,IG 9 [oB,oB,oJ,.nils,oB,oB,.nils] [((0,6),8)],Ib 3 [oB,oB,oJ,.nils,oB,oB,.nils],o9 7 3 9] (IY [Iz 10,OL 11 164 10 (o4 [100,111])] 0 (.block 1 (.seq (Id [Iz 12,OG 13 97 12,ol 14 (.fld1 0 13),Th 15 .eql 14 1] 15 (.dops [IT 16 6 3,Tj 17 16 16 153,IJ (IU 18 17),TO 19,(Ts 20 97 19 0 [(2,153)],I6),(IB (OL 21 123 18 20) 0 [],I6)])) (ou [Iz 22,OG 23 163 22,Ib 4 [oB,oJ,oB,oB,oB],o9 5 4 23] (oX [Iz 24,OL 25 164 24 (o4 [58,61])] (.dops [IT 26 6 3,Tj 27 26 26 153,IT 28 1 4,Tj 29 28 28 9,TO 30,(Ts 31 96 30 0 [(1,9),(3,153)],some [TM 31,Ic (TB 32 4) 0,Ij (oF 33 32) 32 3 [(1,0)],Ic (oD 34 4 4) 0,Ij (oF 35 34) 34 3 [(3,0)],TM 36,TM 37,TM 38,TM 39,Ic (o6 (.i (.mv I7))) 0]),IT 32 3 4,Oj 33 32 32 3 [(1,0)],IT 34 4 4,Oj 35 34 34 3 [(3,0)],IJ (IG 36 [oJ,oB,oB,oJ,.nils,oB,oB,oB,oB] [((0,1),29),((1,6),31),((7,1),33),((8,1),35)]),IJ (Ip 37 1 9 [oJ,oB,oB,oJ,.nils,oB,oB,oB,oB] [((0,9),36)]),Ol (OT 38 9 104 27 37) 0 [],IT 39 6 3,T6 1 39 38 []]) (ou [Iz 41,TG 42 1 oJ [O4 0 44],OL 43 122 41 42,oy 40 43,O8 44 40,O9 45 40,ol 5 (.alloc [oB,oJ,oB,oB,oB]),o9 5 5 44,oz 6 45] (Id (T5 46 6 (TH 47 46)) 47 (OK [Iz 48,OL 49 164 48 (o4 [59])] [o7 50 7 3,o9 7 2 50])))))))))
def jf4:XF:=⟨[0],Ki,[(.cA 2 7)]⟩
theorem jlD:jx δ 166=some jf4:=Qa0
def z80:XC:=(ou [Ib 2 [oJ,.nils,oB,oB]] (Te [Iz 7,OG 8 163 7,Ib 3 [oB,oJ,oB,oB,oB],o9 5 3 8] [Tu 9 3,oF 10 9,TB 11 3,oF 12 11,oD 13 4 3,oF 14 13,IG 15 [oJ,.nils,oB,oB] [((0,1),10),((2,1),12),((3,1),14)],Ib 4 [oJ,.nils,oB,oB],o9 4 4 15] (IY [Iz 16,OL 17 164 16 (o4 [123])] 0 (.block 1 (oX [Iz 19,TG 20 1 oJ [Ow 0 [119,104,101,110]],OL 21 122 19 20,oy 18 21,O8 22 18,O9 23 18,Ib 5 [oB,oJ,oB,oB,oB],o9 5 5 22,oz 6 23] (Id (T5 24 6 (TH 25 24)) 25 (OK [Iz 26,OL 27 164 26 (o4 [125])] [o7 28 4 4,o9 4 2 28])) (ou [Tu 29 4,oF 30 29,IU 31 30,o7 32 5 5,OL 33 123 31 32] (.dops [IT 34 1 4,Tj 35 34 34 149,TO 36,(Ts 37 166 36 0 [(1,149)],I6),IJ (Ip 38 1 7 [oB,oB,oJ,.nils,oB,oB,.nils] [((0,7),37)]),Ol (OT 39 7 96 35 38) 0 [],IT 40 1 4,T6 1 40 39 []])))))))
def y80:XF:=⟨[0],z80,[(.cA 2 4)]⟩
theorem x80:jx δ 126=some y80:=Qa0
def z37:XC:=(ou [Ib 2 [.nils,.nils,.nils]] (IY [Ib 3 [.nils,.nils,.nils]] 0 (.block 1 (ou [Iz 7,TG 8 3 oJ [Ow 0 [101,110,117,109],Ow 1 [118,97,114],Ow 2 [112,114,111,99,101,115,115]],OL 9 122 7 8,oy 6 9,O8 10 6,O9 11 6,Ib 4 [oB,oJ,oB,oB,oB],o9 5 4 10,oz 5 11] (.block 2 (oM [oy 25 5,ol 26 (I8 25),oy 27 26,Tv 28 27 0 4,Td 29 27 28,Iv 30 27 (o8 .neq 29 5),II 31 27 30 OI,oz 24 31] 24 (.ops [o7 32 5 4,OG 33 98 32]) (oM (TA 35 5 (ol 36 (I8 35)) 34 36) 34 (o3 [o7 37 3 3,o9 3 2 37]) (oM [Tu 39 4,oF 40 39,TQ 41 40 [101,110,117,109],oz 38 41] 38 (ou [OZ 42 3,oF 43 42,IU 44 43,o7 45 5 4,OL 46 123 44 45] (.dops [IT 47 0 3,Tj 48 47 47 22,TO 49,(Ts 50 124 49 0 [(1,22)],I6),IJ (Ip 51 1 4 [oJ,.nils,oB,oB] [((0,4),50)]),Ol (OT 52 4 56 48 51) 0 [],IT 53 0 3,T6 1 53 52 []])) (oM [Tu 55 4,oF 56 55,TQ 57 56 [118,97,114],oz 54 57] 54 (ou [Tu 58 3,oF 59 58,IU 60 59,o7 61 5 4,OL 62 123 60 61] (.dops [IT 63 1 3,Tj 64 63 63 23,TO 65,(Ts 66 125 65 0 [(1,23)],I6),IJ (Ip 67 1 7 [oJ,oJ,oB,oB,.nils,oB,oB] [((0,7),66)]),Ol (OT 68 7 88 64 67) 0 [],IT 69 1 3,T6 1 69 68 []])) (ou [oD 12 2 3,oF 13 12,IU 14 13,o7 15 5 4,OL 16 123 14 15] (.dops [IT 17 2 3,Tj 18 17 17 24,TO 19,(Ts 20 126 19 0 [(1,24)],I6),IJ (Ip 21 1 4 [oJ,.nils,oB,oB] [((0,4),20)]),Ol (OT 22 4 56 18 21) 0 [],IT 23 2 3,T6 1 23 22 []])))))))))))
def y37:XF:=⟨[0],z37,[(.cA 2 3)]⟩
theorem x37:jx δ 90=some y37:=Qa0
def WK:XC:=(.block 0 (oM [ow 7 (.gen .eql 20 true 5 (.c .nilif))] 7 (.ops [oy 2 5]) (oM [ol 8 (.assert 5 71),ow 9 (.ext 8 1),ow 10 (.ext 8 0)] 9 (ou [Ib 3 [oB,oB,oB],o9 3 3 10] (.ops [Iz 11,o7 12 3 3,Ix 13 11,o9 3 13 12])) (ou [TR 5] (.ops (T5 6 4 (o6 (.pan 6))))))))
def GV:XH:=⟨[0],(some 5),true,[],WK,[]⟩
theorem jrc:gX δ 89=some GV:=Qa0
section
variable {P:Program} {e:En} {st:St} {K:AV->St->Prop}
def GP (P:Program)(t:TypeId)(v:AV)(st:St):ER:=(YK P (O v) t).run E0 st
theorem jjf (x:A)(t:TypeId):wK P base (.i (.assert x t)) e st K=on1 e x λv=>jk (GP P t v st) K:=k_1 rfl (λ_=>rfl) K
end
theorem vF {P:Program}(res:List RV)(m:Md)(K:Md->St->Prop)(L:Sl)(st:St):jg8 P res m K (.go L st)=yv P res L st λ_=>K m st:=nr rfl
theorem jtr (t:Tk)(st:St)(K:AV->St->Prop):jk (GP δ 71 (er t) st) K=K (.tup [.agg [.int .i64 151,.int .i64 (t.line:Int),.int .i64 (t.col:Int)],.bool true]) st:=by
 have:GP δ 71 (er t) st=.ok (.tup [.agg [.int .i64 151,.int .i64 (t.line:Int),.int .i64 (t.col:Int)],.bool true]) st:=Qa0
 rw[this];rfl
theorem jdr (st:St)(K:AV->St->Prop):jk (QB δ .eql 20 true .nilif .nilif st) K=K (.bool true) st:=by
 have:QB δ .eql 20 true .nilif .nilif st=.ok (.bool true) st:=Qa0
 rw[this];rfl
theorem jsP (t:Tk)(st:St)(K:AV->St->Prop):jk (QB δ .eql 20 true (er t) .nilif st) K=K (.bool false) st:=by
 have:QB δ .eql 20 true (er t) .nilif st=.ok (.bool false) st:=Qa0
 rw[this];rfl
theorem GA {P:Program}{f:FuncId}{xs:List AV}{m m1:Md}{st s1:St}(h:∀ K:Md->St->Prop,K m1 s1->DX P base f xs m st K)(K:Md->St->Prop):DX P base f xs m st K=K m1 s1:=by
 refine propext ⟨λ⟨m2,s2,⟨N2,D2,h2⟩,h3⟩=>?_,h K⟩;obtain⟨m',s',⟨N,D,h1⟩,rfl,rfl⟩:=h (λm' s'=>m'=m1/\s'=s1) ⟨rfl,rfl⟩;have e1:=h1 (max N N2) (Qao ..) (max D D2) (Qao ..);have e2:=h2 (max N N2) (Qap ..) (max D D2) (Qap ..);rw[e1] at e2;cases e2;exact h3
theorem jef {fb:Nat}(st:St)(hfr:st.fr=[])(K:Md->St->Prop):DX δ base 89 [.ptr fb 0] .calm st K=K .calm st:=by
 refine GA (λK hK=>?_) K;refine Z9 jrc haa hfr ?_;simp only[GV,jj,ζ,θ,κ,Xc,XV];rw[(by unfold WK;simp only[qq];rfl:WK=_)];repeat' first|apply jb<;>intro _|simp(disch:=try exact dzD) only[jdr,vF,r6,γ,ε]
 exact hK
theorem jhi {fb:Nat}(t:Tk){cs:List AV}(st:St)(hfr:st.fr=[])(C:Cl st fb cs)(hcs:cs.length=3)(K:Md->St->Prop) :
  DX δ base 89 [.ptr fb 0] (.pan (er t)) st K=K .done (wr (wr (nw st [.int .i64 0,.int .i64 0,.int .i64 0]) st.nx 0 [.int .i64 151,.int .i64 (t.line:Int),.int .i64 (t.col:Int)]) fb 0 [.int .i64 151,.int .i64 (t.line:Int),.int .i64 (t.col:Int)]):=by
 refine GA (λK hK=>?_) K;refine Z9 jrc haa hfr ?_;simp only[GV,jj,ζ,θ,κ,Xc,XV];rw[(by unfold WK;simp only[qq];rfl:WK=_)];have hl:=C.lt;have l0:=C.len;have hne:¬ fb=st.nx:=om
 (have zz:=aI @l0 @hcs;repeat' first|apply jb<;>intro _|simp(disch:=try exact qS) only[jsP,jjf,jtr,vF,l0,hcs,r6,γ,ε])
 exact hK
theorem uh {fb:Nat}(st:St)(K:Md->St->Prop):DX δ base 89 [.ptr fb 0] .calm st.bare K=K .calm st.bare:=jef st.bare rfl K
theorem W9 {fb:Nat}(t:Tk)(st:St)(h:jV st.h fb=3)(hn:fb<st.nx)(K:Md->St->Prop) :
  DX δ base 89 [.ptr fb 0] (.pan (er t)) st.bare K=K .done (wr (wr (nw st.bare [.int .i64 0,.int .i64 0,.int .i64 0]) st.nx 0 [.int .i64 151,.int .i64 (t.line:Int),.int .i64 (t.col:Int)]) fb 0 [.int .i64 151,.int .i64 (t.line:Int),.int .i64 (t.col:Int)]):=
 have C:Cl st fb (rats st.h fb 0 3):=Cl.of_rats hn h (Qw _ _ _ _) dc rfl
 jhi t st.bare rfl C.bar (Qw _ _ _ _) K
theorem jux:Go.Ev.isAgg δ 71=some true:=Qa0
theorem juw:Go.Ev.sizeOf δ 71=some 3:=Qa0
theorem YU {b:Nat}{x y z:Int}{h:T AO}(ho:0+3<=jV h b)(hv:rats h b 0 3=[.int .i64 x,.int .i64 y,.int .i64 z]):(jZ δ 71 (.ptr b 0) (.agg [.int .i64 x,.int .i64 y,.int .i64 z]) h=true)=True:=eq_true (YW jux juw dc ho hv rfl)
theorem uv {b:Nat}{x y z w:Int}{n:Lc}{h:T AO}(ho:0+6<=jV h b)(hv:rats h b 0 6=[.int .i64 x,.int .i64 y,.str n,.nils,.int .i64 z,.int .i64 w]):(jZ δ 65 (.ptr b 0) (.agg [.int .i64 x,.int .i64 y,.str n,.nils,.int .i64 z,.int .i64 w]) h=true)=True:=eq_true (YW jbf jbe dc ho hv rfl)
section
variable {P:Program} {st:St} {K Kp:AV->St->Prop}
theorem Jb {f:FuncId}{vs:List AV}(h:st.fr=[(f,vs)])(res:List RV)(v:AV)(L:Sl):vO P base res K Kp v L st=DX P base f vs (.pan v) st.bare λm' st'=>(match m' with
  |.calm=>yv P res L st'.bare λvs=>K (zB vs) st'.bare
  |.pan v=>Kp v st'.bare
  |.done=>yv P res L st'.bare λvs=>K (zB vs) st'.bare):=by
 have:vO P base res K Kp v L st=yM P base res K Kp [(f,vs)] L st.bare (.pan v):=by show yM P base res K Kp st.fr L st.bare (.pan v)=_;rw[h]
 rw[this,jb7];rfl
theorem yw {f:FuncId}{vs:List AV}(h:st.fr=[(f,vs)])(res:List RV)(L:Sl):UA P base res K Kp (.rt L st)=DX P base f vs .calm st.bare λm' st'=>(match m' with
  |.calm=>yv P res L st'.bare λvs=>K (zB vs) st'.bare
  |.pan v=>Kp v st'.bare
  |.done=>yv P res L st'.bare λvs=>K (zB vs) st'.bare):=by
 have:UA P base res K Kp (.rt L st)=yM P base res K Kp [(f,vs)] L st.bare .calm:=by show yM P base res K Kp st.fr L st.bare .calm=_;rw[h]
 rw[this,jb7];rfl
theorem zH (h:st.fr=[])(res:List RV)(L:Sl):UA P base res K Kp (.rt L st)=yv P res L st.bare λvs=>K (zB vs) st.bare:=by
 show yM P base res K Kp st.fr L st.bare .calm=_;rw[h];rfl
end
theorem jsN {s:St}{x:Ex}{q:Nat×Nat×Nat}{cs ds:List AV}(h:cs=eE x)(h2:ds=zG q):G0 (.tup [.agg (eE x),.agg (zG q)]) (.tup [.agg cs,.agg ds]) s:=by
 subst h h2;exact FzD.tup (.cons (.agg (.pc (yd x))) (.cons (.agg (.pc haa)) .nil))
theorem jdq {s:St}{q:Nat×Nat×Nat}{ds:List AV}(h2:ds=zG q):G0 (.tup [.agg (eE (.mk 0 0 [] [] 0 0)),.agg (zG q)]) (.tup [.agg [.int .i64 0,.int .i64 0,.str [],.nils,.int .i64 0,.int .i64 0],.agg ds]) s:=by
 subst h2;exact FzD.tup (.cons Yu (.cons (.agg (.pc haa)) .nil))
def ex0:Ex:=.mk 0 0 [] [] 0 0
def yp (l:Lc):Ex×(Nat×Nat×Nat):=
 if(qj l).2.1≠0 then(ex0,(qj l).2) else match yY (qj l).1 0 with
  |.er t=>(ex0,(151,t.line,t.col))
  |.ok x j=>if(tk (qj l).1 j).kind=5 then(x,(0,0,0)) else(ex0,(151,(tk (qj l).1 j).line,(tk (qj l).1 j).col))
theorem yJ {ts:List Tk}(W:Wds ts){i j:Nat}{x:Ex}(hi:i<ts.length)(h:yY ts i=.ok x j):i+1<=j/\j<ts.length/\x.ev (atW ts)/\zF 60 x=true:=by
 obtain⟨r,hg,hr⟩:=evR W hi;rw[HY hr] at h;unfold K5 at h;cases r with
 |er t=>cases h
 |ok y k=>
  dsimp only at h;by_cases c:zF 60 y=true
  .rw[if_pos c] at h;cases h;exact⟨hg.1,hg.2.1,hg.2.2,c⟩
  .rw[if_neg c] at h;cases h
theorem jtM (hb:NB base)(hP:PI base)(l:Lc)(hl:l.length<=9223372036854775807)(hW:(qj l).2.1=0->Wds (qj l).1/\(qj l).1≠[]/\(qj l).2=(0,0,0)) :
  Tot base 67 [.str l] (.tup [.agg (eE (yp l).1),.agg (zG (yp l).2)]):=by
 refine hb.tot ?_ rfl rfl;refine W5 x15 (hb.pur 67 1 dc) ?_;simp only[y15,jj,ζ,θ,κ,μ];rw[(by unfold z15;simp only[qq];rfl:z15=_)];have hC:=joi hb hP l hl;have f0:(zG (qj l).2)=[.int .i64 ((qj l).2.1:Int),.int .i64 ((qj l).2.2.1:Int),.int .i64 ((qj l).2.2.2:Int)]:=rfl;by_cases he:(qj l).2.1=0
 .obtain⟨W,hne,hz⟩:=hW he;have hi:0<(qj l).1.length:=QbO.2 hne;have A:=UT hb W hi;unfold yp;rw[if_neg (by simp[he])];rw[hz] at hC;generalize (qj l).1=ts at *;have fz:zG (0,0,0)=[.int .i64 0,.int .i64 0,.int .i64 0]:=rfl;rw[fz] at hC;cases hr:yY ts 0 with
  |er t=>
   rw[hr] at A;obtain⟨i',d',A⟩:=A;have E:∀ st p,Cl st p [.lst ts.length (fl Tk.cells ts),.int .i64 0,.int .i64 0]->∀ K Kp,XB δ base 96 [.ptr p 0] st K Kp=_:=λst p C K Kp=>A.xb C rfl (λst=>hb.no 96 dc _ _) K Kp;unfold pC at *;repeat' first|apply jb<;>intro _|simp(disch:=try exact dzD) only[hC,E,Ya,Jb (f:=89) (vs:=[.ptr 1 0]),yw (f:=89) (vs:=[.ptr 1 0]),zH,uh,W9,r6,γ,ε]
   exact jdq rfl
  |ok x j=>
   rw[hr] at A;have A:PM _ _ _ _ _ _ _:=A;have hj:j<ts.length:=(yJ W hi hr).2.1;have hN:=λst p=>@Y0 base hb ts j 0 hj st p;have E:∀ st p,Cl st p [.lst ts.length (fl Tk.cells ts),.int .i64 0,.int .i64 0]->∀ K Kp,XB δ base 96 [.ptr p 0] st K Kp=_:=λst p C K Kp=>A.xb C rfl (λst=>hb.no 96 dc _ _) K Kp;dsimp only;by_cases k5:(tk ts j).kind=5
   .rw[if_pos k5];have k5':((tk ts j).kind:Int)=5:=om
    unfold pC at *
    (have zz:=@QY;repeat' first|apply jb<;>intro _|simp(disch:=try exact qS) only[hC,E,hN,k5',Ya,Jb (f:=89) (vs:=[.ptr 1 0]),yw (f:=89) (vs:=[.ptr 1 0]),zH,uh,W9,QT,uv,YU,<-qx,QY,r6,γ,ε])
    exact jsN rfl rfl
   .rw[if_neg k5];have k5':¬ ((tk ts j).kind:Int)=5:=om
    unfold pC at *;repeat' first|apply jb<;>intro _|simp(disch:=try exact dzD) only[hC,E,hN,k5',Qf hb,Ya,Jb (f:=89) (vs:=[.ptr 1 0]),yw (f:=89) (vs:=[.ptr 1 0]),zH,uh,W9,QT,uv,YU,r6,γ,ε]
    exact jdq rfl
 .have he':¬ ((qj l).2.1:Int)=0:=om
  unfold yp;rw[if_pos he];rw[f0] at hC;generalize (qj l).1=ts at *;repeat' first|apply jb<;>intro _|simp(disch:=try exact dzD) only[hC,he',Ya,Jb (f:=89) (vs:=[.ptr 1 0]),yw (f:=89) (vs:=[.ptr 1 0]),zH,uh,W9,QT,uv,YU,r6,γ,ε]
  exact jdq rfl
inductive SR (α:Type) where
 |ok (x:α) (j:Nat)
 |er (t:Tk)
def Nbs (ts:List Tk):Prop:=∀ i,(tk ts i).num<=1000000
def AnS {α:Type}(base:Bs)(f:FuncId)(c xs:List AV)(ts:List Tk)(d:Nat)(enc:α->AV):SR α->Prop
 |.ok x j=>PM δ base f c xs (.ok (enc x)) (pC ts j d)
 |.er t=>∃ i' d',PM δ base f c xs (.pn (er t)) (pC ts i' d')
def SK {α:Type}(ts:List Tk)(d:Nat)(enc:α->AV)(r:SR α)(v:AV)(s:St):Prop:=match r with | .ok y j=>G1 3 (pC ts j d) (enc y) v s | .er _=>False
def SP {α:Type}(ts:List Tk)(r:SR α)(v:AV)(s:St):Prop:=match r with | .ok _ _=>False | .er t=>∃ i' d',G1 3 (pC ts i' d') (er t) v s
theorem jbk {α:Type}(ts:List Tk)(d:Nat)(enc:α->AV)(y:α)(j:Nat)(v:AV)(s:St):SK ts d enc (.ok y j) v s=G1 3 (pC ts j d) (enc y) v s:=nr rfl
theorem zx {α:Type}(ts:List Tk)(t:Tk)(v:AV)(s:St):SP (α:=α) ts (.er t) v s = ∃ i' d',G1 3 (pC ts i' d') (er t) v s:=nr rfl
theorem ul {α:Type}{f:FuncId}{F:XF}(hl:jx δ f=some F)(hnd:F.body.nd=true)(hm:base.pur f=3){xs:List AV}{ts:List Tk}{i d:Nat}{enc:α->AV}{r:SR α}
  (h:xC δ base F.body (jj F.ps (.ptr 0 0 :: xs)) (nw st0 (pC ts i d)) (Xo δ F.res (SK ts d enc r)) λv _ s=>SP ts r v s.bare):AnS base f (pC ts i d) xs ts d enc r:=by
 rw[<-Hv] at h;obtain⟨q,he,hq⟩:=Yv (st:=Zt (pC ts i d)) (K:=SK ts d enc r) (Kp:=SP ts r) hl hnd h;cases r with
 |ok y j=>
  refine PM.of hm rfl ⟨q,he,?_⟩;cases q<;>first|exact hq|exact hq.elim
 |er t=>
  cases q with
  |no=>exact hq.elim
  |ok v s=>exact(hq:False).elim
  |pn v s=>
   obtain⟨i',d',hq⟩:=(hq:∃ i' d',G1 3 (pC ts i' d') (er t) v s);exact⟨i',d',PM.of hm rfl ⟨_,he,hq⟩⟩
def YZ (ts:List Tk)(i:Nat):SR Int:=
 if isM (tk ts i) [[45]]=true then(if(tk ts (i+1)).kind=2 then .ok (-((tk ts (i+1)).num:Int)) (i+2) else .er (tk ts (i+1)))
 else(if(tk ts i).kind=2 then .ok ((tk ts i).num:Int) (i+1) else .er (tk ts i))
theorem jcS (hb:NB base){ts:List Tk}(W:Wds ts)(N:Nbs ts){i d:Nat}(hi:i<ts.length):AnS base 165 (pC ts i d) [] ts d (λn=>.int .i64 n) (YZ ts i):=by
 have wl:=W.len;have T:=YS hb hi (d:=d) om [[45]] (cs:=[.str [45]]) (n:=1) rfl rfl dc;unfold YZ;by_cases c1:isM (tk ts i) [[45]]=true
 .rw[if_pos c1];have hi1:=W.isM hi c1;have hN:=λst p=>@Y0 base hb ts (i+1) d hi1 st p;have hn:=N (i+1);by_cases k2:(tk ts (i+1)).kind=2
  .rw[if_pos k2];have k2':((tk ts (i+1)).kind:Int)=2:=om
   show PM _ _ _ _ _ _ _;unfold pC at *;refine qa jga haa (hb.pur 165 3 dc) rfl ?_;simp only[jb3,jj,ζ,θ,κ,μ];rw[(by unfold WM;simp only[qq];rfl:WM=_)];repeat' first|apply jb<;>intro _|simp(disch:=try exact dzD) only[T,c1,hN,k2',r6,γ,ε]
   (refine G1.done cyD haa haa ?_;try exact vyD)
  .rw[if_neg k2];have k2':¬ ((tk ts (i+1)).kind:Int)=2:=om
   refine⟨i+1,d,?_⟩;unfold pC at *;refine qa jga haa (hb.pur 165 3 dc) rfl ?_;simp only[jb3,jj,ζ,θ,κ,μ];rw[(by unfold WM;simp only[qq];rfl:WM=_)];repeat' first|apply jb<;>intro _|simp(disch:=try exact dzD) only[T,c1,hN,k2',Qf hb,r6,γ,ε]
   (refine G1.done cyD haa haa ?_;try exact vyD)
 .rw[if_neg c1];have hN:=λst p=>@Y0 base hb ts i d hi st p;have hn:=N i;by_cases k2:(tk ts i).kind=2
  .rw[if_pos k2];have k2':((tk ts i).kind:Int)=2:=om
   show PM _ _ _ _ _ _ _;unfold pC at *;refine qa jga haa (hb.pur 165 3 dc) rfl ?_;simp only[jb3,jj,ζ,θ,κ,μ];rw[(by unfold WM;simp only[qq];rfl:WM=_)];repeat' first|apply jb<;>intro _|simp(disch:=try exact dzD) only[T,c1,hN,k2',r6,γ,ε]
   (refine G1.done cyD haa haa ?_;try exact vyD)
  .rw[if_neg k2];have k2':¬ ((tk ts i).kind:Int)=2:=om
   refine⟨i,d,?_⟩;unfold pC at *;refine qa jga haa (hb.pur 165 3 dc) rfl ?_;simp only[jb3,jj,ζ,θ,κ,μ];rw[(by unfold WM;simp only[qq];rfl:WM=_)];repeat' first|apply jb<;>intro _|simp(disch:=try exact dzD) only[T,c1,hN,k2',Qf hb,r6,γ,ε]
   (refine G1.done cyD haa haa ?_;try exact vyD)
structure EnumT where
 name:Lc
 vals:Lb
 line:Int
 col:Int
def enE (e:EnumT):List AV:=[.str e.name,.lst e.vals.length (e.vals.map .str),.int .i64 (e.line:Int),.int .i64 (e.col:Int)]
def YN (ts:List Tk):Nat->Nat->Lb->SR Lb
 |0,i,_=>.er (tk ts i)
 |n+1,i,vs=>if(tk ts i).kind=1 then
   (if 32<=vs.length then .er (tk ts i)
    else if isM (tk ts (i+1)) [[44]]=true then YN ts n (i+2) (vs ++ [(tk ts i).text])
    else if isM (tk ts (i+1)) [[125]]=true then .ok (vs ++ [(tk ts i).text]) (i+2)
    else .er (tk ts (i+1)))
  else .er (tk ts i)
def wU (ts:List Tk)(i:Nat):SR EnumT:=
 if(tk ts i).kind=1 then
  (if isM (tk ts (i+1)) [[123]]=true then(match YN ts ts.length (i+2) [] with
    |.ok vs j=>.ok ⟨(tk ts i).text,vs,(tk ts i).line,(tk ts i).col⟩ j
    |.er t=>.er t)
   else .er (tk ts (i+1)))
 else .er (tk ts i)
theorem vp (hb:NB base){n:Nat}(h:n<32)(t:Tk):Tot base 123 [.int .i64 (n:Int),.agg t.cells] (.tup []):=by
 have:=jis hb n t;rw[if_neg om] at this;exact this
theorem vq (hb:NB base){n:Nat}(h:32<=n)(t:Tk):Ret base 123 [.int .i64 (n:Int),.agg t.cells] (.pn (er t)):=by
 have:=jis hb n t;rw[if_pos h] at this;exact this
theorem juj:Go.Ev.isAgg δ 141=some false:=Qa0
theorem jui:Go.Ev.sizeOf δ 141=some 1:=Qa0
theorem Hh {b o:Nat}{v:AV}{h:T AO}(ho:o<jV h b)(hv:rat h b o=v)(hc:eqs v=true):(jZ δ 141 (.ptr b o) v h=true)=True:=eq_true (JA juj jui ho hv hc)
theorem Lv.eqs {lo hi n z:Nat}{s:St}{v:AV}{cs:List AV}(h:Lv lo hi s v n cs z):Go.Sy.eqs v=true:=by
 rcases h with ⟨rfl,_⟩|⟨b,rfl,_⟩<;>rfl
theorem Lv.cell {lo hi n z:Nat}{s:St}{v:AV}{cs:List AV}(h:Lv lo hi s v n cs z):v.cell=true:=by
 rcases h with ⟨rfl,_⟩|⟨b,rfl,_⟩<;>rfl
theorem Lv.cells {lo hi n z:Nat}{s:St}{v:AV}{cs:List AV}(h:Lv lo hi s v n cs z):v.cells=[v]:=by
 rcases h with ⟨rfl,_⟩|⟨b,rfl,_⟩<;>rfl
theorem Lv.plain {lo hi n z:Nat}{s:St}{v:AV}{cs:List AV}(h:Lv lo hi s v n cs z):v.plain=true:=by
 rcases h with ⟨rfl,_⟩|⟨b,rfl,_⟩<;>rfl
theorem Lv.len {lo hi n z:Nat}{s:St}{v:AV}{cs:List AV}(h:Lv lo hi s v n cs z)(st:St)(K:AV->St->Prop):jk (KB v st) K=K (.int .i64 (n:Int)) st:=by
 rcases h with ⟨rfl,rfl,_⟩|⟨b,rfl,_⟩
 .exact jcn
 .exact jgd ..
theorem jC (z:Nat)(v:AV)(s:St):(apv z v s).cells=[apv z v s]:=by unfold apv;split<;>rfl
theorem jI (z:Nat)(v:AV)(s:St):(apv z v s).plain=true:=by unfold apv;split<;>rfl
theorem jM (z:Nat)(v:AV)(s:St)(l:List AV):lall AV.cell (apv z v s :: l)=lall AV.cell l:=by unfold apv;split<;>rfl
theorem jsR (hb:NB base){ts:List Tk}(W:Wds ts){i d:Nat}(hi:i<ts.length):AnS base 124 (pC ts i d) [] ts d (λe=>.agg (enE e)) (wU ts i):=by
 have wl:=W.len;have N:=λst p=>@Wr base hb ts i d hi om st p;unfold wU;by_cases k1:(tk ts i).kind=1
 .rw[if_pos k1];have hi1:i+1<ts.length:=W.next i hi om
  have M:=λst p=>@QJ base hb ts (i+1) d hi1 om [123] st p;by_cases c1:isM (tk ts (i+1)) [[123]]=true
  .rw[if_pos c1];have hi2:=W.isM hi1 c1;suffices h:∀ r:SR EnumT,(match YN ts ts.length (i+2) [] with
    |.ok vs j=>SR.ok ⟨(tk ts i).text,vs,(tk ts i).line,(tk ts i).col⟩ j
    |.er t=>.er t:SR EnumT)=r->AnS base 124 (pC ts i d) [] ts d (λe=>.agg (enE e)) r from h _ rfl
   intro r hr;refine ul x78 haa (hb.pur 124 3 dc) ?_;simp only[y78,jj,ζ,θ,κ,μ];rw[(by unfold z78;simp only[qq];rfl:z78=_)];unfold pC at *;repeat' first|apply jb<;>intro _|simp(disch:=try exact dzD) only[N,k1,M,c1,r6,γ,ε]
   refine Wh λu hu=>?_;have n0:u.nx=4:=by rw[hu];rfl
   have C0:Cl u 0 (pC ts (i+2) d):=by
    rw[hu];unfold pC
    (try exact cyD)
   have C1:Cl u 1 [.str [],.nils,.int .i64 0,.int .i64 0]:=by
    rw[hu]
    (try exact cyD)
   have C3:Cl u 3 [.str (tk ts i).text,.nils,.int .i64 ((tk ts i).line:Int),.int .i64 ((tk ts i).col:Int)]:=by
    rw[hu]
    (try exact cyD)
   clear hu N M;generalize (tk ts i).text=nm at *;generalize (tk ts i).line=ln at *;generalize (tk ts i).col=co at *;refine ye (λmm L s=>∃ (m i':Nat) (vs:Lb) (v:AV),mm=m/\ts.length<=i'+m/\i'<ts.length/\(match YN ts m i' vs with | .ok vs j=>SR.ok ⟨nm,vs,ln,co⟩ j | .er t=>.er t:SR EnumT)=r/\4<=s.nx/\Cl s 0 (pC ts i' d)/\Cl s 1 [.str [],.nils,.int .i64 0,.int .i64 0]/\Cl s 3 [.str nm,v,.int .i64 (ln:Int),.int .i64 (co:Int)]/\Lv 4 s.nx s v vs.length (vs.map .str) 1/\Has L 0 (.ptr 0 0)/\Has L 2 (.ptr 1 0)/\Has L 4 (.ptr 3 0)) ?_ ts.length ?_
   .rintro m L s ⟨_,i',vs,v,rfl,hm,hi',hl,n0,C0,C1,C3,V,i0,i2,i4⟩;clear hr;cases m with
    |zero=>omega
    |succ m=>
    unfold YN at hl;obtain⟨q,hq⟩:∃ q,q=s.nx:=⟨_,rfl⟩;rw[<-hq] at V;have hq':q<=s.nx:=QaY hq;have hN:=λst p=>@Y0 base hb ts i' d hi' st p;have hM:=λst p=>@Wr base hb ts i' d hi' om st p;have L0:=C0.lt;have L1:=C1.lt;have L3:=C3.lt;have ve:=V.eqs;have g3:rat s.h 3 1=v:=C3.cell 1 (QbF (QaS 2));have vl:=V.len;by_cases k1:(tk ts i').kind=1
    .rw[if_pos k1] at hl;have k1':((tk ts i').kind:Int)=1:=om
     have hi1:i'+1<ts.length:=W.next i' hi' om
     by_cases h32:32<=vs.length
     .rw[if_pos h32] at hl;subst hl;have R:=vq hb h32 (tk ts i');unfold pC at *
      (have zz:=a4 @g3 C0.r C1.r C3.r;repeat' first|apply jb<;>intro _|simp(disch:=try exact qS) only[ja i0,ja i2,ja i4,hN,k1',vl,R,Hh,ve,zx,C0.q,C1.q,C3.q,g3,C0.r,C1.r,C3.r,r6,γ,ε])
      refine⟨i',d,?_⟩;unfold pC
      (refine G1.done (by have zz:=a4 C0.q C1.q C3.q (aI C0.r (aI C1.r C3.r));exact qh) haa haa ?_;try exact vyD)
     .rw[if_neg h32] at hl;have R:=vp hb (show vs.length<32 by omega) (tk ts i');have T:=YS hb hi1 (d:=d) om [[44]] (cs:=[.str [44]]) (n:=1) rfl rfl dc;have M:=λst p=>@QJ base hb ts (i'+1) d hi1 om [125] st p;have A:=λst bv xc xx K h hv=>@Jt 4 q vs.length 1 st v (vs.map .str) K 16 bv xc xx h dc om om hv;have V2:∀ st m',Lv 4 q st v vs.length (vs.map .str) 1->4<=st.nx->m'=st.nx+1->Lv 4 m' (aps v st [.str (tk ts i').text]) (apv 1 v st) (vs ++ [(tk ts i').text]).length ((vs ++ [(tk ts i').text]).map .str) 1:=λst m' h h2 h3=>by
       rw[υ,Qay];exact h.put rfl h2 h3
      unfold pC at *
      (have zz:=a8 @g3 V.ln V.rts @jD @jG @jJ @V (a4 @ve @jC @jI (a4 @jM C0.r C1.r C3.r));repeat' first|apply jb<;>intro _|simp(disch:=try exact qS) only[ja i0,ja i2,ja i4,hN,hM,k1,k1',vl,R,Hh,ve,A,V.at,jC,C0.q,C1.q,C3.q,g3,V.ln,V.rts,jD,jG,jJ,V,ve,jC,jI,jM,C0.r,C1.r,C3.r,r6,γ,ε])
      rw[T _ 0 (s.nx+1+1) 1 true (by(have zz:=a8 C0.q C1.q C3.q @g3 V.ln V.rts C0.r (aI C1.r C3.r);try exact qh)) (by(have zz:=a8 C0.q C1.q C3.q @g3 V.ln V.rts C0.r (aI C1.r C3.r);try exact qh)) om]
      (have zz:=a8 @g3 V.ln V.rts @jC @jI @jM C0.r (aI C1.r C3.r);repeat' first|apply jb<;>intro _|simp(disch:=try exact qS) only[ja i0,ja i2,ja i4,M,V.at,jC,jbk,zx,C0.q,C1.q,C3.q,g3,V.ln,V.rts,jC,jI,jM,C0.r,C1.r,C3.r,r6,γ,ε])
      .rename_i c;rw[if_pos c] at hl;have hi2:=W.isM hi1 c;refine⟨m,om,m,i'+1+1,vs ++ [(tk ts i').text],?v,rfl,om,hi2,hl,om,?c0,?c1,?c3,?lv,?has⟩;case lv=>
        refine Lv.up (hi:=s.nx+2) ?_ om;simp(disch:=first|omega|(simp only[jf,ji,jm,ju];omega)) only[jD,jG,jJ];refine V2 _ _ ?_ ?_ ?_;all_goals first|(simp only[jf,ji];done)|(simp only[jf,ji];omega)|(simp(disch:=first|omega|(simp only[jf,ji];omega)) only[jD,jG];exact V)
       case c0=>(have zz:=a8 C0.q C1.q C3.q @g3 V.ln V.rts @jC (a4 @jI @jM C0.r (aI C1.r C3.r));try exact qh)
       case c1=>(have zz:=a8 C0.q C1.q C3.q @g3 V.ln V.rts @jC (a4 @jI @jM C0.r (aI C1.r C3.r));try exact qh)
       case c3=>(have zz:=a8 C0.q C1.q C3.q @g3 V.ln V.rts @jC (a4 @jI @jM C0.r (aI C1.r C3.r));try exact qh)
       case has=>simp(disch:=decide) only[h12,i0,i2,i4]
      .rename_i c c2;rw[if_neg c,if_pos c2] at hl;have hl:SR.ok (⟨nm,vs ++ [(tk ts i').text],ln,co⟩:EnumT) (i'+2)=r:=hl;subst hl;show G1 3 (pC ts (i'+2) d) (.agg (enE ⟨nm,vs ++ [(tk ts i').text],ln,co⟩)) _ _;refine G1.done ?_ haa haa (FzD.agg (.cons (.pc rfl) (.cons (Lv.fz (lo:=4) (hi:=s.nx+2) (z:=1) ?_ dc (Wk _)) (.cons (.pc rfl) (.cons (.pc rfl) .nil)))))
       .unfold pC
        (have zz:=a8 C0.q C1.q C3.q @g3 V.ln V.rts @jC (a4 @jI @jM C0.r (aI C1.r C3.r));try exact qh)
       .simp(disch:=first|omega|(simp only[jf,ji,jm,ju];omega)) only[jH,jD,jG,jJ];refine V2 _ _ ?_ ?_ ?_;all_goals first|(simp only[jf,ji];done)|(simp only[jf,ji];omega)|(simp(disch:=first|omega|(simp only[jf,ji];omega)) only[jD,jG];exact V)
      .rename_i c c2;rw[if_neg c,if_neg c2] at hl;have hl:SR.er (tk ts (i'+1))=r:=hl;subst hl;refine⟨i'+1,d,?_⟩;unfold pC
       (refine G1.done (by have zz:=a8 C0.q C1.q C3.q @g3 V.ln V.rts @jC (a4 @jI @jM C0.r (aI C1.r C3.r));exact qh) haa haa ?_;try exact vyD)
    .rw[if_neg k1] at hl;have k1':¬ ((tk ts i').kind:Int)=1:=om
     subst hl;unfold pC at *
     (have zz:=a4 @g3 C0.r C1.r C3.r;repeat' first|apply jb<;>intro _|simp(disch:=try exact qS) only[ja i0,ja i2,ja i4,hN,hM,k1,k1',Hh,ve,zx,C0.q,C1.q,C3.q,g3,C0.r,C1.r,C3.r,r6,γ,ε])
     refine⟨i',d,?_⟩;unfold pC
     (refine G1.done (by have zz:=a4 C0.q C1.q C3.q (aI C0.r (aI C1.r C3.r));exact qh) haa haa ?_;try exact vyD)
   .refine⟨ts.length,i+2,[],.nils,rfl,om,hi2,hr,om,C0,C1,C3,Lv.nil,?_⟩;simp(disch:=decide) only[h12]
  .rw[if_neg c1];refine⟨i+1,d,?_⟩;unfold pC at *;refine qa x78 haa (hb.pur 124 3 dc) rfl ?_;simp only[y78,jj,ζ,θ,κ,μ];rw[(by unfold z78;simp only[qq];rfl:z78=_)];repeat' first|apply jb<;>intro _|simp(disch:=try exact dzD) only[N,k1,M,c1,r6,γ,ε]
   (refine G1.done cyD haa haa ?_;try exact vyD)
 .rw[if_neg k1];refine⟨i,d,?_⟩;unfold pC at *;refine qa x78 haa (hb.pur 124 3 dc) rfl ?_;simp only[y78,jj,ζ,θ,κ,μ];rw[(by unfold z78;simp only[qq];rfl:z78=_)];repeat' first|apply jb<;>intro _|simp(disch:=try exact dzD) only[N,k1,r6,γ,ε]
  (refine G1.done cyD haa haa ?_;try exact vyD)
structure DeclT where
 name:Lc
 ty:Lc
 lo:Int
 hi:Int
 begins:List Ex
 line:Int
 col:Int
def qt (d:DeclT):List AV:=[.str d.name,.str d.ty,.int .i64 d.lo,.int .i64 d.hi,.lst d.begins.length (fl eE d.begins),.int .i64 (d.line:Int),.int .i64 (d.col:Int)]
def WT (ts:List Tk)(i:Nat):SR (Lc×Int×Int):=
 if isM (tk ts i) [[98,111,111,108]]=true then .ok ([98,111,111,108],0,0) (i+1)
 else if(tk ts i).kind=1 then .ok ((tk ts i).text,0,0) (i+1)
 else match YZ ts i with
  |.er t=>.er t
  |.ok lo j=>if isM (tk ts j) [[46,46]]=true then(match YZ ts (j+1) with
   |.er t=>.er t
   |.ok hi k=>.ok ([],lo,hi) k) else .er (tk ts j)
def We (ts:List Tk)(i:Nat):SR (List Ex):=
 if isM (tk ts i) [[61]]=true then(match yY ts (i+1) with
  |.er t=>.er t
  |.ok x j=>if isM (tk ts j) [[59]]=true then .ok [x] (j+1) else .er (tk ts j))
 else if isM (tk ts i) [[59]]=true then .ok [] (i+1) else .er (tk ts i)
def wX (ts:List Tk)(i:Nat):SR DeclT:=
 if(tk ts i).kind=1 then
  (if isM (tk ts (i+1)) [[58]]=true then(match WT ts (i+2) with
    |.er t=>.er t
    |.ok y j=>(match We ts j with
     |.er t=>.er t
     |.ok bs k=>.ok ⟨(tk ts i).text,y.1,y.2.1,y.2.2,bs,(tk ts i).line,(tk ts i).col⟩ k))
   else .er (tk ts (i+1)))
 else .er (tk ts i)
def zD:List AV:=[.str [],.str [],.int .i64 0,.int .i64 0,.nils,.int .i64 0,.int .i64 0]
theorem juV {m d b cap:Nat}{s:St}{ks:List Ex}{ex:Bool}{cs:List AV}(C:Cl s b cs)(hc:cs=fl eE ks)(hm:m<=b):FzD m (d+3) s (.slice b 0 ks.length cap 6 ex) (.lst ks.length (fl eE ks)):=by
 subst hc;have hl:=zZ Jp ks;refine FzD.slice C.rw_ (QaY hl.symm) hm ?_;rw[<-hl,Qak];exact .pc (zq yd ks)
theorem jhd (hb:NB base){ts:List Tk}(W:Wds ts){j:Nat}(hj:j<ts.length){nm ty:Lc}{lo hi:Int}{ln co:Nat}{r:SR DeclT}
  (hr:(match We ts j with | .er t=>SR.er t | .ok bs k=>.ok ⟨nm,ty,lo,hi,bs,ln,co⟩ k)=r) {L:Sl} {s:St} (n0:4<=s.nx) (C0:Cl s 0 (pC ts j 0)) (C1:Cl s 1 zD)
  (C3:Cl s 3 [.str nm,.str ty,.int .i64 lo,.int .i64 hi,.nils,.int .i64 (ln:Int),.int .i64 (co:Int)]) (i0:Has L 0 (.ptr 0 0)) (i2:Has L 2 (.ptr 1 0)) (i4:Has L 4 (.ptr 3 0)) :
  xC δ base jfS L s (Xo δ y79.res (SK ts 0 (λd=>.agg (qt d)) r)) λv _ s=>SP ts r v s.bare:=by
 have wl:=W.len;have L0:=C0.lt;have L1:=C1.lt;have L3:=C3.lt;have T:=YS hb hj (d:=0) om [[61]] (cs:=[.str [61]]) (n:=1) rfl rfl dc;unfold We at hr;unfold zD pC at *;rw[(by unfold jfS;simp only[qq];rfl:jfS=_)];simp only[y79];by_cases c1:isM (tk ts j) [[61]]=true
 .rw[if_pos c1] at hr;have hj1:=W.isM hj c1;have A:=UT hb W hj1;cases hw:yY ts (j+1) with
  |er t=>
   rw[hw] at hr A;have hr:SR.er t=r:=hr;subst hr;obtain⟨i',d',A⟩:=A;have E:∀ st p,Cl st p (pC ts (j+1) 0)->∀ K Kp,XB δ base 96 [.ptr p 0] st K Kp=_:=λst p C K Kp=>A.xb C rfl (λst=>hb.no 96 dc _ _) K Kp;unfold pC at *
   (have zz:=aI C0.r (aI C1.r C3.r);repeat' first|apply jb<;>intro _|simp(disch:=try exact qS) only[ja i0,ja i2,ja i4,T,c1,E,zx,C0.q,C1.q,C3.q,C0.r,C1.r,C3.r,r6,γ,ε])
   refine⟨i',d',?_⟩;unfold pC
   (refine G1.done (by have zz:=a4 C0.q C1.q C3.q (aI C0.r (aI C1.r C3.r));exact qh) haa haa ?_;try exact vyD)
  |ok x q=>
   rw[hw] at hr A;have A:PM _ _ _ _ _ _ _:=A;have E:∀ st p,Cl st p (pC ts (j+1) 0)->∀ K Kp,XB δ base 96 [.ptr p 0] st K Kp=_:=λst p C K Kp=>A.xb C rfl (λst=>hb.no 96 dc _ _) K Kp;have hq:q<ts.length:=(yJ W hj1 hw).2.1;have M:=λst p=>@QJ base hb ts q 0 hq om [59] st p;unfold pC at *
   (have zz:=aI C0.r (aI C1.r C3.r);repeat' first|apply jb<;>intro _|simp(disch:=try exact qS) only[ja i0,ja i2,ja i4,T,c1,E,M,zx,jbk,C0.q,C1.q,C3.q,C0.r,C1.r,C3.r,r6,γ,ε])
   .rename_i c2;dsimp only at hr;rw[if_pos c2] at hr;have hr:SR.ok (⟨nm,ty,lo,hi,[x],ln,co⟩:DeclT) (q+1)=r:=hr;subst hr;show G1 3 (pC ts (q+1) 0) (.agg (qt ⟨nm,ty,lo,hi,[x],ln,co⟩)) _ _;refine G1.done ?_ haa haa (FzD.agg (.cons (.pc rfl) (.cons (.pc rfl) (.cons (.pc rfl) (.cons (.pc rfl) (.cons (juV (ks:=[x]) (cs:=eE x) ?_ (by rw[Qc]) om) (.pc rfl)))))))
    .unfold pC
     (have zz:=a4 C0.q C1.q C3.q (aI C0.r (aI C1.r C3.r));try exact qh)
    ·(have zz:=a4 C0.q C1.q C3.q (aI C0.r (aI C1.r C3.r));try exact qh)
   .rename_i c2;dsimp only at hr;rw[if_neg c2] at hr;have hr:SR.er (tk ts q)=r:=hr;subst hr;refine⟨q,0,?_⟩;unfold pC
    (refine G1.done (by have zz:=a4 C0.q C1.q C3.q (aI C0.r (aI C1.r C3.r));exact qh) haa haa ?_;try exact vyD)
 .rw[if_neg c1] at hr;have M:=λst p=>@QJ base hb ts j 0 hj om [59] st p;unfold pC at *
  (have zz:=aI C0.r (aI C1.r C3.r);repeat' first|apply jb<;>intro _|simp(disch:=try exact qS) only[ja i0,ja i2,ja i4,T,c1,M,zx,jbk,C0.q,C1.q,C3.q,C0.r,C1.r,C3.r,r6,γ,ε])
  .rename_i c2;rw[if_pos c2] at hr;have hr:SR.ok (⟨nm,ty,lo,hi,[],ln,co⟩:DeclT) (j+1)=r:=hr;subst hr;show G1 3 (pC ts (j+1) 0) (.agg (qt ⟨nm,ty,lo,hi,[],ln,co⟩)) _ _;refine G1.done ?_ haa haa (FzD.agg (.cons (.pc rfl) (.cons (.pc rfl) (.cons (.pc rfl) (.cons (.pc rfl) (.cons .nils (.pc rfl)))))));unfold pC
   (have zz:=a4 C0.q C1.q C3.q (aI C0.r (aI C1.r C3.r));try exact qh)
  .rename_i c2;rw[if_neg c2] at hr;have hr:SR.er (tk ts j)=r:=hr;subst hr;refine⟨j,0,?_⟩;unfold pC
   (refine G1.done (by have zz:=a4 C0.q C1.q C3.q (aI C0.r (aI C1.r C3.r));exact qh) haa haa ?_;try exact vyD)
theorem gO {ts:List Tk}(W:Wds ts){i j:Nat}{n:Int}(hi:i<ts.length)(h:YZ ts i=.ok n j):j<ts.length:=by
 unfold YZ at h;by_cases c:isM (tk ts i) [[45]]=true
 .rw[if_pos c] at h;have h1:=W.isM hi c;by_cases k:(tk ts (i+1)).kind=2
  .rw[if_pos k] at h;cases h;exact W.next _ h1 om
  .rw[if_neg k] at h;cases h
 .rw[if_neg c] at h;by_cases k:(tk ts i).kind=2
  .rw[if_pos k] at h;cases h;exact W.next _ hi om
  .rw[if_neg k] at h;cases h
theorem jva (hb:NB base){ts:List Tk}(W:Wds ts)(N:Nbs ts){i:Nat}(hi:i<ts.length){nm:Lc}{ln co:Nat}{r:SR DeclT}
  (hr:(match WT ts i with | .er t=>SR.er t | .ok y j=>(match We ts j with | .er t=>.er t | .ok bs k=>.ok ⟨nm,y.1,y.2.1,y.2.2,bs,ln,co⟩ k))=r) {L:Sl} {s:St} (n0:4<=s.nx) (C0:Cl s 0 (pC ts i 0)) (C1:Cl s 1 zD)
  (C3:Cl s 3 [.str nm,.str [],.int .i64 0,.int .i64 0,.nils,.int .i64 (ln:Int),.int .i64 (co:Int)]) (i0:Has L 0 (.ptr 0 0)) (i2:Has L 2 (.ptr 1 0)) (i4:Has L 4 (.ptr 3 0)) :
  xC δ base jfT L s (Xo δ y79.res (SK ts 0 (λd=>.agg (qt d)) r)) λv _ s=>SP ts r v s.bare:=by
 have wl:=W.len;have L0:=C0.lt;have L1:=C1.lt;have L3:=C3.lt;have T:=YS hb hi (d:=0) om [[98,111,111,108]] (cs:=[.str [98,111,111,108]]) (n:=1) rfl rfl dc;have hN:=λst p=>@Y0 base hb ts i 0 hi st p;have hM:=λst p=>@Wr base hb ts i 0 hi om st p;unfold WT at hr;unfold zD pC at *;rw[(by unfold jfT;simp only[qq];rfl:jfT=_)];by_cases c1:isM (tk ts i) [[98,111,111,108]]=true
 .rw[if_pos c1] at hr;have hi1:=W.isM hi c1
  (have zz:=aI C0.r (aI C1.r C3.r);repeat' first|apply jb<;>intro _|simp(disch:=try exact qS) only[ja i0,ja i2,ja i4,T,c1,C0.q,C1.q,C3.q,C0.r,C1.r,C3.r,r6,γ,ε])
  refine jhd hb W hi1 hr ?_ ?_ ?_ ?_ ?_ ?_ ?_
  .simp only[jf,ji,ju];omega
  .unfold pC
   (have zz:=a4 C0.q C1.q C3.q (aI C0.r (aI C1.r C3.r));try exact qh)
  .unfold zD
   (have zz:=a4 C0.q C1.q C3.q (aI C0.r (aI C1.r C3.r));try exact qh)
  ·(have zz:=a4 C0.q C1.q C3.q (aI C0.r (aI C1.r C3.r));try exact qh)
  .simp(disch:=decide) only[h12,i0]
  .simp(disch:=decide) only[h12,i2]
  .simp(disch:=decide) only[h12,i4]
 rw[if_neg c1] at hr;by_cases k1:(tk ts i).kind=1
 .rw[if_pos k1] at hr;have k1':((tk ts i).kind:Int)=1:=om
  have hi1:i+1<ts.length:=W.next i hi om
  (have zz:=aI C0.r (aI C1.r C3.r);repeat' first|apply jb<;>intro _|simp(disch:=try exact qS) only[ja i0,ja i2,ja i4,T,c1,k1,k1',hN,hM,C0.q,C1.q,C3.q,C0.r,C1.r,C3.r,r6,γ,ε])
  refine jhd hb W hi1 hr ?_ ?_ ?_ ?_ ?_ ?_ ?_
  .simp only[jf,ji,ju];omega
  .unfold pC
   (have zz:=a4 C0.q C1.q C3.q (aI C0.r (aI C1.r C3.r));try exact qh)
  .unfold zD
   (have zz:=a4 C0.q C1.q C3.q (aI C0.r (aI C1.r C3.r));try exact qh)
  ·(have zz:=a4 C0.q C1.q C3.q (aI C0.r (aI C1.r C3.r));try exact qh)
  .simp(disch:=decide) only[h12,i0]
  .simp(disch:=decide) only[h12,i2]
  .simp(disch:=decide) only[h12,i4]
 rw[if_neg k1] at hr;have k1':¬ ((tk ts i).kind:Int)=1:=om
 have A:=jcS hb W N hi (d:=0);cases hn:YZ ts i with
 |er t=>
  rw[hn] at hr A;have hr:SR.er t=r:=hr;subst hr;obtain⟨i',d',A⟩:=A;have E:∀ st p,Cl st p (pC ts i 0)->∀ K Kp,XB δ base 165 [.ptr p 0] st K Kp=_:=λst p C K Kp=>A.xb C rfl (λst=>hb.no 165 dc _ _) K Kp;unfold pC at *
  (have zz:=aI C0.r (aI C1.r C3.r);repeat' first|apply jb<;>intro _|simp(disch:=try exact qS) only[ja i0,ja i2,ja i4,T,c1,k1',hN,E,zx,C0.q,C1.q,C3.q,C0.r,C1.r,C3.r,r6,γ,ε])
  refine⟨i',d',?_⟩;unfold pC
  (refine G1.done (by have zz:=a4 C0.q C1.q C3.q (aI C0.r (aI C1.r C3.r));exact qh) haa haa ?_;try exact vyD)
 |ok lo j=>
  rw[hn] at hr A;dsimp only at hr;have A:PM _ _ _ _ _ _ _:=A;have hj:j<ts.length:=gO W hi hn;have E:∀ st p,Cl st p (pC ts i 0)->∀ K Kp,XB δ base 165 [.ptr p 0] st K Kp=_:=λst p C K Kp=>A.xb C rfl (λst=>hb.no 165 dc _ _) K Kp;have M:=λst p=>@QJ base hb ts j 0 hj om [46,46] st p;by_cases c2:isM (tk ts j) [[46,46]]=true
  .rw[if_pos c2] at hr;have hj1:=W.isM hj c2;have B:=jcS hb W N hj1 (d:=0);cases hn2:YZ ts (j+1) with
   |er t=>
    rw[hn2] at hr B;have hr:SR.er t=r:=hr;subst hr;obtain⟨i',d',B⟩:=B;have F:∀ st p,Cl st p (pC ts (j+1) 0)->∀ K Kp,XB δ base 165 [.ptr p 0] st K Kp=_:=λst p C K Kp=>B.xb C rfl (λst=>hb.no 165 dc _ _) K Kp;unfold pC at *
    (have zz:=aI C0.r (aI C1.r C3.r);repeat' first|apply jb<;>intro _|simp(disch:=try exact qS) only[ja i0,ja i2,ja i4,T,c1,k1',hN,E,F,M,c2,zx,C0.q,C1.q,C3.q,C0.r,C1.r,C3.r,r6,γ,ε])
    refine⟨i',d',?_⟩;unfold pC
    (refine G1.done (by have zz:=a4 C0.q C1.q C3.q (aI C0.r (aI C1.r C3.r));exact qh) haa haa ?_;try exact vyD)
   |ok h2 k=>
    rw[hn2] at hr B;have hk:k<ts.length:=gO W hj1 hn2;have B:PM _ _ _ _ _ _ _:=B;have F:∀ st p,Cl st p (pC ts (j+1) 0)->∀ K Kp,XB δ base 165 [.ptr p 0] st K Kp=_:=λst p C K Kp=>B.xb C rfl (λst=>hb.no 165 dc _ _) K Kp;unfold pC at *
    (have zz:=aI C0.r (aI C1.r C3.r);repeat' first|apply jb<;>intro _|simp(disch:=try exact qS) only[ja i0,ja i2,ja i4,T,c1,k1',hN,E,F,M,c2,C0.q,C1.q,C3.q,C0.r,C1.r,C3.r,r6,γ,ε])
    refine jhd hb W hk hr ?_ ?_ ?_ ?_ ?_ ?_ ?_
    .simp only[jf,ji,ju];omega
    .unfold pC
     (have zz:=a4 C0.q C1.q C3.q (aI C0.r (aI C1.r C3.r));try exact qh)
    .unfold zD
     (have zz:=a4 C0.q C1.q C3.q (aI C0.r (aI C1.r C3.r));try exact qh)
    ·(have zz:=a4 C0.q C1.q C3.q (aI C0.r (aI C1.r C3.r));try exact qh)
    .simp(disch:=decide) only[h12,i0]
    .simp(disch:=decide) only[h12,i2]
    .simp(disch:=decide) only[h12,i4]
  .rw[if_neg c2] at hr;have hr:SR.er (tk ts j)=r:=hr;subst hr;unfold pC at *
   (have zz:=aI C0.r (aI C1.r C3.r);repeat' first|apply jb<;>intro _|simp(disch:=try exact qS) only[ja i0,ja i2,ja i4,T,c1,k1',hN,E,M,c2,zx,C0.q,C1.q,C3.q,C0.r,C1.r,C3.r,r6,γ,ε])
   refine⟨j,0,?_⟩;unfold pC
   (refine G1.done (by have zz:=a4 C0.q C1.q C3.q (aI C0.r (aI C1.r C3.r));exact qh) haa haa ?_;try exact vyD)
theorem jsZ (hb:NB base){ts:List Tk}(W:Wds ts)(N:Nbs ts){i:Nat}(hi:i<ts.length):AnS base 125 (pC ts i 0) [] ts 0 (λd=>.agg (qt d)) (wX ts i):=by
 have wl:=W.len;have hM:=λst p=>@Wr base hb ts i 0 hi om st p;unfold wX;by_cases k1:(tk ts i).kind=1
 .rw[if_pos k1];have hi1:i+1<ts.length:=W.next i hi om
  have M:=λst p=>@QJ base hb ts (i+1) 0 hi1 om [58] st p;by_cases c1:isM (tk ts (i+1)) [[58]]=true
  .rw[if_pos c1];have hi2:=W.isM hi1 c1;suffices h:∀ r:SR DeclT,(match WT ts (i+2) with | .er t=>SR.er t | .ok y j=>(match We ts j with | .er t=>.er t | .ok bs k=>.ok ⟨(tk ts i).text,y.1,y.2.1,y.2.2,bs,(tk ts i).line,(tk ts i).col⟩ k))=r->AnS base 125 (pC ts i 0) [] ts 0 (λd=>.agg (qt d)) r from h _ rfl
   intro r hr;refine ul x79 haa (hb.pur 125 3 dc) ?_;simp only[y79,jj,ζ,θ,κ,μ];rw[(by unfold z79;simp only[qq];rfl:z79=_)];unfold pC at *;repeat' first|apply jb<;>intro _|simp(disch:=try exact dzD) only[hM,k1,M,c1,r6,γ,ε]
   refine jva hb W N hi2 hr ?_ ?_ ?_ ?_ ?_ ?_ ?_
   .simp only[jf,ji,ju,q6];omega
   .unfold pC
    (try exact cyD)
   .unfold zD
    (try exact cyD)
   ·(try exact cyD)
   .simp(disch:=decide) only[h12]
   .simp(disch:=decide) only[h12]
   .simp(disch:=decide) only[h12]
  .rw[if_neg c1];refine⟨i+1,0,?_⟩;unfold pC at *;refine qa x79 haa (hb.pur 125 3 dc) rfl ?_;simp only[y79,jj,ζ,θ,κ,μ];rw[(by unfold z79;simp only[qq];rfl:z79=_)];repeat' first|apply jb<;>intro _|simp(disch:=try exact dzD) only[hM,k1,M,c1,r6,γ,ε]
   (refine G1.done cyD haa haa ?_;try exact vyD)
 .rw[if_neg k1];refine⟨i,0,?_⟩;unfold pC at *;refine qa x79 haa (hb.pur 125 3 dc) rfl ?_;simp only[y79,jj,ζ,θ,κ,μ];rw[(by unfold z79;simp only[qq];rfl:z79=_)];repeat' first|apply jb<;>intro _|simp(disch:=try exact dzD) only[hM,k1,r6,γ,ε]
  (refine G1.done cyD haa haa ?_;try exact vyD)
end Go.Sy
end
