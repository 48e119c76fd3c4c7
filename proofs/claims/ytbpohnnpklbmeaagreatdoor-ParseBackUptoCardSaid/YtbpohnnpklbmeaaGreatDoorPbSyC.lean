/-
  Contracts: the code lowered, what it does told by rules, and the contracts of the functions that the law reaches.
-/
import Derived.Test.YtbpohnnpklbmeaaGreatDoorPbSyB
import Derived.Test.YtbpohnnpklbmeaaGreatDoorProg
import Derived.KernelRfl
set_option linter.unusedVariables false
set_option linter.unusedSimpArgs false
open Int renaming reduceToNat → Qaa, natCast_zero → Qaj, zero_add → Qan, ofNat → Qbh, eq_ofNat_of_zero_le → Qbq, natCast_nonneg → Qcd
open Nat renaming reduceAdd → Qab, reduceSub → Qac, reduceMul → Qad, reduceBEq → Qae, ble → Qao, le_refl → Qaq, beq → Qar, mul → Qat, le_trans → Qav, succ → QaA, add → QaD, le_max_right → QaE, le_max_left → QaI, mul_le_mul_right → QaJ, zero_add → QaL, lt_of_lt_of_le → QaM, zero_le → QaT, lt_or_ge → QaX, sub → Qbc, sub_zero → Qbn, succ_pos → Qbo, add_mul → Qbp, succ_mul → Qbr, not_lt_zero → Qbw, zero_mul → Qby, add_assoc → QbB, mod_eq_of_lt → QbD, succ_lt_succ → QbG, min_eq_left → QbL, add_zero → QbV, le_of_eq → QbY, lt_irrefl → Qcb, ne_of_lt → Qcg, lt_trichotomy → Qcn
open Go.Proofs.Tryz renaming prog → Qaf
open List renaming getD_cons_zero → Qag, getD_cons_succ → Qah, map_cons → Qai, length_append → Qak, length_cons → Qal, map_nil → Qam, length_nil → Qap, getElem_mem → Qau, all_eq_true → Qaw, getElem?_eq_getElem → Qay, cons_append → QaB, append_assoc → QaC, getD_eq_getElem?_getD → QaF, nil_append → QaG, range' → QaH, take_length → QaK, length_map → QaN, getD → QaO, length_take → QaP, length_drop → QaQ, range → QaS, eq_nil_of_length_eq_zero → QaU, cons → QaY, append_nil → Qba, mem_cons → Qbe, all_cons → Qbf, mem_map → Qbi, all_append → Qbk, take_zero → Qbm, map_congr_left → Qbs, range'_succ → Qbu, map_map → QbA, drop_drop → QbC, drop_zero → QbF, getElem_cons_zero → QbH, getElem_cons_succ → QbI, getElem?_take → QbJ, map_append → QbM, singleton_append → QbN, getElem?_append_right → QbO, getElem?_map → QbP, flatMap_cons → QbQ, mem_of_mem_take → QbR, mem_iff_getElem → QbS, getElem?_append_left → QbT, mem_cons_of_mem → QbU, ext_getElem → QbW, map_toArray → QbX, take_succ_cons → QbZ, getElem?_drop → Qcc, take_take → Qce, countP_singleton → Qcf, take_append_drop → Qch, foldr_cons → Qcl, any_eq_false → Qco
open Bool renaming and_eq_true → Qas, not_eq_true' → QaV, eq_iff_iff → QaW, false_eq_true → Qbb, or_eq_true → Qbg, or_eq_false_iff → Qbj, true_eq_false → QbK
open Array renaming length_toList → Qax, getElem?_eq_some_iff → Qaz, replicate → QaZ, getD_eq_getD_getElem? → Qbv, getElem?_toList → Qbz, toList_map → QbE, getElem?_setIfInBounds_ne → Qca, mem_toList_iff → Qci, toList_append → Qcj, getElem?_eq_getElem → Qck
open Option renaming map_some → QaR, getD_some → Qbd, bind_some → Qbl, map_none → Qbt, map_eq_some_iff → Qbx
open Function renaming comp_def → Qcm
noncomputable section
namespace Go.Sy
open Go.Ev Go.RowKit
section
variable {P:Program} {base:Bs} {st:St} {K:AV->St->Prop} {e:En}
theorem jiW {b o k:Nat}(hpos:0<k)(h:o+k≤qq st.h b):jf (zM k (.ptr b o) st) K=K (.agg ((QaS k).map λi=>rat st.h b (o+i))) st:=by
 obtain ⟨n,zl,z,cs,hg⟩:=Q2 (h:=st.h) (b:=b) (by omega);rw [Jz hg] at h;have e1:Qao (QaD o k) n=true:=y7 h;simp only [zM,qK,hg,yI,e1,cond_true,jf,XV hg,qr]
theorem jkD {l:List Nat}{n:Nat}(h:n≤l.length)(k:IntKind):jf (zI (.str l) (some (.int k (n:Int))) none st) K=K (.str (l.drop n)) st:=by
 have e:qi (.int k (n:Int))=λF=>F n:=by funext F; show (force n F)=F n; rw [jp]
 have e1:Qao n l.length=true:=y7 h;have e2:Qao l.length l.length=true:=y7 (Qaq _);simp only [zI,zh,optA,e,jL,jp,e1,e2,cond_true,jf,yf,yK];rw [show Qbc l.length n=(l.drop n).length by rw [QaQ]; rfl,QaK]
theorem jkC {l:List Nat}{n:Nat}(h:n≤l.length)(k:IntKind):jf (zI (.str l) none (some (.int k (n:Int))) st) K=K (.str (l.take n)) st:=by
 have e:qi (.int k (n:Int))=λF=>F n:=by funext F; show (force n F)=F n; rw [jp]
 have e1:Qao n l.length=true:=y7 h;have e2:Qao 0 n=true:=y7 (QaT _);simp only [zI,zh,optA,e,jL,jp,e1,e2,cond_true,jf,yf,yK];rfl
theorem jkB {l:List Nat}{a n:Nat}(h:a≤n)(h2:n≤l.length)(k k':IntKind):jf (zI (.str l) (some (.int k (a:Int))) (some (.int k' (n:Int))) st) K=K (.str ((l.drop a).take (n - a))) st:=by
 have e:∀ (k:IntKind) (n:Nat),qi (.int k (n:Int))=λF=>F n:=λk n=>by funext F; show (force n F)=F n; rw [jp]
 have e1:Qao n l.length=true:=y7 h2;have e2:Qao a n=true:=y7 h;simp only [zI,zh,optA,e,jL,jp,e1,e2,cond_true,jf,yf,yK];rfl
end
def nw (s:St)(cs:List AV):St:=⟨s.nx+1,(j1 (jy s.nx)).run (.row cs.length cs.length cs .e) s.h,s.dirty,s.fr⟩
def ja1 (x:Option AO)(o:Nat)(vs:List AV):AO:=match x with | some (.row n zl z cs)=>.row n zl z (qa vs cs o) | _=>.row 0 1 [] (qa vs .e o)
def wr (s:St)(b o:Nat)(vs:List AV):St:=⟨s.nx,(j1 (jy b)).run (ja1 (jn s.h b) o vs) s.h,min s.dirty b,s.fr⟩
def apO (x:Option AO)(vs:List AV):AO:=match x with | some (.row n zl z cs)=>.row (n+vs.length) zl z (qa vs cs n) | _=>.row vs.length 1 [] (qa vs .e 0)
def ap (s:St)(b:Nat)(vs:List AV):St:=⟨s.nx+1,(j1 (jy s.nx)).run (apO (jn s.h b) vs) ((j1 (jy b)).run .dead s.h),min s.dirty b,s.fr⟩
theorem jg (s:St)(cs:List AV):(nw s cs).nx=s.nx+1:=nr rfl
theorem jh (s:St)(b o:Nat)(vs:List AV):(wr s b o vs).nx=s.nx:=nr rfl
theorem jm (s:St):s.bare.nx=s.nx:=nr rfl
theorem wQ (s:St):s.bare.h=s.h:=nr rfl
theorem K1 (s:St)(cs:List AV):(nw s cs).fr=s.fr:=nr rfl
theorem K0 (s:St)(b o:Nat)(vs:List AV):(wr s b o vs).fr=s.fr:=nr rfl
theorem jam (s:St):s.bare.fr=[]:=nr rfl
theorem Q6 {s:St}{cs:List AV}{b:Nat}(h:b≠s.nx):jn (nw s cs).h b=jn s.h b:=by unfold nw; rw [jZ,if_neg h]
theorem Q4 {s:St}{b o:Nat}{vs:List AV}{c:Nat}(h:c≠b):jn (wr s b o vs).h c=jn s.h c:=by unfold wr; rw [jZ,if_neg h]
theorem jak {s:St}{b:Nat}{vs:List AV}{c:Nat}(h:c≠s.nx)(h2:c≠b):jn (ap s b vs).h c=jn s.h c:=by unfold ap; rw [jZ,if_neg h,jZ,if_neg h2]
theorem jdk (s:St)(cs:List AV):qq (nw s cs).h s.nx=cs.length:=by unfold nw; rw [jeT,if_pos rfl]
theorem Y4 {s:St}{cs:List AV}{b:Nat}(h:b≠s.nx):qq (nw s cs).h b=qq s.h b:=ym (Q6 h)
theorem jbN {s:St}{cs:List AV}{i:Nat}(h:i<cs.length):rat (nw s cs).h s.nx i=cs.getD i .bad:=by unfold nw; rw [jhh,if_pos rfl,yG,QM,QbD h]; rfl
theorem Um {s:St}{cs:List AV}{b i:Nat}(h:b≠s.nx):rat (nw s cs).h b i=rat s.h b i:=yd (Q6 h) i
theorem Y5 {s:St}{cs:List AV}{b:Nat}(h:b=s.nx):qq (nw s cs).h b=cs.length:=by rw [h,jdk]
theorem Un {s:St}{cs:List AV}{b i:Nat}(h:b=s.nx)(hi:i<cs.length):rat (nw s cs).h b i=cs.getD i .bad:=by rw [h,jbN hi]
theorem Zr (s:St)(b o:Nat)(vs:List AV)(c:Nat):qq (wr s b o vs).h c=qq s.h c:=by
 by_cases h:c=b
 ·subst h;unfold wr ja1 qq;rw [jZ,if_pos rfl];cases jn s.h c with
  | none=>rfl
  | some x=>cases x <;> rfl
 ·exact ym (Q4 h)
theorem uS (s:St)(b o:Nat)(vs:List AV)(i:Nat):rat (wr s b o vs).h b i=if o≤i∧i<o+vs.length then vs.getD (i - o) .bad else rat s.h b i:=by
 unfold wr rat;rw [jZ,if_pos rfl];unfold ja1;cases jn s.h b with
 | none=>simp only [yx]; congr 1; rw [yG,QM]; rfl
 | some x=>cases x <;> simp only [yx] <;> (congr 1; rw [yG,QM]; rfl)
theorem WA {s:St}{b o:Nat}{vs:List AV}{i:Nat}(h1:o≤i)(h2:i<o+vs.length):rat (wr s b o vs).h b i=vs.getD (i - o) .bad:=by rw [uS,if_pos ⟨h1,h2⟩]
theorem Uk {s:St}{b o:Nat}{vs:List AV}{i:Nat}(h:i<o):rat (wr s b o vs).h b i=rat s.h b i:=by rw [uS,if_neg (by omega)]
theorem Ul {s:St}{b o:Nat}{vs:List AV}{i:Nat}(h:o+vs.length≤i):rat (wr s b o vs).h b i=rat s.h b i:=by rw [uS,if_neg (by omega)]
theorem Uj {s:St}{b o c:Nat}{vs:List AV}{i:Nat}(h:c≠b):rat (wr s b o vs).h c i=rat s.h c i:=yd (Q4 h) i
theorem jfh {s:St}{b o:Nat}{vs:List AV}{c:Nat}(h:Z6 s.h c):Z6 (wr s b o vs).h c:=by
 by_cases hc:c=b
 ·subst hc;unfold Z6 wr;rw [jZ,if_pos rfl];obtain ⟨n,zl,z,cs,e⟩:=h;rw [e];exact ⟨_,_,_,_,rfl⟩
 ·exact zx (Q4 hc) h
structure Cl (s:St)(b:Nat)(cs:List AV):Prop where
 lt:b<s.nx
 row:Z6 s.h b
 len:qq s.h b=cs.length
 cell:∀ i,i<cs.length->rat s.h b i=cs.getD i .bad
theorem Cl.keep {s s':St}{b:Nat}{cs:List AV}(h:Cl s b cs)(hn:s.nx≤s'.nx)(k:jn s'.h b=jn s.h b):Cl s' b cs:=
 ⟨QaM h.lt hn,zx k h.row,(ym k).trans h.len,λi hi=>(yd k i).trans (h.cell i hi)⟩
theorem Cl.new (s:St)(cs:List AV):Cl (nw s cs) s.nx cs:=
 ⟨Nat.lt_succ_self _,⟨_,_,_,_,by unfold nw; rw [jZ,if_pos rfl]⟩,jdk s cs,λi hi=>jbN hi⟩
theorem Cl.nw {s:St}{b:Nat}{cs:List AV}(h:Cl s b cs)(ds:List AV):Cl (nw s ds) b cs:=h.keep (Nat.le_succ _) (Q6 (Qcg h.lt))
theorem Cl.wrO {s:St}{b:Nat}{cs:List AV}(h:Cl s b cs){c:Nat}(hc:b≠c)(o:Nat)(vs:List AV):Cl (wr s c o vs) b cs:=h.keep (Qaq _) (Q4 hc)
def upd:List AV->Nat->List AV->List AV
 | [],_,_=>[]
 | c :: cs,0,[]=>c :: cs
 | c :: cs,0,v :: vs=>v :: upd cs 0 vs
 | c :: cs,o+1,vs=>c :: upd cs o vs
theorem wy:∀ (cs:List AV) (o:Nat) (vs:List AV),(upd cs o vs).length=cs.length
 | [],_,_=>rfl
 | c :: cs,0,[]=>rfl
 | c :: cs,0,v :: vs=>by show (upd cs 0 vs).length+1=_; rw [wy cs 0 vs]; rfl
 | c :: cs,o+1,vs=>by show (upd cs o vs).length+1=_; rw [wy cs o vs]; rfl
theorem u1:∀ (cs:List AV) (o:Nat) (vs:List AV) (i:Nat),i<cs.length->(upd cs o vs).getD i .bad=if o≤i∧i<o+vs.length then vs.getD (i - o) .bad else cs.getD i .bad
 | [],_,_,_,h=>by simp at h
 | c :: cs,0,[],i,h=>by rw [if_neg (by simp)]; rfl
 | c :: cs,0,v :: vs,0,h=>by rw [if_pos (by simp)]; rfl
 | c :: cs,0,v :: vs,i+1,h=>by
  show (upd cs 0 vs).getD i .bad=_;rw [u1 cs 0 vs i (by simpa using h)];by_cases hi:i<vs.length
  ·rw [if_pos (by omega),if_pos (by simp; omega)]; rfl
  ·rw [if_neg (by omega),if_neg (by simp; omega)]; rfl
 | c :: cs,o+1,vs,0,h=>by rw [if_neg (by omega)]; rfl
 | c :: cs,o+1,vs,i+1,h=>by
  show (upd cs o vs).getD i .bad=_;rw [u1 cs o vs i (by simpa using h)];by_cases hi:o≤i∧i<o+vs.length
  ·rw [if_pos hi,if_pos (by omega),Nat.add_sub_add_right]
  ·rw [if_neg hi,if_neg (by omega)]; rfl
theorem Cl.wr {s:St}{b:Nat}{cs:List AV}(h:Cl s b cs)(o:Nat)(vs:List AV):Cl (wr s b o vs) b (upd cs o vs):=
 ⟨h.lt,jfh h.row,by rw [Zr,h.len,wy],λi hi=>by
  rw [wy] at hi;rw [uS,u1 _ _ _ _ hi,h.cell i hi]⟩
theorem Cl.ap {s:St}{b:Nat}{cs:List AV}(h:Cl s b cs)(vs:List AV):Cl (ap s b vs) s.nx (cs ++ vs):=by
 obtain ⟨n,zl,z,ks,e⟩:=h.row;have hl:=h.len;rw [Jz e] at hl;have eo:jn (Go.Sy.ap s b vs).h s.nx=some (.row (n+vs.length) zl z (qa vs ks n)):=by unfold Go.Sy.ap; rw [jZ,if_pos rfl,e]; rfl
 refine ⟨Nat.lt_succ_self _,⟨_,_,_,_,eo⟩,by rw [Jz eo,Qak,hl],λi hi=>?_⟩;rw [XV eo,yx];rw [Qak] at hi;by_cases hc:n≤i∧i<n+vs.length
 ·rw [if_pos hc,QaF,QaF,QbO (by omega),hl]
 ·have hi':i<cs.length:=by omega
  rw [if_neg hc,←XV e,h.cell i hi',QaF,QaF,QbT hi']
theorem Xa (cs:List AV):(AV.agg cs).cells=cs:=nr rfl
theorem Z2 (k:IntKind)(n:Int):(AV.int k n).cells=[.int k n]:=nr rfl
theorem ZY (l:List Nat):(AV.str l).cells=[.str l]:=nr rfl
theorem YR (b:Bool):(AV.bool b).cells=[.bool b]:=nr rfl
theorem Yh (b o n c z:Nat)(x:Bool):(AV.slice b o n c z x).cells=[.slice b o n c z x]:=nr rfl
theorem YQ:AV.nils.cells=[.nils]:=nr rfl
theorem Z0 (b o:Nat):(AV.ptr b o).cells=[.ptr b o]:=nr rfl
theorem Gm:lall AV.cell []=true:=nr rfl
theorem Gp (k:IntKind)(n:Int)(l:List AV):lall AV.cell (.int k n :: l)=lall AV.cell l:=nr rfl
theorem Gj (x:List Nat)(l:List AV):lall AV.cell (.str x :: l)=lall AV.cell l:=nr rfl
theorem kO (x:Bool)(l:List AV):lall AV.cell (.bool x :: l)=lall AV.cell l:=nr rfl
theorem VQ (b o n c z:Nat)(x:Bool)(l:List AV):lall AV.cell (.slice b o n c z x :: l)=lall AV.cell l:=nr rfl
theorem kN (l:List AV):lall AV.cell (.nils :: l)=lall AV.cell l:=nr rfl
theorem Gk (b o:Nat)(l:List AV):lall AV.cell (.ptr b o :: l)=lall AV.cell l:=nr rfl
theorem jfd (a b:List AV)(h:lall AV.cell a=true):lall AV.cell (a ++ b)=lall AV.cell b:=by
 induction a with
 | nil=>rfl
 | cons c a ih=>
  have h':cond c.cell (lall AV.cell a) false=true:=h;cases hc:c.cell with
  | false=>rw [hc] at h'; cases h'
  | true=>
   rw [hc] at h';show cond c.cell (lall AV.cell (a ++ b)) false=_;rw [hc];exact ih h'
section
variable {P:Program} {base:Bs} {st:St} {K:AV->St->Prop} {e:En}
theorem jbT (cs:List AV):jf (Ev.newRow st cs) K=K (.ptr st.nx 0) (nw st cs):=by
 simp only [Ev.newRow,jp,jL,St.alloc_eq,jf]; rfl
theorem jgS {v:AV}(h:lall AV.cell v.cells=true):jf (jfA v st) K=K (.ptr st.nx 0) (nw st v.cells):=by
 simp only [jfA,h,cond_true]; exact jbT _
theorem jkq {k b o:Nat}{v:AV}(hk:0<k)(hc:v.cells.length=k)(hl:lall AV.cell v.cells=true)(ho:o+k≤qq st.h b):jf (stV k (.ptr b o) v st) K=K j8 (wr st b o v.cells):=by
 obtain ⟨n,zl,z,cs,hg⟩:=Q2 (h:=st.h) (b:=b) (by omega);rw [Jz hg] at ho;have e1:Qar (jH v.cells) k=true:=Uh (by rw [jL]; exact hc);have e2:Qao (QaD o k) n=true:=y7 ho;simp only [stV,qK,hg,yI,e1,e2,hl,cond_true,St.put_eq,jf];unfold wr ja1;rw [hg]
def rats (h:T AO)(b o:Nat):Nat->List AV
 | 0=>[]
 | k+1=>rat h b o :: rats h b (o+1) k
theorem Y2 (h:T AO)(b:Nat):∀ (k o:Nat),rats h b o k=(QaS k).map λi=>rat h b (o+i)
 | 0,o=>rfl
 | k+1,o=>by
  rw [List.range_succ_eq_map,Qai,QbA];show rat h b o :: rats h b (o+1) k=_;rw [Y2 h b k (o+1)]
  congr 1
  refine Qbs λi _=>?_;show rat h b (o+1+i)=rat h b (o+(i+1));rw [QbB,Nat.add_comm 1 i]
theorem jbU {k b o:Nat}(hk:0<k)(h:o+k≤qq st.h b):jf (zM k (.ptr b o) st) K=K (.agg (rats st.h b o k)) st:=by rw [Y2]; exact jiW hk h
theorem KL (h:T AO)(b o k:Nat):rats h b o (k+1)=rat h b o :: rats h b (o+1) k:=nr rfl
theorem Cl.ratsP {s:St}{b:Nat}{cs:List AV}(h:Cl s b cs):∀ k o,o+k≤cs.length->rats s.h b o k=(cs.drop o).take k
 | 0,o,_=>rfl
 | k+1,o,hk=>by
  show rat s.h b o :: Go.Sy.rats s.h b (o+1) k=_;rw [h.ratsP k (o+1) (by omega),h.cell o (by omega),List.drop_eq_getElem_cons (show o<cs.length by omega),QbZ,QaF,Qay (by omega)];rfl
theorem Yj {h h':T AO}{b:Nat}(e:jn h' b=jn h b):∀ k o,rats h' b o k=rats h b o k
 | 0,_=>rfl
 | k+1,o=>by rw [KL,KL,yd e,Yj e k]
theorem XU (h:T AO)(b:Nat):∀ k o,(rats h b o k).length=k
 | 0,_=>rfl
 | k+1,o=>by rw [KL,Qal,XU h b k]
theorem Zl {h:T AO}{b:Nat}:∀ {k o:Nat} {cs:List AV},cs.length=k->(∀ i,i<k->rat h b (o+i)=cs.getD i .bad)->rats h b o k=cs
 | 0,o,[],_,_=>rfl
 | k+1,o,c :: cs,hl,h=>by
  rw [KL,Zl (cs:=cs) (by simpa using hl) (λi hi=>by
   have:=h (i+1) (by omega);rw [show o+1+i=o+(i+1) by omega,this]; rfl)]
  have:=h 0 (by omega);rw [QbV] at this;rw [this]; rfl
theorem jhg {s:St}{cs:List AV}{k:Nat}(h:cs.length=k):rats (nw s cs).h s.nx 0 k=cs:=Zl h λi hi=>by rw [QaL]; exact jbN (by omega)
theorem XT {s:St}{cs:List AV}{b k:Nat}(hb:b=s.nx)(h:cs.length=k):rats (nw s cs).h b 0 k=cs:=by rw [hb,jhg h]
theorem XR {s:St}{cs:List AV}{b o k:Nat}(h:b≠s.nx):rats (nw s cs).h b o k=rats s.h b o k:=Yj (Q6 h) _ _
theorem Y0 {s:St}{b o k:Nat}{vs:List AV}(h:vs.length=k):rats (wr s b o vs).h b o k=vs:=Zl h λi hi=>by
 rw [WA (by omega) (by omega),Nat.add_sub_cancel_left]
theorem XP {s:St}{b c o o' k:Nat}{vs:List AV}(h:b≠c):rats (wr s c o' vs).h b o k=rats s.h b o k:=Yj (Q4 h) _ _
theorem XQ {s:St}{b o k:Nat}{vs:List AV}:rats (wr s b o vs).h b 0 k=upd (rats s.h b 0 k) o vs:=by
 refine Zl (by rw [wy,XU]) λi hi=>?_;rw [QaL,uS,u1 _ _ _ _ (by rw [XU]; exact hi),Y2]
 congr 1
 simp [QaF,QbP,hi]
theorem XJ (o:Nat)(vs:List AV):upd [] o vs=[]:=nr (by cases o <;> rfl)
theorem Xe (c:AV)(cs:List AV):upd (c :: cs) 0 []=c :: cs:=nr rfl
theorem X6 (c:AV)(cs:List AV)(v:AV)(vs:List AV):upd (c :: cs) 0 (v :: vs)=v :: upd cs 0 vs:=nr rfl
theorem YB (c:AV)(cs:List AV)(o:Nat)(vs:List AV):upd (c :: cs) (o+1) vs=c :: upd cs o vs:=nr rfl
theorem YA:∀ (cs:List AV) ,upd cs 0 []=cs
 | []=>rfl
 | c :: cs=>rfl
theorem Cl.of_rats {s:St}{b k:Nat}{cs:List AV}(h1:b<s.nx)(h2:qq s.h b=k)(h3:cs.length=k)(h4:0<k)(h5:Go.Sy.rats s.h b 0 k=cs):Cl s b cs:=by
 refine ⟨h1,Q2 (by omega),by omega,λi hi=>?_⟩;have:=congrArg (λl=>l.getD i .bad) h5;rw [Y2] at this;have hi':i<k:=by omega
 simpa [QaF,QbP,hi'] using this
theorem Cl.ldA {s:St}{b k o:Nat}{cs:List AV}(h:Cl s b cs)(hk:0<k)(ho:o+k≤cs.length)(K:AV->St->Prop):jf (zM k (.ptr b o) s) K=K (.agg ((cs.drop o).take k)) s:=by
 rw [jbU hk (by rw [h.len]; exact ho),h.ratsP k o ho]
end
section
variable {P:Program} {base:Bs} {st:St} {K:AV->St->Prop} {e:En}
theorem wz:∀ (z:List AV) (off:Nat) (vs:List AV),off+vs.length≤z.length->z.take off ++ (vs ++ z.drop (off+vs.length))=upd z off vs
 | [],off,vs,h=>by
  have hv:vs=[]:=QaU (by have h':off+vs.length≤0:=h; omega);subst hv;simp [upd]
 | c :: z,0,[],_=>rfl
 | c :: z,0,v :: vs,h=>by
  show v :: (vs ++ (c :: z).drop (0+(vs.length+1)))=v :: upd z 0 vs;rw [←wz z 0 vs (by simp at h ⊢; omega)];simp
 | c :: z,off+1,vs,h=>by
  show c :: z.take off ++ (vs ++ (c :: z).drop (off+1+vs.length))=c :: upd z off vs;rw [←wz z off vs (by simp at h; omega),show off+1+vs.length=(off+vs.length)+1 by omega];rfl
theorem kW {z:List AV}{off size:Nat}{v:AV}{ps:List ((Nat×Nat)×AV)}(h1:v.plain=true)(h2:v.cells.length=size)(h3:off+size≤z.length):QN z (((off,size),v) :: ps)=QN (upd z off v.cells) ps:=by
 have e1:Qar (jH v.cells) size=true:=Uh (by rw [jL]; exact h2);have e2:Qao (QaD off size) (jH z)=true:=y7 (by rw [jL]; exact h3);have e3:yV (yn z off) (yV v.cells (yL z (QaD off size)))=upd z off v.cells:=by
  rw [yO,yO,yf,yK,←wz z off v.cells (by omega),h2]; rfl
 show cond v.plain (cond (Qar (jH v.cells) size) (cond (Qao (QaD off size) (jH z)) (QN (yV (yn z off) (yV v.cells (yL z (QaD off size)))) ps) none) none) none=_;rw [h1,e1,e2,e3]; rfl
theorem Hj (z:List AV):jf (uP z [] st) K=K (.agg z) st:=nr rfl
theorem Hi {z:List AV}{off size:Nat}{v:AV}{ps:List ((Nat×Nat)×AV)}(h1:v.plain=true)(h2:v.cells.length=size)(h3:off+size≤z.length):jf (uP z (((off,size),v) :: ps) st) K=jf (uP (upd z off v.cells) ps st) K:=by
 unfold uP;rw [kW h1 h2 h3]
def bSV (len s:Nat)(z:List AV)(ps:List ((Nat×Nat)×AV))(st:St):ER:=jJ (QN z ps) λcells=>
 cond (lall AV.cell cells) (force (jH cells) λn=>st.alloc (.row n n cells .e) λb st=>.ok (.slice b 0 len len s true) st) .no
theorem jfI (len s:Nat)(z:List AV)(ps:List ((Nat×Nat)×AV)):jf (U6 len s z ps st) K=jf (bSV len s (yA z len) ps st) K:=nr rfl
theorem jbV {len s:Nat}{z:List AV}(h:lall AV.cell z=true):jf (bSV len s z [] st) K=K (.slice st.nx 0 len len s true) (nw st z):=by
 have e:QN z []=some z:=rfl;simp only [bSV,e,jJ,h,cond_true,jp,jL,St.alloc_eq,jf];rfl
theorem ge {len s:Nat}{z:List AV}{off size:Nat}{v:AV}{ps:List ((Nat×Nat)×AV)}(h1:v.plain=true)(h2:v.cells.length=size)(h3:off+size≤z.length):jf (bSV len s z (((off,size),v) :: ps) st) K=jf (bSV len s (upd z off v.cells) ps st) K:=by
 unfold bSV;rw [kW h1 h2 h3]
theorem Vw (z:List AV):yA z 0=[]:=nr rfl
theorem Wb (z:List AV)(n:Nat):yA z (n+1)=z ++ yA z n:=nr (by first | rfl | (unfold yA; simp [yO]))
def vu (e:En):List ((Nat×Nat)×A)->(F:List ((Nat×Nat)×AV)->Prop)->Res F
 | [],F=>F []
 | (p,a) :: l,F=>on1 e a λv=>vu e l λvs=>F ((p,v) :: vs)
theorem UL (e:En):∀ (l:List ((Nat×Nat)×A)) (F:List ((Nat×Nat)×AV)->Prop),vu e l F=((l.map (·.2)).all (okA e)=true∧F (l.map λp=>(p.1,vl e p.2)))
 | [],F=>by simp [vu]
 | (p,a) :: l,F=>by simp [vu,UL e l,on1,and_assoc]
theorem Gv (z:List AV)(ps:List ((Nat×Nat)×A)):wK P base (.i (.build z ps)) e st K=vu e ps λvs=>jf (uP z vs st) K:=by
 rw [UL]; rfl
theorem kP (len s:Nat)(z:List AV)(ps:List ((Nat×Nat)×A)):wK P base (.i (.buildS len s z ps)) e st K=vu e ps λvs=>jf (U6 len s z vs st) K:=by
 rw [UL]; rfl
theorem jgv (f:FuncId)(l:List A):wK P base (.i (.fn f l)) e st K=Zm e l λvs=>K (.fn f vs) st:=by
 rw [wH]; rfl
theorem jgh (F:List ((Nat×Nat)×AV)->Prop):vu e [] F=F []:=nr rfl
theorem jgg (p:Nat×Nat)(a:A)(l:List ((Nat×Nat)×A))(F:List ((Nat×Nat)×AV)->Prop):vu e ((p,a) :: l) F=on1 e a λv=>vu e l λvs=>F ((p,v) :: vs):=nr rfl
theorem kv (k:IntKind)(n:Int):(AV.int k n).plain=true:=nr rfl
theorem kq (l:List Nat):(AV.str l).plain=true:=nr rfl
theorem VA (b:Bool):(AV.bool b).plain=true:=nr rfl
theorem WI (b o n c z:Nat)(x:Bool):(AV.slice b o n c z x).plain=true:=nr rfl
theorem Vz:AV.nils.plain=true:=nr rfl
theorem kr (b o:Nat):(AV.ptr b o).plain=true:=nr rfl
theorem kz (cs:List AV):(AV.agg cs).plain=true:=nr rfl
theorem HL (t:TypeId)(x:A):wK P base (.i (.iface t x)) e st K=on1 e x λv=>K (.iface t v) st:=k_1 (V:=λv st=>.ok (.iface t v) st) rfl (λ_=>rfl) K
end
def eqs:AV->Bool
 | .bool _=>true | .int _ _=>true | .str _=>true | .ptr _ _=>true | .nilp=>true | .slice _ _ _ _ _ _=>true | .nils=>true | .map _=>true | .nilm=>true | .nilf=>true | .nilif=>true | .lst _ _=>true | .xlst _ _=>true | .lptr _ _=>true
 | _=>false
theorem jfu (a:Int):eqI a a=true:=by cases a <;> simp [eqI]
theorem zO (a:Nat):Qar a a=true:=by rw [qw]
theorem uE (l:List AV):wk l l=true:=by unfold wk; exact @decide_eq_true _ (_) rfl
theorem uG {v:AV}(h:eqs v=true):X0 v v=true:=by
 cases v <;> first | (cases h; done) | rfl | skip
 case bool b=>cases b <;> rfl
 case int k n=>show cond (eqK k k) (eqI n n) false=true; rw [Qd,jfu]; rfl
 case str s=>show X8 s s=true; rw [Jy]; simp
 case ptr b o=>show cond (Qar b b) (Qar o o) false=true; rw [zO,zO]; rfl
 case slice b o n c z ex=>
  show cond (Qar b b) (cond (Qar o o) (cond (Qar n n) (cond (Qar c c) (cond (Qar z z) (cond ex ex (cond ex false true)) false) false) false) false) false=true;rw [zO,zO,zO,zO,zO];cases ex <;> rfl
 case map r=>show Qar r r=true; exact zO r
 case lst n cs=>show cond (Qar n n) (wk cs cs) false=true; rw [zO,uE]; rfl
 case xlst n cs=>show cond (Qar n n) (wk cs cs) false=true; rw [zO,uE]; rfl
 case lptr cs n=>show cond (Qar n n) (wk cs cs) false=true; rw [zO,uE]; rfl
theorem uF:∀ {l:List AV},l.all eqs=true->wW l l=true
 | [],_=>rfl
 | v :: l,h=>by
  simp only [Qbf,Qas] at h;show cond (X0 v v) (wW l l) false=true;rw [uG h.1,uF h.2]; rfl
theorem jdO {v:AV}(h:eqs v=true):jbz v v=true:=by
 cases v <;> first | (cases h; done) | exact uG h
section
variable {P:Program}
theorem J4 {t:TypeId}{b o:Nat}{v:AV}{h:T AO}(h1:Go.Ev.isAgg P t=some false)(h2:Go.Ev.sizeOf P t=some 1)(ho:o<qq h b)(hv:rat h b o=v)(hc:eqs v=true):jX P t (.ptr b o) v h=true:=by
 obtain ⟨n,zl,z,cs,hg⟩:=Q2 (h:=h) (b:=b) (by omega);rw [Jz hg] at ho;rw [XV hg] at hv;have e3:Qao (QaA o) n=true:=y7 ho;have e:(qB P t).run (.ptr b o) h=some v:=by simp only [qB,h1,h2,hg,e3,cond_true,hv]
 unfold jX;dsimp only;rw [e];exact jdO hc
theorem Zj {t:TypeId}{b o k:Nat}{cs:List AV}{h:T AO}(h1:Go.Ev.isAgg P t=some true)(h2:Go.Ev.sizeOf P t=some k)(hk:0<k)(ho:o+k≤qq h b)(hv:rats h b o k=cs)(hc:cs.all eqs=true):jX P t (.ptr b o) (.agg cs) h=true:=by
 obtain ⟨n,zl,z,cs',hg⟩:=Q2 (h:=h) (b:=b) (by omega);rw [Jz hg] at ho;have e3:Qao (QaD o k) n=true:=y7 ho;have e:(qB P t).run (.ptr b o) h=some (.agg cs):=by
  simp only [qB,h1,h2,hg,e3,cond_true];rw [←hv,Y2,qr]
  congr 2
  refine Qbs λi _=>?_;rw [XV hg]
 unfold jX;dsimp only;rw [e];exact uF hc
def QL (P:Program)(t u:TypeId)(x y:TE):Bool:=
 match x,y with
 | .rd a v,.wr pre post=>jX P t a v pre && jX P t a v post
 | .rd _ _,.rd _ _=>false
 | .wr pre post,.rd a v=>jX P u a v pre && jX P u a v post
 | .wr _ _,.wr _ _=>false
 | _,_=>true
theorem h_0 (t:TypeId)(x:TE)(tb:List TE):(held P t x tb []=true)=True:=by simp [held]
theorem h_1 (t:TypeId)(x:TE)(tb:List TE)(k:Nat)(u:TypeId)(l:List (Nat×TypeId)):(held P t x tb ((k,u) :: l)=true)=(QL P t u x (q7 .none tb k)=true∧held P t x tb l=true):=by
 have e:held P t x tb ((k,u) :: l)=cond (QL P t u x (q7 .none tb k)) (held P t x tb l) false:=by
  show cond _ _ false=cond _ _ false
  congr 1
  unfold QL;cases x <;> cases q7 TE.none tb k <;> first | rfl | (simp only [Bool.cond_eq_ite]; split <;> simp [*])
 rw [e];cases QL P t u x (q7 .none tb k) <;> simp
theorem jjT (t u:TypeId)(a v:AV)(pre post:T AO):(QL P t u (.rd a v) (.wr pre post)=true)=(jX P t a v pre=true∧jX P t a v post=true):=by simp [QL]
theorem jjS (t u:TypeId)(a v:AV)(pre post:T AO):(QL P t u (.wr pre post) (.rd a v)=true)=(jX P u a v pre=true∧jX P u a v post=true):=by simp [QL]
theorem jjV (t u:TypeId)(y:TE):(QL P t u .none y=true)=True:=by simp [QL]
theorem jjU (t u:TypeId)(x:TE):(QL P t u x .none=true)=True:=by cases x <;> simp [QL]
theorem jjD (d x:TE)(l:List TE):q7 d (x :: l) 0=x:=nr rfl
theorem jjC (d x:TE)(l:List TE)(n:Nat):q7 d (x :: l) (n+1)=q7 d l n:=nr rfl
theorem ji8 (e:En)(v:AV)(st st':St):teW none e v st st'=.none:=nr rfl
theorem ji7 (e:En)(v:AV)(st st':St):teW (some none) e v st st'=.wr st.h st'.h:=nr rfl
theorem ji6 (a:A)(e:En)(v:AV)(st st':St):teW (some (some a)) e v st st'=.rd (vl e a) v:=nr rfl
theorem jiU (e:En)(v:AV):vl e (.c v)=v:=nr rfl
theorem jiS (x:Nat)(v:AV)(l g:Sl):vl ⟨(x,v) :: l,g⟩ (.t x)=v:=by simp [vl,En.look,yB,En.has,zg]
theorem jfV {k x:Nat}(h:k≠x)(v:AV)(l g:Sl):vl ⟨(k,v) :: l,g⟩ (.t x)=vl ⟨l,g⟩ (.t x):=by simp [vl,En.look,yB,En.has,zg,h]
theorem jiT (x:Nat)(v:AV)(g:Sl):vl ⟨[],(x,v) :: g⟩ (.t x)=v:=by simp [vl,En.look,yB,En.has,zg,has]
theorem jfW {k x:Nat}(h:k≠x)(v:AV)(g:Sl):vl ⟨[],(k,v) :: g⟩ (.t x)=vl ⟨[],g⟩ (.t x):=by simp [vl,En.look,yB,En.has,zg,has,h]
theorem gA {L:Sl}{x:Nat}{v:AV}(h:Has L x v):vl ⟨[],L⟩ (.t x)=v:=by
 obtain ⟨h1,h2⟩:=h;simp [vl,En.has,En.look,has,h2]
end
section
variable {P:Program} {base:Bs} {st:St} {K:AV->St->Prop} {e:En}
def v8 (sz:Nat)(v:AV)(lo hi:Option AV)(st:St):ER:=match v with
 | .nils=>optA lo 0 λl=>optA hi 0 λh=>cond (Qar l 0) (cond (Qar h 0) (.ok .nils st) .no) .no
 | .slice b o len cap sz' ex=>optA lo 0 λl=>optA hi len λh=>
  cond (Qar sz' sz) (cond (Qao l h) (cond (Qao h cap) (force (Qbc h l) λk=>force (QaD o (Qat l sz)) λo=>force (Qbc cap l) λc=>.ok (.slice b o k c sz ex) st) .no) .no) .no
 | .lst n cs=>optA lo 0 λl=>optA hi n λh=>
  cond (Qao l h) (cond (Qao h n) (cond (Qao (Qat h sz) (jH cs)) (.ok (.lst (Qbc h l) (yn (yL cs (Qat l sz)) (Qat (Qbc h l) sz))) st) .no) .no) .no
 | _=>.no
theorem jdp (sz:Nat)(x lo:A):wK P base (.i (.slS sz x (some lo) none)) e st K=on1 e x λv=>on1 e lo λl=>jf (v8 sz v (some l) none st) K:=k_2 (V:=λv l st=>v8 sz v (some l) none st) rfl (λ_=>rfl) K
theorem jdo (sz:Nat)(x hi:A):wK P base (.i (.slS sz x none (some hi))) e st K=on1 e x λv=>on1 e hi λh=>jf (v8 sz v none (some h) st) K:=k_2 (V:=λv h st=>v8 sz v none (some h) st) rfl (λ_=>rfl) K
theorem jdn (sz:Nat)(x lo hi:A):wK P base (.i (.slS sz x (some lo) (some hi))) e st K=on1 e x λv=>on1 e lo λl=>on1 e hi λh=>jf (v8 sz v (some l) (some h) st) K:=k_3 (V:=λv l h st=>v8 sz v (some l) (some h) st) rfl (λ_=>rfl) K
end
end Go.Sy
end
noncomputable section
namespace Go.Sy
open Go.Ev Go.RowKit
def ifW (p:Prop)(a b:Prop):Res (a,b):=(p->a)∧(¬ p->b)
theorem jc {p a b:Prop}(h1:p->a)(h2:¬ p->b):ifW p a b:=⟨h1,h2⟩
theorem VW {p a b:Prop}(h:p):ifW p a b=a:=propext ⟨λk=>k.1 h,λk=>⟨λ_=>k,λn=>absurd h n⟩⟩
theorem VX {p a b:Prop}(h:¬ p):ifW p a b=b:=propext ⟨λk=>k.2 h,λk=>⟨λn=>absurd n h,λ_=>k⟩⟩
section
variable {P:Program} {base:Bs} {st:St} {K Kp:AV->St->Prop} {e:En}
theorem jay (q:Bool)(a b:Prop):ZX (.bool q) a b=ifW (q=true) a b:=by cases q <;> simp [ZX,ifW]
theorem jki (q:Bool)(a b:Prop):onG (.bool q) true a b=ifW (q=true) a b:=by cases q <;> simp [onG,ifW]
theorem jkj (q:Bool)(a b:Prop):onG (.bool q) false a b=ifW (q=true) b a:=by cases q <;> simp [onG,ifW]
theorem jd0 (q:Bool)(a b:AV):jf (ja3 (.bool q) a b st) K=ifW (q=true) (K a st) (K b st):=by cases q <;> simp [ja3,Yk,jf,ifW]
theorem gB (a b:List Nat):jf (WQ .neq (.str a) (.str b) st) K=K (.bool (decide (a≠b))) st:=by
 simp only [WQ,ZG,jJ,jf,Jy];by_cases h:a=b
 ·simp [h]
 ·simp [h]
theorem gC {a b:List Nat}(h:a.length+b.length≤9223372036854775807):jf (WQ .add (.str a) (.str b) st) K=K (.str (a ++ b)) st:=by
 have e1:Qao (QaD (jH a) (jH b)) 9223372036854775807=true:=by rw [j5,jL,jL]; exact h
 simp only [WQ,ZG,jJ,jf,e1,cond_true,yO]
theorem Zu {x:Int}(h1 : -9223372036854775808≤x)(h2:x≤9223372036854775807):Ji .i64 x=x:=by
 rw [Zc]; exact IntWalk.i64_in x ⟨h1,by omega⟩
theorem jcu {a b:Int}(h1 : -9223372036854775808≤a+b)(h2:a+b≤9223372036854775807):jf (JF .add (.int .i64 a) (.int .i64 b) st) K=K (.int .i64 (a+b)) st:=by
 have:(QG .add).run .i64 a b=some (.int .i64 (a+b)):=by show some (AV.int .i64 (Ji .i64 (a+b)))=_; rw [Zu h1 h2]
 simp only [JF,Qd,cond_true,this,jJ,jf]
theorem jb9 {a b:Int}(h1 : -9223372036854775808≤a - b)(h2:a - b≤9223372036854775807):jf (JF .sub (.int .i64 a) (.int .i64 b) st) K=K (.int .i64 (a - b)) st:=by
 have:(QG .sub).run .i64 a b=some (.int .i64 (a - b)):=by show some (AV.int .i64 (Ji .i64 (a - b)))=_; rw [Zu h1 h2]
 simp only [JF,Qd,cond_true,this,jJ,jf]
theorem jch {a b:Int}(h1 : -9223372036854775808≤a * b)(h2:a * b≤9223372036854775807):jf (JF .mul (.int .i64 a) (.int .i64 b) st) K=K (.int .i64 (a * b)) st:=by
 have:(QG .mul).run .i64 a b=some (.int .i64 (a * b)):=by show some (AV.int .i64 (Ji .i64 (a * b)))=_; rw [Zu h1 h2]
 simp only [JF,Qd,cond_true,this,jJ,jf]
theorem jcg {a:Int}(h1 : -9223372036854775808≤-a)(h2 : -a≤9223372036854775807):jf (unV .neg (.int .i64 a) st) K=K (.int .i64 (-a)) st:=by
 have e:IntKind.i64.wrap (0 - a)=-a:=by rw [←Zc,Zu (by omega) (by omega)]; omega
 simp only [unV,X7,O,e,jf]
def biV (P:Program)(b:Builtin)(ts:Array TypeId)(l:List AV)(st:St):ER:=(qk P b ts (l.map λv=>O v)).run E0 st
theorem jgA (b:Builtin)(ts:Array TypeId)(l:List A):wK P base (.i (.bi b ts l)) e st K=Zm e l λvs=>jf (biV P b ts vs st) K:=by
 rw [wH];simp only [wK,wI,Yt,jI,biV,QbA]; rfl
theorem jcj (ts:Array TypeId)(k:IntKind)(a b:Int):jf (biV P .max ts [.int k a,.int k b] st) K=K (.int k (max a b)) st:=by
 have:(qk P .max ts [O (.int k a),O (.int k b)]).run E0 st=jJ (max2 (.int k a) (.int k b)) λv=>.ok v st:=by
  show jJ (JS max2 (.int k a) [.int k b]) _=_;unfold JS;cases max2 (.int k a) (.int k b) <;> rfl
 show jf ((qk P .max ts [O (.int k a),O (.int k b)]).run E0 st) K=_;rw [this];simp only [max2,Qd,cond_true,jJ,jf]
 congr 2
 rw [QC];by_cases h:a<b
 ·rw [decide_eq_true h,Int.max_eq_right (by omega)]; rfl
 ·rw [decide_eq_false h,Int.max_eq_left (by omega)]; rfl
theorem jci (ts:Array TypeId)(k:IntKind)(a b:Int):jf (biV P .min ts [.int k a,.int k b] st) K=K (.int k (min a b)) st:=by
 have:(qk P .min ts [O (.int k a),O (.int k b)]).run E0 st=jJ (min2 (.int k a) (.int k b)) λv=>.ok v st:=by
  show jJ (JS min2 (.int k a) [.int k b]) _=_;unfold JS;cases min2 (.int k a) (.int k b) <;> rfl
 show jf ((qk P .min ts [O (.int k a),O (.int k b)]).run E0 st) K=_;rw [this];simp only [min2,Qd,cond_true,jJ,jf]
 congr 2
 rw [QC];by_cases h:b<a
 ·rw [decide_eq_true h,Int.min_eq_right (by omega)]; rfl
 ·rw [decide_eq_false h,Int.min_eq_left (by omega)]; rfl
theorem jcl (n:Nat)(cs:List AV):jf (Ge (.lst n cs) st) K=K (.int .i64 (n:Int)) st:=nr rfl
theorem H3 {k:IntKind}{i:Int}(h:0≤i)(F:Nat->ER):qi (.int k i) F=F i.toNat:=by
 obtain ⟨n,rfl⟩:=Qbq h;exact H4
theorem jcp {n:Nat}{cs:List AV}{i:Int}(h0:0≤i)(h:i<n)(s:Nat)(k:IntKind):jf (Wp s (.lst n cs) (.int k i) st) K=K (.lptr cs (i.toNat * s)) st:=by
 simp only [Wp,H3 h0];have:Qao (QaA i.toNat) n=true:=by rw [j5]; omega
 rw [this]; rfl
theorem jco {b o n c z:Nat}{x:Bool}{i:Int}(h0:0≤i)(h:i<n)(s:Nat)(k:IntKind):jf (Wp s (.slice b o n c z x) (.int k i) st) K=K (.ptr b (o+i.toNat * s)) st:=by
 obtain ⟨m,rfl⟩:=Qbq h0;exact jiX (by omega) s k
theorem jf2 {s:List Nat}{i:Int}(h0:0≤i)(h:i<s.length)(k:IntKind):jf (VU (.str s) (.int k i) st) K=K (.int .u8 ((s.getD i.toNat 0:Nat):Int)) st:=by
 obtain ⟨m,rfl⟩:=Qbq h0;exact jg0 (by omega) k
theorem jcn {k o:Nat}{cs:List AV}(h:o+k≤cs.length):jf (zM k (.lptr cs o) st) K=K (.agg ((cs.drop o).take k)) st:=by
 have:Qao (QaD o k) (jH cs)=true:=by rw [j5,jL]; exact h
 simp only [zM,this,cond_true,jf,yf,yK]
theorem wx {o:Nat}{cs:List AV}(h:o<cs.length):jf (ze (.lptr cs o) st) K=K (cs.getD o .bad) st:=by
 have:Qao (QaA o) (jH cs)=true:=by rw [j5,jL]; exact h
 simp only [ze,this,cond_true,jf,zd]
theorem jcr (off o:Nat)(cs:List AV):jf (jbo off (.lptr cs o) st) K=K (.lptr cs (o+off)) st:=nr rfl
theorem HK (o:Nat)(cs:List AV):jf (ja6 (.lptr cs o) st) K=K (.lptr cs o) st:=nr rfl
def fl {α:Type}(enc:α->List AV)(xs:List α):List AV:=xs.flatMap enc
theorem Q8 {α:Type}(enc:α->List AV)(x:α)(xs:List α):fl enc (x :: xs)=enc x ++ fl enc xs:=rfl
theorem wR {α:Type}(enc:α->List AV)(xs ys:List α):fl enc (xs ++ ys)=fl enc xs ++ fl enc ys:=by simp [fl]
theorem Yo {α:Type}(enc:α->List AV)(x:α):fl enc [x]=enc x:=by simp [fl]
theorem Xq {α:Type}{enc:α->List AV}{z:Nat}(hz:∀ x,(enc x).length=z):∀ xs:List α,(fl enc xs).length=xs.length * z
 | []=>by simp [fl]
 | x :: xs=>by rw [Q8,Qak,hz,Xq hz xs,Qal,Qbr,Nat.add_comm]
theorem YL {α:Type}{enc:α->List AV}(hp:∀ x,(enc x).all pc=true):∀ xs:List α,(fl enc xs).all pc=true
 | []=>rfl
 | x :: xs=>by rw [Q8,Qbk,hp,YL hp xs]; rfl
theorem UW {α:Type}{enc:α->List AV}{z:Nat}(hz:∀ x,(enc x).length=z):∀ (xs:List α) (i:Nat),(fl enc xs).drop (i * z)=fl enc (xs.drop i)
 | xs,0=>by simp
 | [],i+1=>by simp [fl]
 | x :: xs,i+1=>by
  rw [Q8,Qbr,Nat.add_comm,List.drop_append,List.drop_eq_nil_of_le (by rw [hz]; omega),hz,Nat.add_sub_cancel_left,UW hz xs i];rfl
theorem jbk {α:Type}{enc:α->List AV}{z:Nat}(hz:∀ x,(enc x).length=z){xs:List α}{i:Nat}(h:i<xs.length):((fl enc xs).drop (i * z)).take z=enc xs[i]:=by
 rw [UW hz,List.drop_eq_getElem_cons h,Q8,List.take_append,List.take_of_length_le (by rw [hz]; omega),hz,Nat.sub_self,Qbm,Qba]
theorem jdF {α:Type}{enc:α->List AV}{z:Nat}(hz:∀ x,(enc x).length=z){xs:List α}{i:Nat}(h:i<xs.length){k:Nat}(hk:k<z):(fl enc xs).getD (i * z+k) .bad=(enc xs[i]).getD k .bad:=by
 rw [←jbk hz h];simp only [QaO,QbJ,hk,if_true,Qcc]
theorem ZF {α:Type}{enc:α->List AV}{z:Nat}(hz:∀ x,(enc x).length=z){xs:List α}{i:Nat}(h:i<xs.length):jf (zM z (.lptr (fl enc xs) (i * z)) st) K=K (.agg (enc xs[i])) st:=by
 have:(i+1) * z≤xs.length * z:=QaJ z h;rw [Qbr] at this;rw [jcn (by rw [Xq hz]; omega),jbk hz h]
theorem zt {α:Type}{enc:α->List AV}{z:Nat}(hz:∀ x,(enc x).length=z){xs:List α}{i:Nat}(h:i<xs.length){k:Nat}(hk:k<z):jf (ze (.lptr (fl enc xs) (i * z+k)) st) K=K ((enc xs[i]).getD k .bad) st:=by
 have:(i+1) * z≤xs.length * z:=QaJ z h;rw [Qbr] at this;rw [wx (by rw [Xq hz]; omega),jdF hz h hk]
theorem jcq {k:Nat}{cs:List AV}(h:k<cs.length):jf (jbj k (.agg cs) st) K=K (cs.getD k .bad) st:=by
 have:Qao (QaA k) (jH cs)=true:=by rw [j5,jL]; exact h
 simp only [jbj,JA,this,cond_true,jf,zd]
theorem HN (k n:Nat)(cs:List AV):jf (jbi k n (.agg cs) st) K=K (.agg ((cs.drop k).take n)) st:=by
 simp only [jbi,JA,jf,yf,yK]
theorem UC (l:List AV):l.take 0=[]:=rfl
theorem UB (a:AV)(l:List AV)(n:Nat):(a :: l).take (n+1)=a :: l.take n:=rfl
theorem U3 (l:List AV):l.drop 0=l:=rfl
theorem jj3 (a:AV)(l:List AV)(n:Nat):(a :: l).drop (n+1)=l.drop n:=rfl
theorem Cl.rw_ {b:Nat}{cs:List AV}(C:Cl st b cs):Rw st.h b cs:=by
 obtain ⟨n,zl,z,c,hg⟩:=C.row;have hl:=C.len;rw [Jz hg] at hl;refine ⟨n,zl,z,c,hg,?_⟩;rw [qr];apply QbW
 ·simp [hl]
 ·intro i h1 h2;have:=C.cell i h2;rw [XV hg] at this;simp only [List.getElem_map,List.getElem_range,QaL,this];simp [QaO,Qay h2]
end
section
variable {P:Program} {base:Bs}
theorem UN (cs:List AV):XX cs=nw st0 cs:=by unfold XX nw; rw [jL]; rfl
def G0 (u v:AV)(s:St):Prop:=FzD 0 9 s v u
def G1 (n:Nat)(c':List AV)(u v:AV)(s:St):Prop:=FzD 1 9 s v u∧∃ c2,Rw s.h 0 c2∧c2.length=n∧FzsD 1 9 s c2 c'
theorem jz {f:FuncId}{F:XF}(hl:ju P f=some F)(hnd:F.body.nd=true)(hm:base.pur f=1){aZ:List AV}{o:Oc}
  (h:xC P base F.body (jj F.ps aZ) st0 (Yv P F.res (Yg G0 o)) λv _ s=>Yb G0 o v s.bare):PX P base f aZ o:=
 PX.of hm (ZD hl hnd h)
theorem jW {f:FuncId}{F:XF}(hl:ju P f=some F)(hnd:F.body.nd=true)(hm:base.pur f=3){c aZ:List AV}(hc:c.all pc=true){o:Oc}{c':List AV}
  (h:xC P base F.body (jj F.ps (.ptr 0 0 :: aZ)) (nw st0 c) (Yv P F.res (Yg (G1 c.length c') o)) λv _ s=>Yb (G1 c.length c') o v s.bare):PM P base f c aZ o c':=by
 rw [←UN] at h;exact PM.of hm hc (ZD hl hnd h)
theorem PM.xbk {f:FuncId}{c aZ aZ':List AV}{ks:List Nat}{o:Oc}{c':List AV}(h:PM P base f c aZ o c'){st:St}{p:Nat}(C:Cl (qG ks st) p c)(hf:fzs (fz 9 st.h) aZ'=some (aZ,ks))(hp:aZ.all pa=true)(hb:∀ st,base.run f (.ptr p 0 :: aZ') st=.no)(K Kp:AV->St->Prop) :
  XB P base f (.ptr p 0 :: aZ') st K Kp=Yr o K Kp (wr (qG ks st) p 0 c'):=by
 obtain ⟨N,D,h⟩:=h;have e0:∀ n,N≤n->∀ d,D≤d->evC P base n d f (.ptr p 0 :: aZ') st=o.er (wr (qG ks st) p 0 c'):=λn hn d hd=>by
  rw [h n hn d hd st p aZ' ks C.rw_ hf hp hb]
  congr 1
 refine propext ⟨λ⟨r,⟨N2,D2,h2⟩,h3⟩=>?_,λh3=>⟨_,⟨N,D,e0⟩,?_⟩⟩
 ·have e1:=e0 (max N N2) (QaI ..) (max D D2) (QaI ..);have e2:=h2 (max N N2) (QaE ..) (max D D2) (QaE ..);rw [e1] at e2;rw [←e2] at h3;cases o <;> exact h3
 ·cases o <;> exact h3
theorem PM.xb {f:FuncId}{c aZ:List AV}{o:Oc}{c':List AV}(h:PM P base f c aZ o c'){st:St}{p:Nat}(C:Cl st p c)(hp:aZ.all pa=true)(hb:∀ st,base.run f (.ptr p 0 :: aZ) st=.no)(K Kp:AV->St->Prop) :
 XB P base f (.ptr p 0 :: aZ) st K Kp=Yr o K Kp (wr st p 0 c'):=h.xbk (ks:=[]) C (VY (d:=7) hp) hp hb K Kp
theorem jgn (v:AV)(K Kp:AV->St->Prop)(st:St):Yr (.ok v) K Kp st=K v st:=nr rfl
theorem jgm (v:AV)(K Kp:AV->St->Prop)(st:St):Yr (.pn v) K Kp st=Kp v st:=nr rfl
theorem jdP (G:AV->AV->St->Prop)(u v:AV)(s:St):Yg G (.ok u) v s=G u v s:=nr rfl
theorem jc8 (G:AV->AV->St->Prop)(u v:AV)(s:St):Yb G (.pn u) v s=G u v s:=nr rfl
def jaW (b b2:Nat)(J:Sl->St->Prop)(Q:Out->Prop):Out->Res (J,Q)
 | .go L s=>J L s
 | .ex i L s=>cond (Qar i b2) (J L s) (cond (Qar i b) (Q (.go L s)) (Q (.ex i L s)))
 | .rt L s=>Q (.rt L s)
theorem jjs (b b2:Nat)(J:Sl->St->Prop)(Q:Out->Prop)(L:Sl)(s:St):jaW b b2 J Q (.go L s)=J L s:=nr rfl
theorem jjr (b b2:Nat)(J:Sl->St->Prop)(Q:Out->Prop)(L:Sl)(s:St):jaW b b2 J Q (.rt L s)=Q (.rt L s):=nr rfl
theorem jeX (b b2:Nat)(J:Sl->St->Prop)(Q:Out->Prop)(i:Nat)(L:Sl)(s:St):jaW b b2 J Q (.ex i L s)=cond (Qar i b2) (J L s) (cond (Qar i b) (Q (.go L s)) (Q (.ex i L s))):=nr rfl
theorem qn {b b2 i n c d:Nat}{body:XC}{L:Sl}{st:St}{Q:Out->Prop}{Kp:AV->Sl->St->Prop}(N:Nat)(I:Nat->Sl->St->Prop)(hN:N≤4611686018427387904)(hne:c≠i∧c≠n∧i≠n∧d≠i∧b≠b2)
  (hi:Has L i (.int .i64 0)) (hn:Has L n (.int .i64 (N:Int))) (h0:I 0 L st) (hc:∀ k L s v,I k L s->I k ((c,v) :: L) s) (hI:∀ k L s v,I k L s->I k ((i,v) :: L) s)
  (step:∀ k L s,k<N->I k L s->Has L i (.int .i64 (k:Int))->Has L n (.int .i64 (N:Int))->Hn (xC P base body L s (jaW b b2 (λL' s'=>I (k+1) L' s'∧Has L' i (.int .i64 (k:Int))∧Has L' n (.int .i64 (N:Int))) Q) Kp))
  (fin:∀ L s,I N L s->Hn (Q (.go L s))) :
  xC P base (.loop (.seq (.ops [⟨some c,true,none,.i (.bin .lss (.t i) (.t n))⟩]) (.seq (.cond (.t c) .skip (.exit b)) (.seq (.block b2 body) (.ops [⟨some d,false,none,.i (.bin .add (.t i) (.c (.int .i64 1)))⟩,⟨some i,true,none,.i (.mv (.t d))⟩]))))) L st (yg b Q) Kp:=by
 obtain ⟨n1,n2,n3,n4,n5⟩:=hne;refine zG (λm L s=>∃ k,k≤N∧m=N - k∧I k L s∧Has L i (.int .i64 (k:Int))∧Has L n (.int .i64 (N:Int))) ?_ N ⟨0,QaT _,rfl,h0,hi,hn⟩;rintro m L s ⟨k,hk,rfl,hk',h1,h2⟩;unfold Hn;simp only [Ku,Kv,uY,x_i,KY,ja h1,ja h2,jaN,Kw,Wd,Y3,gw,jaZ];by_cases hlt:k<N
 ·rw [decide_eq_true (by omega),jhi,gn,Y3,Ku,uZ];refine HG _ _ _ _ _ (step k ((c,.bool true) :: L) s hlt (hc k L s _ hk') (by rw [jb n1]; exact h1) (by rw [jb n2]; exact h2)) λo ho=>?_;have go:∀ L' s',(I (k+1) L' s'∧Has L' i (.int .i64 (k:Int))∧Has L' n (.int .i64 (N:Int)))->xO P base [⟨some d,false,none,.i (.bin .add (.t i) (.c (.int .i64 1)))⟩,⟨some i,true,none,.i (.mv (.t d))⟩] ⟨[],L'⟩ s' (λe st'=>Qx (λL' st'=>∃ k',k'<N - k∧∃ k,k≤N∧k'=N - k∧I k L' st'∧Has L' i (.int .i64 (k:Int))∧Has L' n (.int .i64 (N:Int))) (yg b Q) (.go e.g st')) Kp:=by
   intro L' s' ⟨h3,h4,h5⟩;simp only [uY,x_i,KY,ja h4,ja0,jiY (show k+1≤9223372036854775807 by omega),UJ,jfl,jaY,Kw,Wd,Y3];refine ⟨N - (k+1),by omega,k+1,by omega,rfl,hI _ _ _ _ h3,Has.here _ _ _,by rw [jb n3]; exact h5⟩
  cases o with
  | go L' s'=>exact go L' s' ho
  | rt L' s'=>exact ho
  | ex q L' s'=>
   rw [jeX] at ho;cases hq:Qar q b2
   ·rw [hq] at ho;have e1:yg b2 (Qx (λL' st'=>xC P base (.ops [⟨some d,false,none,.i (.bin .add (.t i) (.c (.int .i64 1)))⟩,⟨some i,true,none,.i (.mv (.t d))⟩]) L' st' (Qx (λL' st'=>∃ k',k'<N - k∧∃ k,k≤N∧k'=N - k∧I k L' st'∧Has L' i (.int .i64 (k:Int))∧Has L' n (.int .i64 (N:Int))) (yg b Q)) Kp) (Qx (λL' st'=>∃ k',k'<N - k∧∃ k,k≤N∧k'=N - k∧I k L' st'∧Has L' i (.int .i64 (k:Int))∧Has L' n (.int .i64 (N:Int))) (yg b Q))) (.ex q L' s')=yg b Q (.ex q L' s'):=by
     simp only [yg,hq,cond_false,Qx]
    show yg b2 _ _;rw [e1];exact ho
   ·rw [hq] at ho;have:=go L' s' ho;show yg b2 _ _;simp only [yg,hq,cond_true,Y3,Kv];exact this
 ·have hkN:k=N:=by omega
  rw [decide_eq_false (by omega),jhj,gq,Wc,Wc];subst hkN;show yg b Q (.ex b _ s);rw [ug];exact fin _ _ (hc _ _ _ _ hk')
theorem Z1 (n:Nat)(cs:List AV):(AV.lst n cs).cells=[.lst n cs]:=nr rfl
theorem Gn (n:Nat)(cs l:List AV):lall AV.cell (.lst n cs :: l)=lall AV.cell l:=nr rfl
theorem ku (n:Nat)(cs:List AV):(AV.lst n cs).plain=true:=nr rfl
theorem qT:st0.nx=0:=nr rfl
theorem jcN (P:Program)(t:TypeId)(cs:List AV)(o:Nat)(v:AV)(h:T AO):(jX P t (.lptr cs o) v h=true)=True:=by simp [jX]
theorem G0.v {u v:AV}{s:St}(h:v=u)(hp:pa v=true):G0 u v s:=by subst h; exact FzD.pa hp
theorem jah (p:Prop):Hn p=p:=nr rfl
theorem jc2:yZ []=.tup []:=nr rfl
theorem Uz:∀ {c c':List AV},c'.length=c.length->upd c 0 c'=c'
 | [],[],_=>rfl
 | [],_ :: _,h=>by simp at h
 | _ :: _,[],h=>by simp at h
 | _ :: c,v :: c',h=>by rw [X6,Uz (by simpa using h)]
theorem XL {c c':List AV}(h:c'.length=c.length):upd c 0 c'=c':=Uz h
theorem Cl.wr0 {s:St}{b:Nat}{c c':List AV}(C:Cl s b c)(h:c'.length=c.length):Cl (Go.Sy.wr s b 0 c') b c':=by
 have:=C.wr 0 c';rwa [Uz h] at this
theorem G1.done {s:St}{n:Nat}{c':List AV}{u v:AV}(C:Cl s 0 c')(hl:c'.length=n)(hp:c'.all pc=true)(hv:FzD 1 9 s v u):G1 n c' u v s:=
 ⟨hv,c',C.rw_,hl,FzsD.pc hp⟩
theorem FzD.u {m d:Nat}{s:St}:FzD m (d+1) s (.tup []) (.tup []):=FzD.tup FzsD.nil
abbrev Met (P:Program)(base:Bs)(f:FuncId)(c xs:List AV)(o:Oc)(c':List AV):Prop:=∀ {st:St} {p:Nat},Cl st p c->∀ K Kp,XB P base f (.ptr p 0 :: xs) st K Kp=Yr o K Kp (wr st p 0 c')
theorem PM.met {f:FuncId}{c xs:List AV}{o:Oc}{c':List AV}(h:PM P base f c xs o c')(hp:xs.all pa=true)(hb:∀ p st,base.run f (.ptr p 0 :: xs) st=.no):Met P base f c xs o c':=λC K Kp=>h.xb C hp (hb _) K Kp
theorem Uv {f:FuncId}{xs:List AV}{st:St}{v:AV}{st':St}(h:base.run f xs st=.ok v st')(K Kp:AV->St->Prop):XB P base f xs st K Kp=K v (back st st'):=by
 have e0:∀ n,0≤n->∀ d,1≤d->evC P base n d f xs st=.ok v st':=λn _ d hd=>by
  obtain ⟨d',rfl⟩:∃ d',d=d'+1:=⟨d - 1,by omega⟩;simp only [evC,h]
 refine propext ⟨λ⟨r,⟨N2,D2,h2⟩,h3⟩=>?_,λh3=>⟨_,⟨0,1,e0⟩,h3⟩⟩;have e1:=e0 N2 (QaT _) (max 1 D2) (QaI ..);have e2:=h2 N2 (Qaq _) (max 1 D2) (QaE ..);rw [e1] at e2;rw [←e2] at h3;exact h3
def cvV (P:Program)(s d:TypeId)(v:AV)(st:St):ER:=(Jg P s d (O v)).run E0 st
theorem jdz {e:En}{st:St}{K:AV->St->Prop}(s d:TypeId)(x:A):wK P base (.i (.conv s d x)) e st K=on1 e x λv=>jf (cvV P s d v st) K:=k_1 rfl (λ_=>rfl) K
theorem jhM {st:St}{K:AV->St->Prop}{s d e:TypeId}(h1:P.underlying s=some .string)(h2:P.underlying d=some (.slice e))(h3:P.underlying e=some (.int .u8))(l:List Nat) :
  jf (cvV P s d (.str l) st) K=K (.slice st.nx 0 l.length l.length 1 false) (nw st (l.map λ(c:Nat)=>.int .u8 (c:Int))):=by
 simp only [cvV,Jg,h1,h2,h3,O,zh,jL,jp,St.alloc_eq,jf];unfold nw;rw [QaN,yo]; rfl
theorem jcU {st:St}(x k:Nat)(l:List RV)(L:Sl)(F:List AV->Prop):q9 P (.cA x k :: l) L st F=on1 ⟨[],L⟩ (.t x) λv=>jf (zM k v st) λu _=>q9 P l L st λvs=>F (u :: vs):=by
 simp only [q9,gM,on1,okA,vl,En.has,En.look,has,cond_false];rfl
theorem HX {st:St}(x:Nat)(l:List RV)(L:Sl)(F:List AV->Prop):q9 P (.c1 x :: l) L st F=on1 ⟨[],L⟩ (.t x) λv=>jf (ze v st) λu _=>q9 P l L st λvs=>F (u :: vs):=by
 simp only [q9,gM,on1,okA,vl,En.has,En.look,has,cond_false];rfl
def KE (n sz:Nat)(v:AV)(st:St):ER:=qK v λb o=>optA none 0 λl=>optA none n λh=>
 cond (Qao l h) (cond (Qao h n)
  (force (Qbc h l) λk=>force (QaD o (Qat l sz)) λo=>force (Qbc n l) λc=>.ok (.slice b o k c sz true) st) .no) .no
theorem jdq {e:En}{st:St}{K:AV->St->Prop}(n sz:Nat)(x:A):wK P base (.i (.slA n sz x none none)) e st K=on1 e x λv=>jf (KE n sz v st) K:=k_1 (V:=λv st=>KE n sz v st) rfl (λ_=>rfl) K
theorem jce {st:St}{K:AV->St->Prop}(b n sz:Nat):jf (KE n sz (.ptr b 0) st) K=K (.slice b 0 n n sz true) st:=by
 have e1:Qao 0 n=true:=y7 (QaT _);have e2:Qao n n=true:=y7 (Qaq _);have e3:QaD 0 (Qat 0 sz)=0:=by show 0+0 * sz=0; omega
 have e4:Qbc n 0=n:=rfl;simp only [KE,qK,optA,e1,e2,e3,e4,cond_true,jp,jf]
theorem HM {st:St}{K:AV->St->Prop}{b n s:Nat}{i:Int}(h0:0≤i)(h:i<n)(k:IntKind):jf (jbe n s (.ptr b 0) (.int k i) st) K=K (.ptr b (i.toNat * s)) st:=by
 have e1:Qao (QaA i.toNat) n=true:=y7 (by omega);have e2:QaD 0 (Qat i.toNat s)=i.toNat * s:=QaL _;simp only [jbe,qK,H3 h0,e1,e2,cond_true,jp,jf]
theorem jcd {st:St}{K:AV->St->Prop}{l:List Nat}{i:Int}(h0:0≤i)(h:i≤l.length)(k:IntKind):jf (zI (.str l) (some (.int k i)) none st) K=K (.str (l.drop i.toNat)) st:=by
 obtain ⟨m,rfl⟩:=Qbq h0;exact jkD (by omega) k
theorem jcc {st:St}{K:AV->St->Prop}{l:List Nat}{i:Int}(h0:0≤i)(h:i≤l.length)(k:IntKind):jf (zI (.str l) none (some (.int k i)) st) K=K (.str (l.take i.toNat)) st:=by
 obtain ⟨m,rfl⟩:=Qbq h0;exact jkC (by omega) k
theorem jcb {st:St}{K:AV->St->Prop}{l:List Nat}{i j:Int}(h0:0≤i)(h1:i≤j)(h:j≤l.length)(k k':IntKind):jf (zI (.str l) (some (.int k i)) (some (.int k' j)) st) K=K (.str ((l.drop i.toNat).take (j - i).toNat)) st:=by
 obtain ⟨m,rfl⟩:=Qbq h0;obtain ⟨n,rfl⟩:=Qbq (show 0≤j by omega);rw [jkB (by omega) (by omega)]
 congr 3
 omega
theorem jaJ {f:FuncId}{xs:List AV}{st s:St}{v:AV}(h:∀ K Kp,K v s->XB P base f xs st K Kp)(K Kp:AV->St->Prop):XB P base f xs st K Kp=K v s:=by
 refine propext ⟨λ⟨r2,⟨N2,D2,h2⟩,h3⟩=>?_,h K Kp⟩;obtain ⟨r,⟨N,D,h1⟩,h4⟩:=h (λv' s'=>v'=v∧s'=s) (λ_ _=>False) ⟨rfl,rfl⟩;have e1:=h1 (max N N2) (QaI ..) (max D D2) (QaI ..);have e2:=h2 (max N N2) (QaE ..) (max D D2) (QaE ..);rw [e1] at e2;subst e2;cases r with
 | no=>exact h4.elim
 | pn v s=>exact h4.elim
 | ok v' s'=>
  obtain ⟨rfl,rfl⟩:=h4;exact h3
theorem jaz (st:St):bk st st.bare=st:=nr rfl
theorem Hc (st:St):back st st.bare=st:=nr rfl
def fi {α:Type}(q:α->Bool):List α->Int
 | []=>-1
 | x :: xs=>if q x=true then 0 else if fi q xs<0 then -1 else fi q xs+1
theorem K7 {α:Type}{q:α->Bool}:∀ {xs:List α} {k:Nat} (h:k<xs.length),(∀ j (hj:j<k),q (xs[j]'(by omega))=false)->q xs[k]=true->fi q xs=k
 | x :: xs,0,h,h0,hk=>by simp only [QbH] at hk; simp [fi,hk]
 | x :: xs,k+1,h,h0,hk=>by
  have:=K7 (xs:=xs) (k:=k) (by simpa using h) (λj hj=>by have:=h0 (j+1) (by omega); simpa only [QbI] using this) (by simpa only [QbI] using hk);have h1:=h0 0 (by omega);simp only [QbH] at h1;simp only [fi,h1,this];simp;omega
theorem K6 {α:Type}{q:α->Bool}:∀ {xs:List α},(∀ j (hj:j<xs.length),q xs[j]=false)->fi q xs=-1
 | [],_=>rfl
 | x :: xs,h=>by
  have h1:=h 0 (by simp);simp only [QbH] at h1;have:=K6 (xs:=xs) λj hj=>by have:=h (j+1) (by simpa using hj); simpa only [QbI] using this
  simp [fi,h1,this]
theorem Cl.cv {s:St}{b:Nat}{c c':List AV}(h:Cl s b c)(e:c=c'):Cl s b c':=e▸h
theorem jE {s:St}{b c o:Nat}{vs cs:List AV}(h:c≠b):Cl (wr s b o vs) c cs=Cl s c cs:=
 propext ⟨λC=>⟨C.lt,zx (Q4 h).symm C.row,(ym (Q4 h).symm).trans C.len,λi hi=>(yd (Q4 h).symm i).trans (C.cell i hi)⟩,λC=>C.wrO h o vs⟩
theorem jG {s:St}{c:Nat}{ds cs:List AV}(h:c<s.nx):Cl (nw s ds) c cs=Cl s c cs:=
 propext ⟨λC=>⟨h,zx (Q6 (Qcg h)).symm C.row,(ym (Q6 (Qcg h)).symm).trans C.len,λi hi=>(yd (Q6 (Qcg h)).symm i).trans (C.cell i hi)⟩,λC=>C.nw ds⟩
theorem jD {s:St}{c:Nat}{cs:List AV}:Cl s.bare c cs=Cl s c cs:=propext ⟨λh=>⟨h.lt,h.row,h.len,h.cell⟩,λh=>⟨h.lt,h.row,h.len,h.cell⟩⟩
end
end Go.Sy
end
noncomputable section
namespace Go.Sy
open Go.Ev Go.RowKit
def Lv (lo hi:Nat)(s:St)(v:AV)(n:Nat)(cs:List AV)(z:Nat):Prop:=(v=.nils∧n=0∧cs=[])∨∃ b,v=.slice b 0 n n z false∧0<n∧cs.length=n * z∧Cl s b cs∧lo≤b∧b<hi
def aps (v:AV)(s:St)(news:List AV):St:=match v with | .slice b _ _ _ _ _=>ap s b news | _=>nw s news
def apv (z:Nat)(v:AV)(s:St):AV:=match v with | .slice _ _ n _ _ _=>.slice s.nx 0 (n+1) (n+1) z false | _=>.slice s.nx 0 1 1 z false
section
variable {lo hi n z:Nat} {s:St} {v:AV} {cs:List AV}
theorem Lv.nil:Lv lo hi s .nils 0 [] z:=.inl ⟨rfl,rfl,rfl⟩
theorem jP {b o:Nat}{vs:List AV}(h:b<lo∨hi≤b):Lv lo hi (wr s b o vs) v n cs z=Lv lo hi s v n cs z:=by
 unfold Lv;refine propext ⟨λk=>k.imp id λ⟨c,h1,h2,h3,h4,h5,h6⟩=>⟨c,h1,h2,h3,?_,h5,h6⟩,λk=>k.imp id λ⟨c,h1,h2,h3,h4,h5,h6⟩=>⟨c,h1,h2,h3,?_,h5,h6⟩⟩
 ·rwa [jE (by omega)] at h4
 ·rwa [jE (by omega)]
theorem jQ {ds:List AV}(h:hi≤s.nx):Lv lo hi (nw s ds) v n cs z=Lv lo hi s v n cs z:=by
 unfold Lv;refine propext ⟨λk=>k.imp id λ⟨c,h1,h2,h3,h4,h5,h6⟩=>⟨c,h1,h2,h3,?_,h5,h6⟩,λk=>k.imp id λ⟨c,h1,h2,h3,h4,h5,h6⟩=>⟨c,h1,h2,h3,?_,h5,h6⟩⟩
 ·rwa [jG (by omega)] at h4
 ·rwa [jG (by omega)]
theorem j6:Lv lo hi s.bare v n cs z=Lv lo hi s v n cs z:=by unfold Lv; simp only [jD]
theorem Lv.up {hi':Nat}(h:Lv lo hi s v n cs z)(h2:hi≤hi'):Lv lo hi' s v n cs z:=h.imp id λ⟨c,h1,h2,h3,h4,h5,h6⟩=>⟨c,h1,h2,h3,h4,h5,by omega⟩
theorem jo (v:AV)(s:St)(news:List AV):(aps v s news).nx=s.nx+1:=by unfold aps; split <;> rfl
theorem VZ (v:AV)(s:St)(news:List AV):(aps v s news).fr=s.fr:=by unfold aps; split <;> rfl
theorem Lv.app {news:List AV}(h:Lv lo hi s v n cs z)(hl:news.length=z)(h1:lo≤s.nx):Lv lo (s.nx+1) (aps v s news) (apv z v s) (n+1) (cs ++ news) z:=by
 rcases h with ⟨rfl,rfl,rfl⟩ | ⟨b,rfl,h2,h3,h4,h5,h6⟩
 ·exact .inr ⟨s.nx,rfl,by omega,by simp [hl],Cl.new s news,h1,by omega⟩
 ·exact .inr ⟨s.nx,rfl,by omega,by rw [Qak,h3,hl,Qbr],h4.ap news,h1,by omega⟩
theorem Cl.apO {s:St}{b c:Nat}{cs vs:List AV}(h:Cl s c cs)(hb:c≠b):Cl (Go.Sy.ap s b vs) c cs:=
 have e:jn (Go.Sy.ap s b vs).h c=jn s.h c:=jak (Qcg h.lt) hb
 ⟨Nat.lt_succ_of_lt h.lt,zx e h.row,(ym e).trans h.len,λi hi=>(yd e i).trans (h.cell i hi)⟩
theorem Cl.aps {c:Nat}{ds news:List AV}(C:Cl s c ds)(h:Lv lo hi s v n cs z)(hc:c<lo∨hi≤c):Cl (Go.Sy.aps v s news) c ds:=by
 rcases h with ⟨rfl,rfl,rfl⟩ | ⟨b,rfl,h2,h3,h4,h5,h6⟩
 ·exact C.nw news
 ·exact C.apO (b:=b) (by omega)
theorem Lv.aps {lo' hi' n' z':Nat}{v':AV}{cs' news:List AV}(V:Lv lo' hi' s v' n' cs' z')(h:Lv lo hi s v n cs z)(hc:hi'≤lo∨hi≤lo'):Lv lo' hi' (Go.Sy.aps v s news) v' n' cs' z':=
 V.imp id λ⟨c,h1,h2,h3,h4,h5,h6⟩=>⟨c,h1,h2,h3,h4.aps h (by omega),h5,h6⟩
theorem Lv.fz {m d:Nat}(h:Lv lo hi s v n cs z)(hm:m≤lo)(hp:cs.all pc=true):FzD m (d+2) s v (.lst n cs):=by
 rcases h with ⟨rfl,rfl,rfl⟩ | ⟨b,rfl,h2,h3,h4,h5,h6⟩
 ·exact FzD.nils
 ·refine FzD.slice h4.rw_ (QbY h3.symm) (by omega) ?_;rw [←h3,QaK];exact FzsD.pc hp
variable {K:AV->St->Prop}
theorem vU {bytes bv xc:Nat}{xx:Bool}(h:Lv lo hi s v n cs z)(hz:0<z)(hby:(n+1) * bytes≤140737488355328)(h63:n+1≤9223372036854775807)(hv:z≤qq s.h bv) :
  jf (jbR z bytes v (.slice bv 0 1 xc z xx) s) K=K (apv z v s) (aps v s (rats s.h bv 0 z)):=by
 obtain ⟨m,zl,zz,ks,hg⟩:=Q2 (h:=s.h) (b:=bv) (by omega);rw [Jz hg] at hv;have e0:Qat 1 z=z:=Nat.one_mul z;have e1:Qao (QaD 0 z) m=true:=y7 (by show 0+z≤m; omega);have er:jM zl zz ks z 0=rats s.h bv 0 z:=by
  rw [Y2,qr];exact Qbs λi _=>by rw [XV hg]
 have el:(rats s.h bv 0 z).length=z:=XU _ _ _ _;have e3:Qar (jH (rats s.h bv 0 z)) z=true:=Uh (by rw [jL,el]);rcases h with ⟨rfl,rfl,rfl⟩ | ⟨b,rfl,h2,h3,h4,h5,h6⟩
 ·have e4:Qar 1 0=false:=rfl;have e5:Qao (Qat 1 bytes) 140737488355328=true:=y7 (by show 1 * bytes≤_; omega);have e6:Qao 1 9223372036854775807=true:=y7 (by decide);simp only [jbR,Xm,firstCells,hg,yI,jp,e0,e1,cond_true,er,yM,e3,e4,cond_false,e5,e6,St.alloc_eq,jf];unfold apv Go.Sy.aps nw;rw [el]
 ·obtain ⟨m',zl',zz',ks',hg'⟩:=h4.row;have h4l:=h4.len;rw [Jz hg'] at h4l;have e4:Qao (QaD n 1) n=false:=jk9 (Nat.lt_succ_self _);have e5:Qao (Qat (QaD n 1) bytes) 140737488355328=true:=y7 hby;have e6:Qao (QaD n 1) 9223372036854775807=true:=y7 h63;have e7:Qar z z=true:=Uh rfl;have e8:Qar 0 0=true:=rfl;have e9:Qar (Qat n z) m'=true:=Uh (by rw [h4l,h3]; rfl);simp only [jbR,Xm,firstCells,hg,yI,jp,e0,e1,cond_true,er,yM,e3,hg',e4,cond_false,e5,e6,e7,e8,e9,St.put_eq,St.alloc_eq,jf];have e10:Qat (QaD n 1) z=m'+(rats s.h bv 0 z).length:=by rw [el,h4l,h3]; exact Qbr n z
  rw [e10];have ea:ap s b (rats s.h bv 0 z)=⟨s.nx+1,(j1 (jy s.nx)).run (.row (m'+(rats s.h bv 0 z).length) zl' zz' (qa (rats s.h bv 0 z) ks' m')) ((j1 (jy b)).run .dead s.h),min s.dirty b,s.fr⟩:=by
   unfold ap apO;rw [hg']
  show _=K (.slice s.nx 0 (n+1) (n+1) z false) (ap s b (rats s.h bv 0 z));rw [ea]
theorem Lv.get (h:Lv lo hi s v n cs z)(st:St)(news:List AV)(c:Nat)(hc:c<lo∨hi≤c)(hn:c<st.nx):jn (Go.Sy.aps v st news).h c=jn st.h c:=by
 rcases h with ⟨rfl,rfl,rfl⟩ | ⟨b,rfl,h2,h3,h4,h5,h6⟩
 ·exact Q6 (Qcg hn)
 ·exact jak (Qcg hn) (by omega)
theorem Lv.at (h:Lv lo hi s v n cs z)(st:St)(news:List AV)(c i:Nat)(hc:c<lo∨hi≤c)(hn:c<st.nx):rat (Go.Sy.aps v st news).h c i=rat st.h c i:=yd (h.get st news c hc hn) i
theorem Lv.ln (h:Lv lo hi s v n cs z)(st:St)(news:List AV)(c:Nat)(hc:c<lo∨hi≤c)(hn:c<st.nx):qq (Go.Sy.aps v st news).h c=qq st.h c:=ym (h.get st news c hc hn)
theorem Lv.rts (h:Lv lo hi s v n cs z)(st:St)(news:List AV)(c o k:Nat)(hc:c<lo∨hi≤c)(hn:c<st.nx):rats (Go.Sy.aps v st news).h c o k=rats st.h c o k:=Yj (h.get st news c hc hn) k o
theorem Lv.cl (h:Lv lo hi s v n cs z)(st:St)(news ds:List AV)(c:Nat)(hc:c<lo∨hi≤c)(hn:c<st.nx):Cl (Go.Sy.aps v st news) c ds=Cl st c ds:=
 propext ⟨λC=>have e:=h.get st news c hc hn; ⟨hn,zx e.symm C.row,(ym e.symm).trans C.len,λi hi=>(yd e.symm i).trans (C.cell i hi)⟩,λC=>have e:=h.get st news c hc hn; ⟨by rw [jo]; exact Nat.lt_succ_of_lt hn,zx e C.row,(ym e).trans C.len,λi hi=>(yd e i).trans (C.cell i hi)⟩⟩
theorem Lv.put {news:List AV}(h:Lv lo hi s v n cs z)(hl:news.length=z)(h1:lo≤s.nx){m:Nat}(hm:m=s.nx+1):Lv lo m (Go.Sy.aps v s news) (apv z v s) (n+1) (cs ++ news) z:=by rw [hm]; exact h.app hl h1
end
end Go.Sy
end
noncomputable section
namespace Go.Sy
open Go.Ev Go.RowKit
def kl (b:Nat)(s:St):St:=qG [b] s
section
variable {lo hi n z b c:Nat} {s:St} {v:AV} {cs:List AV}
theorem jk (b:Nat)(s:St):(kl b s).nx=s.nx:=nr rfl
theorem K2 (b:Nat)(s:St):(kl b s).fr=s.fr:=nr rfl
theorem ut (h:c≠b):jn (kl b s).h c=jn s.h c:=by
 show jn ((j1 (jy b)).run .dead s.h) c=_;rw [jZ,if_neg h]
theorem gb {i:Nat}(h:c≠b):rat (kl b s).h c i=rat s.h c i:=yd (ut h) i
theorem wO (h:c≠b):qq (kl b s).h c=qq s.h c:=ym (ut h)
theorem Y1 {o k:Nat}(h:c≠b):rats (kl b s).h c o k=rats s.h c o k:=Yj (ut h) _ _
theorem qv (h:c≠b):Cl (kl b s) c cs=Cl s c cs:=
 propext ⟨λC=>have e:=ut (s:=s) h; ⟨C.lt,zx e.symm C.row,(ym e.symm).trans C.len,λi hi=>(yd e.symm i).trans (C.cell i hi)⟩,λC=>have e:=ut (s:=s) h; ⟨C.lt,zx e C.row,(ym e).trans C.len,λi hi=>(yd e i).trans (C.cell i hi)⟩⟩
theorem j3 (h:b<lo∨hi≤b):Lv lo hi (kl b s) v n cs z=Lv lo hi s v n cs z:=by
 unfold Lv;refine propext ⟨λk=>k.imp id λ⟨c,h1,h2,h3,h4,h5,h6⟩=>⟨c,h1,h2,h3,?_,h5,h6⟩,λk=>k.imp id λ⟨c,h1,h2,h3,h4,h5,h6⟩=>⟨c,h1,h2,h3,?_,h5,h6⟩⟩
 ·rwa [qv (by omega)] at h4
 ·rwa [qv (by omega)]
theorem JU (h0:0<cs.length)(h1:b<s.nx)(h2:qq s.h b=cs.length)(h3:rats s.h b 0 cs.length=cs):Cl s b cs:=Cl.of_rats h1 h2 rfl h0 h3
def df (x:FuncId×List AV)(s:St):St:=⟨s.nx,s.h,s.dirty,x :: s.fr⟩
theorem ZO (x:FuncId×List AV)(s:St):(df x s).nx=s.nx:=nr rfl
theorem UT (x:FuncId×List AV)(s:St):(df x s).h=s.h:=nr rfl
theorem K3 (x:FuncId×List AV)(s:St):(df x s).fr=x :: s.fr:=nr rfl
theorem w5 (f:FuncId)(caps vs:List AV){K:AV->St->Prop}:uJ (.fn f caps) vs s K=K j8 (df (f,vs ++ caps) s):=nr rfl
theorem jdD:st0.fr=[]:=nr rfl
theorem jfn {m k:Nat}{x:Bool}{d:Nat}(C:Cl s b cs)(hl:n * z=cs.length)(hp:cs.all pc=true):fz (d+2) s.h (.slice b 0 n m z x)=some (.lst n cs,[b]):=by
 obtain ⟨q,zl,zz,ct,h1,h2,h3⟩:=C.rw_.len;show (match jn s.h b with
  | some (.row n' zl z' cs)=>cond (Qao (QaD 0 (Qat n z)) n') ((fzs (fz (d+1) s.h) (jM zl z' cs (Qat n z) 0)).map λ(p:List AV×List Nat)=>(AV.lst n p.1,b :: p.2)) none
  | _=>none)=_
 rw [h1];dsimp only;have e1:Qao (QaD 0 (Qat n z)) q=true:=by rw [j5]; show 0+n * z≤q; omega
 have e2:jM zl zz ct (Qat n z) 0=cs:=by
  rw [show Qat n z=q by show n * z=q; omega]; exact h2
 rw [e1,e2,uv hp]; rfl
def Fza (s:St)(aZ' aZ:List AV)(ks:List Nat):Prop:=fzs (fz 9 s.h) aZ'=some (aZ,ks)
theorem Fza.nil:Fza s [] [] []:=rfl
theorem Fza.pa {aZ' aZ:List AV}{ks:List Nat}(hv:pa v=true)(h:Fza s aZ' aZ ks):Fza s (v :: aZ') (v :: aZ) ks:=by
 unfold Fza at *;simp only [fzs];rw [jbg (d:=7) hv,h]; rfl
theorem Fza.sl {aZ' aZ:List AV}{ks:List Nat}{m:Nat}{x:Bool}(C:Cl s b cs)(hl:n * z=cs.length)(hp:cs.all pc=true)(h:Fza s aZ' aZ ks):Fza s (.slice b 0 n m z x :: aZ') (.lst n cs :: aZ) (b :: ks):=by
 unfold Fza at *;simp only [fzs];rw [jfn (d:=7) (k:=0) C hl hp,h]; rfl
variable {P:Program} {base:Bs}
theorem gP {f:FuncId}{F:XF}(hl:ju P f=some F)(hm:base.pur f=1){aZ:List AV}{o:Oc}
 (h:xC P base F.body (jj F.ps aZ) st0 (GM P base F.res (Yg G0 o) (Yb G0 o)) (VC P base F.res (Yg G0 o) (Yb G0 o))):PX P base f aZ o:=PX.of hm (jfD hl h)
theorem PX.xf {f:FuncId}{aZ aZ':List AV}{ks:List Nat}{o:Oc}(h:PX P base f aZ o){st:St}(hf:Fza st aZ' aZ ks)(hb:∀ st,base.run f aZ' st=.no)(K Kp:AV->St->Prop):XB P base f aZ' st K Kp=Yr o K Kp (qG ks st):=h.cxk hf hb K Kp
end
end Go.Sy
end
noncomputable section
namespace Go.Sy
open Go.Ev
theorem Cl.q {s:St}{b:Nat}{cs:List AV}(h:Cl s b cs):type_of% (aI h.len (aI h.cell h.ratsP)):=aI h.len (aI h.cell h.ratsP)
theorem Cl.r {s:St}{b:Nat}{cs:List AV}(h:Cl s b cs):type_of% (aI h.len h.ratsP):=aI h.len h.ratsP
end Go.Sy
end
noncomputable section
namespace Go.Sy
open Go.Ev
theorem rzA:type_of% (aI (@jah) (aI (@gn) (aI (@Kv) (aI (@jb3) (aI (@jb1) (aI (@Ku) (aI (@uZ) (aI (@gq) (aI (@jfR) (aI (@gw) (aI (@Kw) (aI (@uY) (aI (@HE) (aI (@jb4) (aI (@gy) (aI (@gx) (aI (@jb2) (aI (@gv) (aI (@gu) (aI (@HC) (aI (@x_i) (aI (@jb5) (aI (@jfS) (aI (@HD) (aI (@gm) (aI (@gk) (aI (@jb0) (aI (@Y3) (aI (@Wc) (aI (@HW) (aI (@kj) (aI (@kg) (aI (@ug) (aI (@ki) (aI (@jjq) (aI (@ja0) (aI (@jaY) (aI (@jcX) (aI (@jaZ) (aI (@jcY) (aI (@HY) (aI (@UJ) (aI (@Wd) (aI (@jgj) (aI (@jgi) (aI (@HZ) (aI (@H0) (aI (@jcW) (aI (@jcV) (aI (@jc2) (aI (@jc1) (aI (@jc0) (aI (@jcZ) (aI (@Kh) (aI (@Ki) (aI (@Kj) (aI (@jaB) (@jaA)))))))))))))))))))))))))))))))))))))))))))))))))))))))))):=aI (@jah) (aI (@gn) (aI (@Kv) (aI (@jb3) (aI (@jb1) (aI (@Ku) (aI (@uZ) (aI (@gq) (aI (@jfR) (aI (@gw) (aI (@Kw) (aI (@uY) (aI (@HE) (aI (@jb4) (aI (@gy) (aI (@gx) (aI (@jb2) (aI (@gv) (aI (@gu) (aI (@HC) (aI (@x_i) (aI (@jb5) (aI (@jfS) (aI (@HD) (aI (@gm) (aI (@gk) (aI (@jb0) (aI (@Y3) (aI (@Wc) (aI (@HW) (aI (@kj) (aI (@kg) (aI (@ug) (aI (@ki) (aI (@jjq) (aI (@ja0) (aI (@jaY) (aI (@jcX) (aI (@jaZ) (aI (@jcY) (aI (@HY) (aI (@UJ) (aI (@Wd) (aI (@jgj) (aI (@jgi) (aI (@HZ) (aI (@H0) (aI (@jcW) (aI (@jcV) (aI (@jc2) (aI (@jc1) (aI (@jc0) (aI (@jcZ) (aI (@Kh) (aI (@Ki) (aI (@Kj) (aI (@jaB) (@jaA)))))))))))))))))))))))))))))))))))))))))))))))))))))))))
theorem rzB:type_of% (aI (@jaz) (aI (@Hc) (aI (@jjs) (aI (@jjr) (aI (@jeX) (aI (@jfl) (aI (@jdr) (aI (@jgz) (aI (@jgt) (aI (@jgs) (aI (@jjN) (aI (@jds) (aI (@KY) (aI (@jgq) (aI (@jdm) (aI (@jjM) (aI (@jgy) (aI (@jgw) (aI (@jdy) (aI (@jdx) (aI (@jdw) (aI (@jdv) (aI (@jdu) (aI (@jaf) (aI (@jgx) (aI (@jgr) (aI (@jdt) (aI (@Gu) (aI (@Gt) (aI (@Gs) (aI (@jdp) (aI (@jdo) (aI (@jdn) (aI (@Gv) (aI (@kP) (aI (@jgv) (aI (@jag) (aI (@jgA) (aI (@HL) (aI (@jdz) (aI (@jdq) (aI (@jgu) (aI (@jgB) (aI (@jiV) (aI (@jfY) (aI (@jaN) (aI (@jf3) (aI (@jf0) (aI (@jf4) (aI (@jf6) (aI (@jfZ) (aI (@HJ) (aI (@gB) (aI (@gC) (aI (@jcu) (aI (@jb9) (aI (@jch) (@jcg)))))))))))))))))))))))))))))))))))))))))))))))))))))))))):=aI (@jaz) (aI (@Hc) (aI (@jjs) (aI (@jjr) (aI (@jeX) (aI (@jfl) (aI (@jdr) (aI (@jgz) (aI (@jgt) (aI (@jgs) (aI (@jjN) (aI (@jds) (aI (@KY) (aI (@jgq) (aI (@jdm) (aI (@jjM) (aI (@jgy) (aI (@jgw) (aI (@jdy) (aI (@jdx) (aI (@jdw) (aI (@jdv) (aI (@jdu) (aI (@jaf) (aI (@jgx) (aI (@jgr) (aI (@jdt) (aI (@Gu) (aI (@Gt) (aI (@Gs) (aI (@jdp) (aI (@jdo) (aI (@jdn) (aI (@Gv) (aI (@kP) (aI (@jgv) (aI (@jag) (aI (@jgA) (aI (@HL) (aI (@jdz) (aI (@jdq) (aI (@jgu) (aI (@jgB) (aI (@jiV) (aI (@jfY) (aI (@jaN) (aI (@jf3) (aI (@jf0) (aI (@jf4) (aI (@jf6) (aI (@jfZ) (aI (@HJ) (aI (@gB) (aI (@gC) (aI (@jcu) (aI (@jb9) (aI (@jch) (@jcg)))))))))))))))))))))))))))))))))))))))))))))))))))))))))
theorem rzC:type_of% (aI (@jcj) (aI (@jci) (aI (@jck) (aI (@jaO) (aI (@gD) (aI (@jcl) (aI (@jcp) (aI (@jco) (aI (@jf2) (aI (@jcr) (aI (@HK) (aI (@jcf) (aI (@jf5) (aI (@jcq) (aI (@HN) (aI (@jct) (aI (@jcs) (aI (@jf1) (aI (@jce) (aI (@HM) (aI (@jcd) (aI (@jcc) (aI (@jcb) (aI (@jay) (aI (@jki) (aI (@jkj) (aI (@jd0) (aI (@VW) (aI (@VX) (aI (@jgn) (aI (@jgm) (aI (@jdP) (aI (@jc8) (aI (@jbT) (aI (@jgS) (aI (@jkq) (aI (@jbU) (aI (@XT) (aI (@XR) (aI (@Y0) (aI (@XQ) (aI (@XL) (aI (@XP) (aI (@gb) (aI (@wO) (aI (@Y1) (aI (@ZO) (aI (@UT) (aI (@K3) (aI (@K2) (aI (@VZ) (aI (@jo) (aI (@jk) (aI (@XJ) (aI (@Xe) (aI (@X6) (aI (@YB) (@YA)))))))))))))))))))))))))))))))))))))))))))))))))))))))))):=aI (@jcj) (aI (@jci) (aI (@jck) (aI (@jaO) (aI (@gD) (aI (@jcl) (aI (@jcp) (aI (@jco) (aI (@jf2) (aI (@jcr) (aI (@HK) (aI (@jcf) (aI (@jf5) (aI (@jcq) (aI (@HN) (aI (@jct) (aI (@jcs) (aI (@jf1) (aI (@jce) (aI (@HM) (aI (@jcd) (aI (@jcc) (aI (@jcb) (aI (@jay) (aI (@jki) (aI (@jkj) (aI (@jd0) (aI (@VW) (aI (@VX) (aI (@jgn) (aI (@jgm) (aI (@jdP) (aI (@jc8) (aI (@jbT) (aI (@jgS) (aI (@jkq) (aI (@jbU) (aI (@XT) (aI (@XR) (aI (@Y0) (aI (@XQ) (aI (@XL) (aI (@XP) (aI (@gb) (aI (@wO) (aI (@Y1) (aI (@ZO) (aI (@UT) (aI (@K3) (aI (@K2) (aI (@VZ) (aI (@jo) (aI (@jk) (aI (@XJ) (aI (@Xe) (aI (@X6) (aI (@YB) (@YA)))))))))))))))))))))))))))))))))))))))))))))))))))))))))
theorem rzD:type_of% (aI (@jg) (aI (@jh) (aI (@jo) (aI (@jm) (aI (@wQ) (aI (@Y5) (aI (@Y4) (aI (@Zr) (aI (@Un) (aI (@Um) (aI (@WA) (aI (@Uk) (aI (@Ul) (aI (@Uj) (aI (@Xa) (aI (@Z2) (aI (@ZY) (aI (@YR) (aI (@Yh) (aI (@YQ) (aI (@Z0) (aI (@Z1) (aI (@Hj) (aI (@Hi) (aI (@jfI) (aI (@jbV) (aI (@ge) (aI (@Vw) (aI (@Wb) (aI (@jgh) (aI (@jgg) (aI (@K1) (aI (@K0) (aI (@jam) (aI (@qT) (aI (@jcU) (aI (@HX) (aI (@h_0) (aI (@h_1) (aI (@jjT) (aI (@jjS) (aI (@jjV) (aI (@jjU) (aI (@jjD) (aI (@jjC) (aI (@ji8) (aI (@ji7) (aI (@ji6) (aI (@jiU) (aI (@jiS) (aI (@jfV) (aI (@jiT) (aI (@jfW) (aI (@jcN) (aI (@UC) (aI (@UB) (aI (@U3) (@jj3)))))))))))))))))))))))))))))))))))))))))))))))))))))))))):=aI (@jg) (aI (@jh) (aI (@jo) (aI (@jm) (aI (@wQ) (aI (@Y5) (aI (@Y4) (aI (@Zr) (aI (@Un) (aI (@Um) (aI (@WA) (aI (@Uk) (aI (@Ul) (aI (@Uj) (aI (@Xa) (aI (@Z2) (aI (@ZY) (aI (@YR) (aI (@Yh) (aI (@YQ) (aI (@Z0) (aI (@Z1) (aI (@Hj) (aI (@Hi) (aI (@jfI) (aI (@jbV) (aI (@ge) (aI (@Vw) (aI (@Wb) (aI (@jgh) (aI (@jgg) (aI (@K1) (aI (@K0) (aI (@jam) (aI (@qT) (aI (@jcU) (aI (@HX) (aI (@h_0) (aI (@h_1) (aI (@jjT) (aI (@jjS) (aI (@jjV) (aI (@jjU) (aI (@jjD) (aI (@jjC) (aI (@ji8) (aI (@ji7) (aI (@ji6) (aI (@jiU) (aI (@jiS) (aI (@jfV) (aI (@jiT) (aI (@jfW) (aI (@jcN) (aI (@UC) (aI (@UB) (aI (@U3) (@jj3)))))))))))))))))))))))))))))))))))))))))))))))))))))))))
theorem rzL:type_of% (aI (@ZO) (aI (@UT) (aI (@jg) (aI (@jh) (aI (@jo) (aI (@jk) (aI (@jm) (aI (@wQ) (aI (@qT) (aI (@wO) (aI (@Y5) (aI (@Y4) (aI (@Zr) (aI (@XT) (aI (@XR) (aI (@Y0) (aI (@XQ) (aI (@XL) (aI (@XP) (aI (@Y1) (aI (@XJ) (aI (@Xe) (aI (@X6) (aI (@YB) (aI (@YA) (aI (@U3) (aI (@UB) (@UC)))))))))))))))))))))))))))):=aI (@ZO) (aI (@UT) (aI (@jg) (aI (@jh) (aI (@jo) (aI (@jk) (aI (@jm) (aI (@wQ) (aI (@qT) (aI (@wO) (aI (@Y5) (aI (@Y4) (aI (@Zr) (aI (@XT) (aI (@XR) (aI (@Y0) (aI (@XQ) (aI (@XL) (aI (@XP) (aI (@Y1) (aI (@XJ) (aI (@Xe) (aI (@X6) (aI (@YB) (aI (@YA) (aI (@U3) (aI (@UB) (@UC)))))))))))))))))))))))))))
theorem rzN:type_of% (aI (@jg) (aI (@jh) (aI (@jo) (aI (@jk) (aI (@jm) (aI (@qT) (aI (@ZO) (aI (@K1) (aI (@K0) (aI (@K3) (aI (@K2) (aI (@VZ) (@jdD))))))))))))):=aI (@jg) (aI (@jh) (aI (@jo) (aI (@jk) (aI (@jm) (aI (@qT) (aI (@ZO) (aI (@K1) (aI (@K0) (aI (@K3) (aI (@K2) (aI (@VZ) (@jdD))))))))))))
theorem rzG:type_of% (aI (@ZO) (aI (@UT) (aI (@XT) (aI (@XR) (aI (@Y0) (aI (@XQ) (aI (@XL) (aI (@XP) (aI (@Y1) (aI (@U3) (aI (@UB) (aI (@UC) (aI (@Un) (aI (@Um) (aI (@WA) (aI (@Uk) (aI (@Ul) (aI (@Uj) (aI (@gb) (aI (@jg) (aI (@jh) (aI (@jo) (aI (@jk) (aI (@wO) (aI (@jm) (aI (@wQ) (aI (@qT) (aI (@Y5) (aI (@Y4) (aI (@Zr) (aI (@Xa) (aI (@Z2) (aI (@ZY) (aI (@YR) (aI (@Yh) (aI (@YQ) (aI (@Z0) (aI (@Z1) (aI (@Gp) (aI (@Gj) (aI (@kO) (aI (@VQ) (aI (@kN) (aI (@Gk) (aI (@Gn) (aI (@Gm) (aI (@kv) (aI (@kq) (aI (@VA) (aI (@WI) (aI (@Vz) (aI (@kr) (aI (@ku) (aI (@kz) (aI (@Vw) (aI (@Wb) (aI (@X6) (aI (@YB) (aI (@Xe) (@YA)))))))))))))))))))))))))))))))))))))))))))))))))))))))))))):=aI (@ZO) (aI (@UT) (aI (@XT) (aI (@XR) (aI (@Y0) (aI (@XQ) (aI (@XL) (aI (@XP) (aI (@Y1) (aI (@U3) (aI (@UB) (aI (@UC) (aI (@Un) (aI (@Um) (aI (@WA) (aI (@Uk) (aI (@Ul) (aI (@Uj) (aI (@gb) (aI (@jg) (aI (@jh) (aI (@jo) (aI (@jk) (aI (@wO) (aI (@jm) (aI (@wQ) (aI (@qT) (aI (@Y5) (aI (@Y4) (aI (@Zr) (aI (@Xa) (aI (@Z2) (aI (@ZY) (aI (@YR) (aI (@Yh) (aI (@YQ) (aI (@Z0) (aI (@Z1) (aI (@Gp) (aI (@Gj) (aI (@kO) (aI (@VQ) (aI (@kN) (aI (@Gk) (aI (@Gn) (aI (@Gm) (aI (@kv) (aI (@kq) (aI (@VA) (aI (@WI) (aI (@Vz) (aI (@kr) (aI (@ku) (aI (@kz) (aI (@Vw) (aI (@Wb) (aI (@X6) (aI (@YB) (aI (@Xe) (@YA)))))))))))))))))))))))))))))))))))))))))))))))))))))))))))
theorem rzP:type_of% (aI (@QaL) (aI (@QbV) (aI (@Nat.mul_one) (aI (@Qby) (aI (@Nat.one_mul) (aI (@Int.toNat_natCast) (aI (@Int.toNat_zero) (aI (@Int.toNat_one) (aI (@true_and) (aI (@and_true) (aI (@and_self) (aI (@Bool.not_true) (aI (@Bool.not_false) (aI (@QaV) (aI (@Qbb) (aI (@decide_eq_true_eq) (aI (@decide_eq_false_iff_not) (aI (@Nat.beq_eq) (@not_false_eq_true))))))))))))))))))):=aI (@QaL) (aI (@QbV) (aI (@Nat.mul_one) (aI (@Qby) (aI (@Nat.one_mul) (aI (@Int.toNat_natCast) (aI (@Int.toNat_zero) (aI (@Int.toNat_one) (aI (@true_and) (aI (@and_true) (aI (@and_self) (aI (@Bool.not_true) (aI (@Bool.not_false) (aI (@QaV) (aI (@Qbb) (aI (@decide_eq_true_eq) (aI (@decide_eq_false_iff_not) (aI (@Nat.beq_eq) (@not_false_eq_true))))))))))))))))))
end Go.Sy
end
noncomputable section
namespace Go.Sy
open Go.Ev
theorem rzQ:type_of% (aI (@eq_self.{1}) (aI (@Qag.{0}) (aI (@Qah.{0}) (aI (@Qal.{0}) (aI (@Qap.{0}) (aI (@QaB.{0}) (aI (@QaG.{0}) (aI (@Qba.{0}) (aI (@cond_true.{1}) (aI (@cond_false.{1}) (@ne_eq.{1}))))))))))):=aI (@eq_self.{1}) (aI (@Qag.{0}) (aI (@Qah.{0}) (aI (@Qal.{0}) (aI (@Qap.{0}) (aI (@QaB.{0}) (aI (@QaG.{0}) (aI (@Qba.{0}) (aI (@cond_true.{1}) (aI (@cond_false.{1}) (@ne_eq.{1}))))))))))
theorem rzZ:type_of% (aI (@rzA) (aI (@rzB) (aI (@rzC) (aI (@rzD) (aI (@rzP) (@rzQ)))))):=aI (@rzA) (aI (@rzB) (aI (@rzC) (aI (@rzD) (aI (@rzP) (@rzQ)))))
def oo (d:Nat)(i:Ins):XS:=⟨some d,false,none,.i i⟩
def oO (d:Nat)(i:Ins):XS:=⟨some d,true,none,.i i⟩
def ot (d x:Nat):XS:=⟨some d,false,none,.i (.mv (.t x))⟩
def oT (d x:Nat):XS:=⟨some d,true,none,.i (.mv (.t x))⟩
def os (i:Ins):XS:=⟨none,false,none,.i i⟩
def og (d g:Nat)(i:Ins):XS:=⟨some d,false,some (g,true),.i i⟩
def oh (d g:Nat)(i:Ins):XS:=⟨some d,false,some (g,false),.i i⟩
def oc (d f:Nat)(l:List A):XS:=⟨some d,false,none,.call (.c (.fn f [])) l⟩
def on (d:Nat):XD:=⟨⟨some d,false,none,.i (.mv (.c (.tup [])))⟩,none,0,[]⟩
def oN:XD:=⟨⟨none,false,none,.i (.mv (.c (.tup [])))⟩,none,0,[]⟩
def oP (x:XS):XD×Option (List XD):=(⟨x,none,0,[]⟩,none)
theorem dzA {p:Prop}(h:p:=by first | assumption | decide | omega | (simp only [rzN,Qal,Qap]; first | done | omega) | (apply JU <;> first | omega | ((simp (disch:=first | assumption | omega | (simp only [rzN,Qal,Qap]; first | done | omega)) only [rzL,Qal,Qap,QaL,Qab ]) <;> first | done | omega)) | (simp (disch:=first | assumption | omega | (simp only [rzN,Qal,Qap]; first | done | omega)) only [rzG,Qag,Qah,Qac,Qbn,Qal,Qap,QaB,QaG]; first | done | omega | decide)):p:=h
theorem Zy {p:Prop}(h:p:=by first | assumption | decide | omega | (simp only [zz,rzN,Qal,Qap]; first | done | omega) | (apply JU <;> first | omega | ((simp (disch:=first | assumption | omega | (simp only [zz,rzN,Qal,Qap]; first | done | omega)) only [rzL,Qal,Qap,QaL,Qab,zz ]) <;> first | done | omega)) | (simp (disch:=first | assumption | omega | (simp only [zz,rzN,Qal,Qap]; first | done | omega)) only [zz,rzG,Qag,Qah,Qac,Qbn,Qal,Qap,QaB,QaG]; first | done | omega | decide)):p:=h
end Go.Sy
end
noncomputable section
namespace Go.Sy
open Go.Ev Go.Proofs
def ja2 (f:FuncId):Nat:=if f∈[9,10,11,12,13,14,15,16,17,18,19,20,22,23,24,25,26,27,28,29,30,31,32,34,35,38,46,47,50,51,52,53,54,55,56,57,58,65,66,67,68,69,70,71,72,77,81,82,83,84,85,92,94,95,96,98,99,102,103,107,108,109,110,111,112,114,115,116,117,140,119,120,121,122,124,125,130,132,134,135,137,138,139,144,149,154,157,160,161,162,166,177,179,181,182,101,106,142] then 1
 else if f∈[37,48,49,76,78,79,80,93,126,127,128,129,133,158,159,39,40,41,42,43,44,45,86,87,88,89,90,91,131,155,156,178,74,75,118] then 3 else if f∈[33,104,136,141,100,143,105,165] then 5 else if f∈[97,60] then 2 else 0
def WW (f:FuncId):Bool:=!(Qar f 8) && !(Qar f 21) && !(Qar f 123)
structure NB (base:Bs):Prop where
 nob:∀ f,WW f=true->∀ args st,base.run f args st=.no
 purE:base.pur=ja2
theorem NB.pur {base:Bs}(h:NB base)(f m:Nat)(e:ja2 f=m):base.pur f=m:=by rw [h.purE]; exact e
theorem NB.no {base:Bs}(h:NB base)(f:FuncId)(e:WW f=true)(args:List AV)(st:St):base.run f args st=.no:=h.nob f e args st
theorem NB.at0 {base:Bs}(h:NB base)(f:FuncId)(e:WW f=true)(e2:ja2 f=0)(args:List AV)(st:St):base.at0 f args st:=⟨h.nob f e args st,h.pur f 0 e2⟩
abbrev Ret (base:Bs)(f:FuncId)(xs:List AV)(o:Oc):Prop:=∀ st K Kp,XB Qaf base f xs st K Kp=Yr o K Kp st
abbrev Tot (base:Bs)(f:FuncId)(xs:List AV)(v:AV):Prop:=∀ st K Kp,XB Qaf base f xs st K Kp=K v st
theorem NB.tot {base:Bs}(hb:NB base){f:FuncId}{xs:List AV}{v:AV}(h:PX Qaf base f xs (.ok v))(hp:xs.all pa=true)(e:WW f=true):Tot base f xs v:=λst K Kp=>h.xb hp (hb.no f e _) st K Kp
theorem NB.ret {base:Bs}(hb:NB base){f:FuncId}{xs:List AV}{o:Oc}(h:PX Qaf base f xs o)(hp:xs.all pa=true)(e:WW f=true):Ret base f xs o:=λst K Kp=>h.xb hp (hb.no f e _) st K Kp
inductive Ex where
 | mk (op num:Int) (name:List Nat) (kids:List Ex) (line col:Int)
def Ex.op:Ex->Int | .mk o _ _ _ _ _=>o
def Ex.num:Ex->Int | .mk _ n _ _ _ _=>n
def Ex.name:Ex->List Nat | .mk _ _ n _ _ _=>n
def Ex.kids:Ex->List Ex | .mk _ _ _ k _ _=>k
def Ex.line:Ex->Int | .mk _ _ _ _ l _=>l
def Ex.col:Ex->Int | .mk _ _ _ _ _ c=>c
theorem Ex.ind {p:Ex->Prop}(h:∀ op num name kids l c,(∀ k∈kids,p k)->p (.mk op num name kids l c)):∀ x,p x
 | .mk op num name kids l c=>h op num name kids l c (inds h kids)
where inds {p:Ex->Prop} (h:∀ op num name kids l c,(∀ k∈kids,p k)->p (.mk op num name kids l c)):∀ (xs:List Ex),∀ k∈xs,p k
 | [],k,hk=>by cases hk
 | x :: xs,k,hk=>by
  rcases Qbe.1 hk with e | e
  ·exact e▸Ex.ind h x
  ·exact inds h xs k e
theorem Ex.indk {p:Ex->Prop}(h:∀ x:Ex,(∀ k∈x.kids,p k)->p x):∀ x,p x:=Ex.ind λop num name ks l c ih=>h (.mk op num name ks l c) ih
mutual
def eE:Ex->List AV
 | .mk op num name kids l c=>[.int .i64 op,.int .i64 num,.str name,.lst kids.length (eEs kids),.int .i64 l,.int .i64 c]
def eEs:List Ex->List AV
 | []=>[]
 | x :: xs=>eE x ++ eEs xs
end
theorem jdS:∀ xs,eEs xs=fl eE xs
 | []=>rfl
 | x :: xs=>by rw [Q8,←jdS xs]; rfl
theorem qH (x:Ex):eE x=[.int .i64 x.op,.int .i64 x.num,.str x.name,.lst x.kids.length (fl eE x.kids),.int .i64 x.line,.int .i64 x.col]:=by
 cases x; simp only [eE,jdS]; rfl
theorem JD (x:Ex):(eE x).length=6:=by rw [qH]; rfl
theorem GN (x:Ex)(k:Nat):(eE x).getD k .bad=([.int .i64 x.op,.int .i64 x.num,.str x.name,.lst x.kids.length (fl eE x.kids),.int .i64 x.line,.int .i64 x.col]:List AV).getD k .bad:=by rw [qH]
theorem jj2 (x:Ex)(k:Nat):(eE x).drop k=([.int .i64 x.op,.int .i64 x.num,.str x.name,.lst x.kids.length (fl eE x.kids),.int .i64 x.line,.int .i64 x.col]:List AV).drop k:=by rw [qH]
theorem zn (x:Ex):(eE x).all pc=true:=by rw [qH]; rfl
theorem jbD (x:Ex):lall AV.cell (eE x)=true:=by rw [qH]; rfl
theorem GO {st:St}{K:AV->St->Prop}{xs:List Ex}{i:Nat}(h:i<xs.length):jf (zM 6 (.lptr (fl eE xs) (i * 6)) st) K=K (.agg (eE xs[i])) st:=ZF JD h
theorem jgI {st:St}{K:AV->St->Prop}{xs:List Ex}{i:Nat}(h:i<xs.length){k:Nat}(hk:k<6):jf (ze (.lptr (fl eE xs) (i * 6+k)) st) K=K ((eE xs[i]).getD k .bad) st:=zt JD h hk
theorem jgJ {st:St}{K:AV->St->Prop}{xs:List Ex}{i:Nat}(h:i<xs.length):jf (ze (.lptr (fl eE xs) (i * 6)) st) K=K ((eE xs[i]).getD 0 .bad) st:=zt (k:=0) JD h (by decide)
theorem je:type_of% (aI @JD (aI @GN (aI @jj2 (aI @jbD (aI @GO (aI @jgJ @jgI)))))):=aI @JD (aI @GN (aI @jj2 (aI @jbD (aI @GO (aI @jgJ @jgI)))))
theorem qV:type_of% (aI @JD (aI @jbD @GN)):=aI @JD (aI @jbD @GN)
theorem dzB {p:Prop}(h:p:=by first | assumption | decide | omega | (simp only [qV,rzN,Qal,Qap]; first | done | omega) | (apply JU <;> first | omega | ((simp (disch:=first | assumption | omega | (simp only [qV,rzN,Qal,Qap]; first | done | omega)) only [rzL,Qal,Qap,QaL,Qab,qV ]) <;> first | done | omega)) | (simp (disch:=first | assumption | omega | (simp only [qV,rzN,Qal,Qap]; first | done | omega)) only [qV,rzG,Qag,Qah,Qac,Qbn,Qal,Qap,QaB,QaG]; first | done | omega | decide)):p:=h
theorem cyB {p:Prop}(h:p:=by apply JU <;> first | omega | ((simp (disch:=first | assumption | omega | (simp only [qV,rzN,Qal,Qap]; first | done | omega)) only [rzL,Qal,Qap,QaL,Qab,qV]) <;> first | done | rfl | omega | (simp; done) | (simp; omega))):p:=h
theorem U2 {p:Prop}(h:p:=by first | assumption | decide | omega | (simp only [qV,zz,rzN,Qal,Qap]; first | done | omega) | (apply JU <;> first | omega | ((simp (disch:=first | assumption | omega | (simp only [qV,zz,rzN,Qal,Qap]; first | done | omega)) only [rzL,Qal,Qap,QaL,Qab,qV,zz ]) <;> first | done | omega)) | (simp (disch:=first | assumption | omega | (simp only [qV,zz,rzN,Qal,Qap]; first | done | omega)) only [qV,zz,rzG,Qag,Qah,Qac,Qbn,Qal,Qap,QaB,QaG]; first | done | omega | decide)):p:=h
end Go.Sy
end
noncomputable section
set_option maxRecDepth 100000
namespace Go.Sy
open Go.Ev Go.Proofs
def z14:XC:=(.seq (.ops [(oO 1 (.box (.t 0))),(oO 2 (.mv (.c (.int .i64 0))))]) (.seq (.ops [(oO 3 (.mv (.c (.int .i64 0))))]) (.seq (.seq (.ops [(oo 6 (.fad 3 (.t 1))),(oO 7 (.ld1 (.t 6))),(oO 8 (.len (.t 7))),(oO 9 (.mv (.c (.int .i64 0))))]) (.block 0 (.loop (.seq (.ops [(oO 10 (.bin .lss (.t 9) (.t 8)))]) (.seq (.cond (.t 10) .skip (.exit 0)) (.seq (.block 1 (.seq (.ops [(oo 11 (.idxS 6 (.t 7) (.t 9))),(oo 12 (.ldA 6 (.t 11))),(oO 5 (.alloc [(.int .i64 0),(.int .i64 0),(.str []),.nils,(.int .i64 0),(.int .i64 0)])),(os (.st 6 (.t 5) (.t 12)))]) (.ops [(ot 13 3),(oo 14 (.ldA 6 (.t 5))),(oc 15 14 [(.t 14)]),(oo 16 (.bi .max #[3,3] [(.t 13),(.t 15)])),(oT 3 16)]))) (.ops [(oo 17 (.bin .add (.t 9) (.c (.int .i64 1)))),(oT 9 17)]))))))) (.seq (.ops [(ot 18 3),(oo 19 (.bin .add (.t 18) (.c (.int .i64 1)))),(oT 2 19)]) .ret))))
def y14:XF:=⟨[0],z14,[(.t 2)]⟩
theorem x14:ju Qaf 14=some y14:=by kernel_rfl
def z13:XC:=(.seq (.ops [(oO 1 (.box (.t 0))),(oO 2 (.mv (.c (.int .i64 0))))]) (.seq (.ops [(oO 3 (.mv (.c (.int .i64 1))))]) (.seq (.seq (.ops [(oo 6 (.fad 3 (.t 1))),(oO 7 (.ld1 (.t 6))),(oO 8 (.len (.t 7))),(oO 9 (.mv (.c (.int .i64 0))))]) (.block 0 (.loop (.seq (.ops [(oO 10 (.bin .lss (.t 9) (.t 8)))]) (.seq (.cond (.t 10) .skip (.exit 0)) (.seq (.block 1 (.seq (.ops [(oo 11 (.idxS 6 (.t 7) (.t 9))),(oo 12 (.ldA 6 (.t 11))),(oO 5 (.alloc [(.int .i64 0),(.int .i64 0),(.str []),.nils,(.int .i64 0),(.int .i64 0)])),(os (.st 6 (.t 5) (.t 12)))]) (.ops [(ot 13 3),(oo 14 (.ldA 6 (.t 5))),(oc 15 13 [(.t 14)]),(oo 16 (.bin .add (.t 13) (.t 15))),(oT 3 16)]))) (.ops [(oo 17 (.bin .add (.t 9) (.c (.int .i64 1)))),(oT 9 17)]))))))) (.seq (.ops [(ot 18 3),(oT 2 18)]) .ret))))
def y13:XF:=⟨[0],z13,[(.t 2)]⟩
theorem x13:ju Qaf 13=some y13:=by kernel_rfl
def z47:XC:=(.seq (.ops [(oO 2 (.box (.t 0))),(oO 4 (.mv (.c (.bool false))))]) (.seq (.seq (.ops [(oo 7 (.fad 0 (.t 2))),(oo 8 (.ld1 (.t 7))),(ot 9 1),(oO 10 (.bin .eql (.t 8) (.t 9)))]) (.cond (.t 10) (.seq (.ops [(oO 4 (.mv (.c (.bool true))))]) .ret) .skip)) (.seq (.seq (.ops [(oo 11 (.fad 3 (.t 2))),(oO 12 (.ld1 (.t 11))),(oO 13 (.len (.t 12))),(oO 14 (.mv (.c (.int .i64 0))))]) (.block 0 (.loop (.seq (.ops [(oO 15 (.bin .lss (.t 14) (.t 13)))]) (.seq (.cond (.t 15) .skip (.exit 0)) (.seq (.block 1 (.seq (.ops [(oo 16 (.idxS 6 (.t 12) (.t 14))),(oo 17 (.ldA 6 (.t 16))),(oO 6 (.alloc [(.int .i64 0),(.int .i64 0),(.str []),.nils,(.int .i64 0),(.int .i64 0)])),(os (.st 6 (.t 6) (.t 17)))]) (.seq (.ops [(oo 18 (.ldA 6 (.t 6))),(ot 19 1),⟨(some 20),true,none,(.call (.c (.fn 47 [])) [(.t 18),(.t 19)])⟩]) (.cond (.t 20) (.seq (.ops [(oO 4 (.mv (.c (.bool true))))]) .ret) .skip)))) (.ops [(oo 21 (.bin .add (.t 14) (.c (.int .i64 1)))),(oT 14 21)]))))))) (.seq (.ops [(oO 4 (.mv (.c (.bool false))))]) .ret))))
def y47:XF:=⟨[0,1],z47,[(.t 4)]⟩
theorem x47:ju Qaf 47=some y47:=by kernel_rfl
def jia:XC:=(.seq (.ops [(oO 2 (.mv (.c (.int .i64 0))))]) (.seq (.seq (.ops [(ot 3 0),(oo 4 (.bin .geq (.t 3) (.c (.int .i64 1)))),(ot 5 4),(og 6 5 (.mv (.t 0))),(og 7 5 (.bin .leq (.t 6) (.c (.int .i64 4)))),(oO 8 (.pick (.t 5) (.t 7) (.c (.bool false))))]) (.cond (.t 8) (.seq (.ops [(oO 2 (.mv (.c (.int .i64 0))))]) .ret) .skip)) (.seq (.seq (.ops [(ot 9 0),(oo 10 (.bin .geq (.t 9) (.c (.int .i64 5)))),(ot 11 10),(og 12 11 (.mv (.t 0))),(og 13 11 (.bin .leq (.t 12) (.c (.int .i64 13)))),(oO 14 (.pick (.t 11) (.t 13) (.c (.bool false))))]) (.cond (.t 14) (.seq (.ops [(oO 2 (.mv (.c (.int .i64 1))))]) .ret) .skip)) (.seq (.seq (.ops [(ot 15 0),(oo 16 (.bin .geq (.t 15) (.c (.int .i64 14)))),(ot 17 16),(og 18 17 (.mv (.t 0))),(og 19 17 (.bin .leq (.t 18) (.c (.int .i64 30)))),(oO 20 (.pick (.t 17) (.t 19) (.c (.bool false))))]) (.cond (.t 20) (.seq (.ops [(oO 2 (.mv (.c (.int .i64 2))))]) .ret) .skip)) (.seq (.ops [(oO 2 (.mv (.c (.int .i64 (-(0+1))))))]) .ret)))))
def jiA:XF:=⟨[0],jia,[(.t 2)]⟩
theorem jlr:ju Qaf 132=some jiA:=by kernel_rfl
def z52:XC:=(.seq (.ops [(oO 2 (.mv (.c (.str []))))]) (.seq (.seq (.ops [(ot 3 0),(oo 4 (.bin .lss (.t 3) (.c (.int .i64 5)))),(ot 5 4),(oh 6 5 (.mv (.t 0))),(oh 7 5 (.bin .gtr (.t 6) (.c (.int .i64 30)))),(oO 8 (.pick (.t 5) (.c (.bool true)) (.t 7)))]) (.cond (.t 8) (.seq (.ops [(oO 2 (.mv (.c (.str []))))]) .ret) .skip)) (.seq (.ops [(oo 9 (.buildS 26 1 [(.str [])] [((0,1),(.c (.str [45]))),((1,1),(.c (.str [33]))),((2,1),(.c (.str [88]))),((3,1),(.c (.str [70]))),((4,1),(.c (.str [71]))),((5,1),(.c (.str [89]))),((6,1),(.c (.str [90]))),((7,1),(.c (.str [79]))),((8,1),(.c (.str [72]))),((9,1),(.c (.str [42]))),((10,1),(.c (.str [43]))),((11,1),(.c (.str [45]))),((12,1),(.c (.str [61]))),((13,1),(.c (.str [33,61]))),((14,1),(.c (.str [60]))),((15,1),(.c (.str [60,61]))),((16,1),(.c (.str [62]))),((17,1),(.c (.str [62,61]))),((18,1),(.c (.str [85]))),((19,1),(.c (.str [82]))),((20,1),(.c (.str [83]))),((21,1),(.c (.str [84]))),((22,1),(.c (.str [38]))),((23,1),(.c (.str [124]))),((24,1),(.c (.str [45,62]))),((25,1),(.c (.str [60,45,62])))])),(ot 10 0),(oo 11 (.bin .sub (.t 10) (.c (.int .i64 5)))),(oo 12 (.idxS 1 (.t 9) (.t 11))),(oo 13 (.ld1 (.t 12))),(oT 2 13)]) .ret)))
def y52:XF:=⟨[0],z52,[(.t 2)]⟩
theorem x52:ju Qaf 52=some y52:=by kernel_rfl
def z92:XC:=(.seq (.ops [(oO 1 (.box (.t 0))),(oO 2 (.mv (.c (.bool false))))]) (.seq (.seq (.dops [(oP (oo 5 (.fad 0 (.t 1)))),(⟨(oo 6 (.ld1 (.t 5))),(some (some (.t 5))),3,[]⟩,none),(⟨(oc 7 132 [(.t 6)]),(some none),0,[]⟩,(some [(on 7),⟨(oo 8 (.fad 3 (.t 1))),none,0,[]⟩,⟨(oo 9 (.ld1 (.t 8))),(some (some (.t 8))),35,[(1,0)]⟩,⟨(oo 10 (.len (.t 9))),none,0,[]⟩,⟨(oO 11 (.mv (.c (.tup [])))),none,0,[]⟩])),(oP (oo 8 (.fad 3 (.t 1)))),(⟨(oo 9 (.ld1 (.t 8))),(some (some (.t 8))),35,[(1,0)]⟩,none),(oP (oo 10 (.len (.t 9)))),(oP (oO 11 (.bin .neq (.t 7) (.t 10))))]) (.cond (.t 11) (.seq (.ops [(oO 2 (.mv (.c (.bool false))))]) .ret) .skip)) (.seq (.seq (.ops [(oo 12 (.fad 3 (.t 1))),(oO 13 (.ld1 (.t 12))),(oO 14 (.len (.t 13))),(oO 15 (.mv (.c (.int .i64 0))))]) (.block 0 (.loop (.seq (.ops [(oO 16 (.bin .lss (.t 15) (.t 14)))]) (.seq (.cond (.t 16) .skip (.exit 0)) (.seq (.block 1 (.seq (.ops [(oo 17 (.idxS 6 (.t 13) (.t 15))),(oo 18 (.ldA 6 (.t 17))),(oO 4 (.alloc [(.int .i64 0),(.int .i64 0),(.str []),.nils,(.int .i64 0),(.int .i64 0)])),(os (.st 6 (.t 4) (.t 18)))]) (.seq (.ops [(oo 19 (.ldA 6 (.t 4))),(oc 20 92 [(.t 19)]),(oO 21 (.un .not (.t 20)))]) (.cond (.t 21) (.seq (.ops [(oO 2 (.mv (.c (.bool false))))]) .ret) .skip)))) (.ops [(oo 22 (.bin .add (.t 15) (.c (.int .i64 1)))),(oT 15 22)]))))))) (.seq (.seq (.ops [(oo 23 (.fad 0 (.t 1))),(oo 24 (.ld1 (.t 23))),(oo 25 (.bin .neq (.t 24) (.c (.int .i64 3)))),(ot 26 25),(og 27 26 (.fad 2 (.t 1))),(og 28 26 (.ld1 (.t 27))),(og 29 26 (.strb .neq (.t 28) (.c (.str [])))),(oO 30 (.pick (.t 26) (.t 29) (.c (.bool false))))]) (.cond (.t 30) (.seq (.ops [(oO 2 (.mv (.c (.bool false))))]) .ret) .skip)) (.seq (.seq (.ops [(oo 31 (.fad 0 (.t 1))),(oO 32 (.ld1 (.t 31)))]) (.block 2 (.seq (.ops [(oo 34 (.bin .eql (.t 32) (.c (.int .i64 1)))),(oT 33 34)]) (.cond (.t 33) (.seq (.ops [(oo 35 (.fad 1 (.t 1))),(oo 36 (.ld1 (.t 35))),(oo 37 (.bin .geq (.t 36) (.c (.int .i64 0)))),(ot 38 37),(og 39 38 (.fad 1 (.t 1))),(og 40 38 (.ld1 (.t 39))),(og 41 38 (.bin .leq (.t 40) (.c (.int .i64 1000000)))),(oo 42 (.pick (.t 38) (.t 41) (.c (.bool false)))),(oT 2 42)]) .ret) (.seq (.ops [(oo 44 (.bin .eql (.t 32) (.c (.int .i64 2)))),(oT 43 44)]) (.cond (.t 43) (.seq (.ops [(oo 45 (.fad 1 (.t 1))),(oo 46 (.ld1 (.t 45))),(oo 47 (.bin .eql (.t 46) (.c (.int .i64 0)))),(ot 48 47),(oh 49 48 (.fad 1 (.t 1))),(oh 50 48 (.ld1 (.t 49))),(oh 51 48 (.bin .eql (.t 50) (.c (.int .i64 1)))),(oo 52 (.pick (.t 48) (.c (.bool true)) (.t 51))),(oT 2 52)]) .ret) (.seq (.ops [(oo 54 (.bin .eql (.t 32) (.c (.int .i64 3)))),(oT 53 54)]) (.cond (.t 53) (.seq (.ops [(oo 55 (.fad 1 (.t 1))),(oo 56 (.ld1 (.t 55))),(oo 57 (.bin .eql (.t 56) (.c (.int .i64 0)))),(ot 58 57),(og 59 58 (.fad 2 (.t 1))),(og 60 58 (.ld1 (.t 59))),⟨(some 61),false,(some (58,true)),(.call (.c (.fn 56 [])) [(.t 60)])⟩,(oo 62 (.pick (.t 58) (.t 61) (.c (.bool false)))),(oT 2 62)]) .ret) (.seq (.ops [(oo 64 (.bin .eql (.t 32) (.c (.int .i64 4)))),(oT 63 64)]) (.cond (.t 63) (.seq (.ops [(oO 2 (.mv (.c (.bool true))))]) .ret) .skip)))))))))) (.seq (.ops [(oo 65 (.fad 1 (.t 1))),(oo 66 (.ld1 (.t 65))),(oo 67 (.bin .eql (.t 66) (.c (.int .i64 0)))),(oT 2 67)]) .ret))))))
def y92:XF:=⟨[0],z92,[(.t 2)]⟩
theorem x92:ju Qaf 92=some y92:=by kernel_rfl
def z46:XC:=(.seq (.ops [(oO 1 (.box (.t 0))),(oO 2 (.mv (.c (.bool false))))]) (.seq (.ops [(oo 3 (.ldA 6 (.t 1))),(oc 4 14 [(.t 3)]),(oo 5 (.bin .leq (.t 4) (.c (.int .i64 60)))),(ot 6 5),(og 7 6 (.ldA 6 (.t 1))),⟨(some 8),false,(some (6,true)),(.call (.c (.fn 92 [])) [(.t 7)])⟩,(oo 9 (.pick (.t 6) (.t 8) (.c (.bool false)))),(oT 2 9)]) .ret))
def y46:XF:=⟨[0],z46,[(.t 2)]⟩
theorem x46:ju Qaf 46=some y46:=by kernel_rfl
def z12:XC:=(.seq (.ops [(oO 1 (.box (.t 0))),(oO 2 (.mv (.c (.bool false))))]) (.seq (.ops [(oo 3 (.ldA 6 (.t 1))),(oc 4 46 [(.t 3)]),(ot 5 4),(og 6 5 (.ldA 6 (.t 1))),⟨(some 7),false,(some (5,true)),(.call (.c (.fn 47 [])) [(.t 6),(.c (.int .i64 4))])⟩,(og 8 5 (.un .not (.t 7))),(oo 9 (.pick (.t 5) (.t 8) (.c (.bool false)))),(oT 2 9)]) .ret))
def y12:XF:=⟨[0],z12,[(.t 2)]⟩
theorem x12:ju Qaf 12=some y12:=by kernel_rfl
def z17:XC:=(.seq (.ops [(oO 2 (.box (.t 0))),(oO 3 (.box (.t 1))),(oO 4 (.mv (.c (.bool false))))]) (.seq (.seq (.ops [(oo 6 (.fad 0 (.t 2))),(oo 7 (.ld1 (.t 6))),(oo 8 (.fad 0 (.t 3))),(oo 9 (.ld1 (.t 8))),(oo 10 (.bin .neq (.t 7) (.t 9))),(ot 11 10),(oh 12 11 (.fad 1 (.t 2))),(oh 13 11 (.ld1 (.t 12))),(oh 14 11 (.fad 1 (.t 3))),(oh 15 11 (.ld1 (.t 14))),(oh 16 11 (.bin .neq (.t 13) (.t 15))),(oo 17 (.pick (.t 11) (.c (.bool true)) (.t 16))),(ot 18 17),(oh 19 18 (.fad 2 (.t 2))),(oh 20 18 (.ld1 (.t 19))),(oh 21 18 (.fad 2 (.t 3))),(oh 22 18 (.ld1 (.t 21))),(oh 23 18 (.strb .neq (.t 20) (.t 22))),(oo 24 (.pick (.t 18) (.c (.bool true)) (.t 23))),(ot 25 24),(oh 26 25 (.fad 3 (.t 2))),(oh 27 25 (.ld1 (.t 26))),(oh 28 25 (.len (.t 27))),(oh 29 25 (.fad 3 (.t 3))),(oh 30 25 (.ld1 (.t 29))),(oh 31 25 (.len (.t 30))),(oh 32 25 (.bin .neq (.t 28) (.t 31))),(oO 33 (.pick (.t 25) (.c (.bool true)) (.t 32)))]) (.cond (.t 33) (.seq (.ops [(oO 4 (.mv (.c (.bool false))))]) .ret) .skip)) (.seq (.seq (.ops [(oo 34 (.fad 3 (.t 2))),(oo 35 (.ld1 (.t 34))),(oO 36 (.len (.t 35))),(oO 37 (.mv (.c (.int .i64 0))))]) (.block 0 (.loop (.seq (.ops [(oO 38 (.bin .lss (.t 37) (.t 36)))]) (.seq (.cond (.t 38) .skip (.exit 0)) (.seq (.block 1 (.seq (.ops [(ot 39 37),(oT 5 39)]) (.seq (.cops [((oo 40 (.fad 3 (.t 2))),none),((oo 41 (.ld1 (.t 40))),none),((ot 42 5),none),((oo 43 (.idxS 6 (.t 41) (.t 42))),none),((oo 44 (.ldA 6 (.t 43))),none),((oo 45 (.fad 3 (.t 3))),none),((oo 46 (.ld1 (.t 45))),none),((ot 47 5),none),((oo 48 (.idxS 6 (.t 46) (.t 47))),none),((oo 49 (.ldA 6 (.t 48))),none),((oc 50 17 [(.t 44),(.t 49)]),(some [])),((oO 51 (.un .not (.t 50))),none)]) (.cond (.t 51) (.seq (.ops [(oO 4 (.mv (.c (.bool false))))]) .ret) .skip)))) (.ops [(oo 52 (.bin .add (.t 37) (.c (.int .i64 1)))),(oT 37 52)]))))))) (.seq (.ops [(oO 4 (.mv (.c (.bool true))))]) .ret))))
def y17:XF:=⟨[0,1],z17,[(.t 4)]⟩
theorem x17:ju Qaf 17=some y17:=by kernel_rfl
def z96:XC:=(.seq (.ops [(oO 2 (.mv (.c (.bool false))))]) (.seq (.ops [(ot 3 0),(oo 4 (.bin .geq (.t 3) (.c (.int .i64 (-(999999+1)))))),(ot 5 4),(og 6 5 (.mv (.t 0))),(og 7 5 (.bin .leq (.t 6) (.c (.int .i64 1000000)))),(oo 8 (.pick (.t 5) (.t 7) (.c (.bool false)))),(oT 2 8)]) .ret))
def y96:XF:=⟨[0],z96,[(.t 2)]⟩
theorem x96:ju Qaf 96=some y96:=by kernel_rfl
end Go.Sy
end
noncomputable section
set_option maxRecDepth 100000
namespace Go.Sy
open Go.Ev Go.Proofs
variable {base:Bs}
def Xp (op:Int):Int:=if 1≤op∧op≤4 then 0 else if 5≤op∧op≤13 then 1 else if 14≤op∧op≤30 then 2 else -1
theorem jku (hb:NB base)(op:Int):Tot base 132 [.int .i64 op] (.int .i64 (Xp op)):=by
 refine hb.tot ?_ rfl rfl;refine jz jlr (by rfl) (hb.pur 132 1 (by decide)) ?_;simp only [jiA,jj,Qai,Qam,Qag,Qah];unfold jia;try dsimp only [oo,oO,ot,oT,os,og,oh,oc,on,oN,oP]
 repeat' (first | (apply jc <;> intro _) | simp (disch:=first | exact dzB | fail) only [je,rzZ,Qab,Qac,Qad,Qaa,Qae])
 all_goals (refine G0.v ?_ rfl; unfold Xp; repeat' split) <;> first | rfl | (exfalso; omega) | (simp_all; done) | (simp; omega) | (simp_all; omega)
theorem HR (hb:NB base)(n:Int):Tot base 96 [.int .i64 n] (.bool (decide (-1000000≤n) && decide (n≤1000000))):=by
 refine hb.tot ?_ rfl rfl;refine jz x96 (by rfl) (hb.pur 96 1 (by decide)) ?_;simp only [y96,jj,Qai,Qam,Qag,Qah];unfold z96;try dsimp only [oo,oO,ot,oT,os,og,oh,oc,on,oN,oP]
 repeat' (first | (apply jc <;> intro _) | simp (disch:=first | exact dzB | fail) only [je,rzZ,Qab,Qac,Qad,Qaa,Qae])
 all_goals (refine G0.v ?_ rfl; repeat' split) <;> first | rfl | (exfalso; omega) | (simp_all; done) | (simp; omega) | (simp_all; omega)
mutual
def szE:Ex->Nat
 | .mk _ _ nm ks _ _=>ya ks+nm.length+1
def ya:List Ex->Nat
 | []=>0
 | x :: xs=>szE x+ya xs
end
mutual
def qI:Ex->Nat
 | .mk _ _ _ ks _ _=>qN ks+1
def qN:List Ex->Nat
 | []=>0
 | x :: xs=>max (qI x) (qN xs)
end
mutual
def yX:Ex->Nat
 | .mk _ _ _ ks _ _=>yb ks+1
def yb:List Ex->Nat
 | []=>0
 | x :: xs=>yX x+yb xs
end
mutual
def wj (op:Int):Ex->Bool
 | .mk o _ _ ks _ _=>decide (o=op) || Jc op ks
def Jc (op:Int):List Ex->Bool
 | []=>false
 | x :: xs=>wj op x || Jc op xs
end
theorem JX (x:Ex):szE x=ya x.kids+x.name.length+1:=by cases x; rfl
theorem Qf (x:Ex):qI x=qN x.kids+1:=by cases x; rfl
theorem jeK (x:Ex):yX x=yb x.kids+1:=by cases x; rfl
theorem jhx (op:Int)(x:Ex):wj op x=(decide (x.op=op) || Jc op x.kids):=by cases x; rfl
theorem Qk:∀ {xs:List Ex} {k:Nat} (h:k<xs.length),szE xs[k]≤ya xs
 | x :: xs,0,h=>by simp [ya]
 | x :: xs,k+1,h=>by
  have:=Qk (xs:=xs) (k:=k) (by simpa using h);simp [ya]; omega
theorem JW:∀ xs:List Ex,xs.length≤ya xs
 | []=>by simp
 | x :: xs=>by
  have:=JW xs;have:=JX x;simp [ya]; omega
theorem Ue:∀ xs ys,qN (xs ++ ys)=max (qN xs) (qN ys)
 | [],ys=>by simp [qN]
 | x :: xs,ys=>by rw [QaB,qN,qN,Ue,Nat.max_assoc]
theorem vh:∀ xs ys,yb (xs ++ ys)=yb xs+yb ys
 | [],ys=>by simp [yb]
 | x :: xs,ys=>by rw [QaB,yb,yb,vh,QbB]
theorem ZT (op:Int):∀ xs ys,Jc op (xs ++ ys)=(Jc op xs || Jc op ys)
 | [],ys=>by simp [Jc]
 | x :: xs,ys=>by rw [QaB,Jc,Jc,ZT,Bool.or_assoc]
theorem Jm {α:Type}{xs:List α}{k:Nat}(h:k<xs.length):xs.take (k+1)=xs.take k ++ [xs[k]]:=by rw [List.take_add_one,Qay h]; rfl
mutual
theorem jfw:∀ x,qI x≤yX x
 | .mk _ _ _ ks _ _=>by have:=uK ks; simp only [qI,yX]; omega
theorem uK:∀ xs,qN xs≤yb xs
 | []=>Qaq _
 | x :: xs=>by have:=jfw x; have:=uK xs; simp only [qN,yb]; omega
end
mutual
theorem jeJ:∀ x,yX x≤szE x
 | .mk _ _ _ ks _ _=>by have:=ZH ks; simp only [szE,yX]; omega
theorem ZH:∀ xs,yb xs≤ya xs
 | []=>Qaq _
 | x :: xs=>by have:=jeJ x; have:=ZH xs; simp only [ya,yb]; omega
end
def BIG:Nat:=1099511627776
theorem uX (hb:NB base):∀ x:Ex,szE x≤BIG->Tot base 14 [.agg (eE x)] (.int .i64 (qI x)):=by
 refine Ex.indk λx ih hx=>?_;refine hb.tot ?_ (by first | rfl | simp [pa,pc,zn]) rfl;have hd:=Qf x;have hz:=JX x;generalize hks:x.kids=ks at *;have hlen:=JW ks;unfold BIG at *;have hle:=uK ks;have hle2:=ZH ks;refine jz x14 (by rfl) (hb.pur 14 1 (by decide)) ?_;simp only [y14,jj,Qai,Qam,Qag,Qah];unfold z14;try dsimp only [oo,oO,ot,oT,os,og,oh,oc,on,oN,oP]
 repeat' (first | (apply jc <;> intro _) | simp (disch:=first | exact dzB | fail) only [hks,je,rzZ,Qab,Qac,Qad,Qaa,Qae])
 refine qn ks.length (λk L s=>Has L 3 (.int .i64 (qN (ks.take k):Nat))∧Has L 7 (.lst ks.length (fl eE ks))) (by first | assumption | omega) (by decide) (by simp (disch:=decide) only [jd,jb]) (by simp (disch:=decide) only [jd,jb]) ?_ (λk L s v h=>by simp (disch:=decide) only [jb]; exact h) (λk L s v h=>by simp (disch:=decide) only [jb]; exact h) (λk L s hk hI hi hn=>?_) (λL s hI=>?_)
 ·simp (disch:=decide) only [Qaj,Qan,z0,z1,jd,jb,and_true,true_and,Qbm,qN]
 ·obtain ⟨i3,i7⟩:=hI;have hk2:=Qk hk;have e:=ih ks[k] (Qau hk) (by omega);repeat' (first | (apply jc <;> intro _) | simp (disch:=first | exact dzB | fail) only [ja i3,ja i7,ja hi,ja hn,e,je,rzZ,Qab,Qac,Qad,Qaa,Qae])
  have e2:((qN (ks.take (k+1)):Nat):Int)=max (qN (ks.take k):Int) (qI ks[k]):=by rw [Jm hk,Ue]; simp only [qN]; omega
  simp (disch:=decide) only [Qaj,Qan,z0,z1,jd,jb,and_true,true_and,e2,i7,hi,hn]
 ·rw [QaK] at hI;repeat' (first | (apply jc <;> intro _) | simp (disch:=first | exact dzB | fail) only [ja hI.1,ja hI.2,je,rzZ,Qab,Qac,Qad,Qaa,Qae])
  (refine G0.v ?_ rfl; repeat' split) <;> first | rfl | (exfalso; omega) | (simp_all; done) | (simp; omega) | (simp_all; omega)
theorem jks (hb:NB base):∀ x:Ex,szE x≤BIG->Tot base 13 [.agg (eE x)] (.int .i64 (yX x)):=by
 refine Ex.indk λx ih hx=>?_;refine hb.tot ?_ (by first | rfl | simp [pa,pc,zn]) rfl;have hd:=jeK x;have hz:=JX x;generalize hks:x.kids=ks at *;have hlen:=JW ks;unfold BIG at *;have hle2:=ZH ks;refine jz x13 (by rfl) (hb.pur 13 1 (by decide)) ?_;simp only [y13,jj,Qai,Qam,Qag,Qah];unfold z13;try dsimp only [oo,oO,ot,oT,os,og,oh,oc,on,oN,oP]
 repeat' (first | (apply jc <;> intro _) | simp (disch:=first | exact dzB | fail) only [hks,je,rzZ,Qab,Qac,Qad,Qaa,Qae])
 refine qn ks.length (λk L s=>Has L 3 (.int .i64 ((yb (ks.take k):Int)+1))∧Has L 7 (.lst ks.length (fl eE ks))) (by first | assumption | omega) (by decide) (by simp (disch:=decide) only [jd,jb]) (by simp (disch:=decide) only [jd,jb]) ?_ (λk L s v h=>by simp (disch:=decide) only [jb]; exact h) (λk L s v h=>by simp (disch:=decide) only [jb]; exact h) (λk L s hk hI hi hn=>?_) (λL s hI=>?_)
 ·simp (disch:=decide) only [Qaj,Qan,z0,z1,jd,jb,and_true,true_and,Qbm,yb]
 ·obtain ⟨i3,i7⟩:=hI;have hk2:=Qk hk;have e:=ih ks[k] (Qau hk) (by omega);have e2:yb (ks.take (k+1))=yb (ks.take k)+yX ks[k]:=by rw [Jm hk,vh]; simp only [yb]; omega
  have e3:=vh (ks.take (k+1)) (ks.drop (k+1));rw [Qch] at e3;repeat' (first | (apply jc <;> intro _) | simp (disch:=first | exact dzB | fail) only [ja i3,ja i7,ja hi,ja hn,e,je,rzZ,Qab,Qac,Qad,Qaa,Qae])
  have e2:(yb (ks.take (k+1)):Int)+1=(yb (ks.take k):Int)+1+(yX ks[k]:Int):=by omega
  simp (disch:=decide) only [Qaj,Qan,z0,z1,jd,jb,and_true,true_and,e2,i7,hi,hn]
 ·rw [QaK] at hI;repeat' (first | (apply jc <;> intro _) | simp (disch:=first | exact dzB | fail) only [ja hI.1,ja hI.2,je,rzZ,Qab,Qac,Qad,Qaa,Qae])
  (refine G0.v ?_ rfl; repeat' split) <;> first | rfl | (exfalso; omega) | (simp_all; done) | (simp; omega) | (simp_all; omega)
theorem jld (hb:NB base)(op:Int):∀ x:Ex,szE x≤BIG->Tot base 47 [.agg (eE x),.int .i64 op] (.bool (wj op x)):=by
 refine Ex.indk λx ih hx=>?_;refine hb.tot ?_ (by first | rfl | simp [pa,pc,zn]) rfl;have hd:=jhx op x;have hz:=JX x;generalize hks:x.kids=ks at *;have hlen:=JW ks;unfold BIG at *;refine jz x47 (by rfl) (hb.pur 47 1 (by decide)) ?_;simp only [y47,jj,Qai,Qam,Qag,Qah];unfold z47;try dsimp only [oo,oO,ot,oT,os,og,oh,oc,on,oN,oP]
 repeat' (first | (apply jc <;> intro _) | simp (disch:=first | exact dzB | fail) only [hks,je,rzZ,Qab,Qac,Qad,Qaa,Qae])
 ·(refine G0.v ?_ rfl; repeat' split) <;> first | rfl | (exfalso; omega) | (simp_all; done) | (simp; omega) | (simp_all; omega)
 refine qn ks.length (λk L s=>Jc op (ks.take k)=false∧Has L 1 (.int .i64 op)∧Has L 12 (.lst ks.length (fl eE ks))) (by first | assumption | omega) (by decide) (by simp (disch:=decide) only [jd,jb]) (by simp (disch:=decide) only [jd,jb]) ?_ (λk L s v h=>by simp (disch:=decide) only [jb]; exact h) (λk L s v h=>by simp (disch:=decide) only [jb]; exact h) (λk L s hk hI hi hn=>?_) (λL s hI=>?_)
 ·simp (disch:=decide) only [Qaj,Qan,z0,z1,jd,jb,and_true,true_and,Qbm,Jc]
 ·obtain ⟨h0,i1,i12⟩:=hI;have hk2:=Qk hk;have e:=ih ks[k] (Qau hk) (by omega);repeat' (first | (apply jc <;> intro _) | simp (disch:=first | exact dzB | fail) only [ja i1,ja i12,ja hi,ja hn,e,je,rzZ,Qab,Qac,Qad,Qaa,Qae])
  ·have e3:=ZT op (ks.take (k+1)) (ks.drop (k+1));rw [Qch,Jm hk,ZT] at e3;simp only [Jc] at e3
   (refine G0.v ?_ rfl; repeat' split) <;> first | rfl | (exfalso; omega) | (simp_all; done) | (simp; omega) | (simp_all; omega)
  ·simp (disch:=decide) only [Qaj,Qan,z0,z1,jd,jb,and_true,true_and,i1,i12,hi,hn];rw [Jm hk,ZT,h0];simp_all [Jc]
 ·rw [QaK] at hI;repeat' (first | (apply jc <;> intro _) | simp (disch:=first | exact dzB | fail) only [ja hI.2.1,je,rzZ,Qab,Qac,Qad,Qaa,Qae])
  (refine G0.v ?_ rfl; repeat' split) <;> first | rfl | (exfalso; omega) | (simp_all; done) | (simp; omega) | (simp_all; omega)
end Go.Sy
end
noncomputable section
set_option maxRecDepth 100000
namespace Go.Sy
open Go.Ev Go.Proofs
def jV (c:Nat):Bool:=(decide (97≤c) && decide (c≤122)) || (decide (65≤c) && decide (c≤90))
def jv (c:Nat):Bool:=decide (48≤c) && decide (c≤57)
def qO (c:Nat):Bool:=jV c || jv c || decide (c=95)
def jY (p:Nat->Bool):List Nat->Nat
 | []=>0
 | c :: l=>if p c then jY p l+1 else 0
theorem XZ (p:Nat->Bool):∀ l,jY p l≤l.length
 | []=>Qaq _
 | c :: l=>by simp only [jY,Qal]; have:=XZ p l; split <;> omega
theorem Wk {p:Nat->Bool}:∀ {l:List Nat} {k:Nat},k≤l.length->(∀ j,j<k->p (l.getD j 0)=true)->(k=l.length∨p (l.getD k 0)=false)->jY p l=k
 | [],k,h,_,_=>by simp at h; simp [jY,h]
 | c :: l,0,h,h1,h2=>by
  simp only [jY];rcases h2 with h2 | h2
  ·simp at h2
  ·simp at h2; simp [h2]
 | c :: l,k+1,h,h1,h2=>by
  have h0:=h1 0 (by omega);simp at h0;simp only [jY,h0,if_true];have:=Wk (l:=l) (k:=k) (by simpa using h) (λj hj=>by simpa using h1 (j+1) (by omega)) (by simpa using h2);omega
def Wl:List (List Nat):=[[101,110,117,109],[118,97,114],[98,111,111,108],[112,114,111,99,101,115,115],[119,104,101,110],[100,111],[116,114,117,101],[102,97,108,115,101],[88],[70],[71],[85],[82],[89],[90],[79],[72],[83],[84]]
def wh (l:List Nat):Bool:=decide (l∈Wl)
def begins (p l:List Nat):Bool:=decide (l.take p.length=p)
theorem Ui {p l:List Nat}(h:l.length<p.length):begins p l=false:=by
 unfold begins;refine decide_eq_false λe=>?_;have:=congrArg List.length e;rw [QaP] at this;omega
def qp (c:Nat):Bool:=decide (c=32) || decide (c=9) || decide (c=10)
def Jp (c:Nat):Bool:=decide (c≠10)
def Xg (p:Nat×Nat)(x:Nat):Nat×Nat:=if x=10 then (p.1+1,1) else (p.1,p.2+1)
def jC (p:Nat×Nat)(l:List Nat):Nat×Nat:=l.foldl Xg p
theorem w9 (l:List Nat):∀ p:Nat×Nat,1≤p.2->(jC p l).1≤p.1+l.length∧(jC p l).2≤p.2+l.length∧1≤(jC p l).2:=by
 induction l with
 | nil=>exact λp h=>⟨Qaq _,Qaq _,h⟩
 | cons x l ih=>
  intro p h;have hs:(Xg p x).1≤p.1+1∧(Xg p x).2≤p.2+1∧1≤(Xg p x).2:=by
   unfold Xg;split <;> simp <;> omega
  have:=ih (Xg p x) hs.2.2;show (jC (Xg p x) l).1≤p.1+(l.length+1)∧(jC (Xg p x) l).2≤p.2+(l.length+1)∧_;exact ⟨by omega,by omega,this.2.2⟩
theorem vZ (p:Nat×Nat)(l k:List Nat):jC p (l ++ k)=jC (jC p l) k:=List.foldl_append ..
def gap (r:List Nat):Nat:=if jY qp r=0∧begins [47,47] r=true then jY Jp r else jY qp r
theorem uu (r:List Nat):gap r≤r.length:=by
 unfold gap;split
 ·exact XZ _ _
 ·exact XZ _ _
def jB (r:List Nat):Nat:=if h:gap r=0 then 0 else gap r+jB (r.drop (gap r))
termination_by r.length
decreasing_by
 rw [QaQ];have:=uu r;omega
theorem Gx {r:List Nat}(h:gap r=0):jB r=0:=by rw [jB,dif_pos h]
theorem Gw {r:List Nat}(h:gap r≠0):jB r=gap r+jB (r.drop (gap r)):=by rw [jB,dif_neg h]
theorem Y8 (r:List Nat):jB r≤r.length:=by
 by_cases h:gap r=0
 ·rw [Gx h]; exact QaT _
 ·have e:=uu r;have ih:=Y8 (r.drop (gap r));rw [QaQ] at ih;rw [Gw h];omega
termination_by r.length
decreasing_by
 rw [QaQ];have:=uu r;omega
def yz:List (List Nat):=[[60,45,62],[46,46],[58,61],[33,61],[60,61],[62,61],[45,62],[123],[125],[40],[41],[58],[44],[59],[61],[60],[62],[43],[45],[42],[33],[38],[124]]
def Qc (r:List Nat):List (List Nat)->Nat
 | []=>0
 | x :: xs=>if begins x r=true then x.length else Qc r xs
def JR (r:List Nat):Nat:=Qc r yz
structure Tk where
 kind:Nat
 text:List Nat
 num:Nat
 line:Nat
 col:Nat
def Tk.cells (t:Tk):List AV:=[.int .i64 (t.kind:Int),.str t.text,.int .i64 (t.num:Int),.int .i64 (t.line:Int),.int .i64 (t.col:Int)]
def Qv (s:List Nat):Nat:=s.foldl (λv c=>10 * v+(c - 48)) 0
def qL (r:List Nat)(p:Nat×Nat):Nat×Tk×Nat:=
 match r with
 | []=>(0,⟨5,[],0,p.1,p.2⟩,0)
 | x :: r'=>
  if jV x=true then
   let n:=jY qO (x :: r')
   if 32<n then (132,⟨1,[],0,p.1,p.2⟩,0) else (0,⟨if wh ((x :: r').take n)=true then 4 else 1,(x :: r').take n,0,p.1,p.2⟩,n)
  else if jv x=true then
   let n:=jY jv (x :: r')
   if 7<n∨1000000<Qv ((x :: r').take n) then (132,⟨2,[],0,p.1,p.2⟩,0) else (0,⟨2,(x :: r').take n,Qv ((x :: r').take n),p.1,p.2⟩,n)
  else
   let n:=JR (x :: r')
   if n=0 then (131,⟨3,[],0,p.1,p.2⟩,0) else (0,⟨3,(x :: r').take n,0,p.1,p.2⟩,n)
def wX (s:List Nat):Prop:=s≠[]∧∀ c∈s,jv c=true
theorem Gf (p:Nat->Bool):∀ l:List Nat,∀ c∈l.take (jY p l),p c=true
 | [],c,h=>by simp at h
 | y :: l,c,h=>by
  simp only [jY] at h;by_cases hy:p y=true
  ·rw [if_pos hy,QbZ] at h;rcases Qbe.1 h with h | h
   ·rw [h]; exact hy
   ·exact Gf p l c h
  ·rw [if_neg hy] at h; simp at h
theorem Ht {x:Nat}{r:List Nat}(h:jv x=true):wX ((x :: r).take (jY jv (x :: r))):=by
 refine ⟨?_,Gf jv _⟩;have:jY jv (x :: r)=jY jv r+1:=by simp only [jY,if_pos h]
 rw [this,QbZ];simp
theorem jeA (s:List Nat):∀ v,(∀ c∈s,jv c=true)->s.foldl (λv c=>10 * v+(c - 48)) v+1≤(v+1) * 10 ^ s.length:=by
 induction s with
 | nil=>exact λv _=>by simp
 | cons c s ih=>
  intro v h;have hc:=h c (by simp);have hc9:c - 48≤9:=by
   unfold jv at hc;simp at hc;omega
  have:=ih (10 * v+(c - 48)) λd hd=>h d (by simp [hd]);refine Qav this ?_;rw [Qal,Nat.pow_succ,←Nat.mul_assoc,Nat.mul_right_comm];exact QaJ _ (by omega)
theorem jgX {s:List Nat}{n:Nat}(hn:s.length=n)(h7:n≤7)(h:∀ c∈s,jv c=true):Qv s≤99999999:=by
 have:=jeA s 0 h;have e:10 ^ s.length≤10 ^ 7:=Nat.pow_le_pow_right (by decide) (by omega);have e7:10 ^ 7=10000000:=by decide
 unfold Qv;omega
theorem kU (r:List Nat):∀ xs,Qc r xs≤r.length
 | []=>QaT _
 | y :: xs=>by
  show (if begins y r=true then y.length else Qc r xs)≤r.length;by_cases h:begins y r=true
  ·rw [if_pos h];rcases QaX r.length y.length with h2 | h2
   ·rw [Ui h2] at h; exact absurd h (by decide)
   ·exact h2
  ·rw [if_neg h]; exact kU r xs
theorem gJ (r:List Nat):JR r≤r.length:=kU r _
theorem WY {r:List Nat}{p:Nat×Nat}{e n:Nat}{t:Tk}(h:qL r p=(e,t,n)):n≤r.length:=by
 cases r with
 | nil=>simp [qL] at h; omega
 | cons x r'=>
  unfold qL at h;simp only at h;have h1:=XZ qO (x :: r');have h2:=XZ jv (x :: r');have h3:=gJ (x :: r');split at h
  ·split at h <;> simp only [Prod.mk.injEq] at h <;> omega
  ·split at h
   ·split at h <;> simp only [Prod.mk.injEq] at h <;> omega
   ·split at h <;> simp only [Prod.mk.injEq] at h <;> omega
theorem Gg {p:Nat->Bool}{x:Nat}{r:List Nat}(h:p x=true):0<jY p (x :: r):=by
 simp only [jY,if_pos h]; omega
theorem VI {r:List Nat}{p:Nat×Nat}{t:Tk}{n:Nat}(h:qL r p=(0,t,n)):(t.kind=5↔n=0)∧(n=0↔r=[]):=by
 cases r with
 | nil=>simp [qL] at h; obtain ⟨h1,h2⟩:=h; subst h1 h2; simp
 | cons x r'=>
  unfold qL at h;simp only at h;split at h
  ·rename_i hL;have hp:=Gg (p:=qO) (r:=r') (show qO x=true by unfold qO; rw [hL]; rfl);split at h
   ·simp at h
   ·simp only [Prod.mk.injEq] at h;obtain ⟨_,h1,h2⟩:=h;subst h1 h2;refine ⟨?_,?_⟩
    ·show ((if _ then 4 else 1)=5↔_);split <;> constructor <;> intro h <;> omega
    ·constructor
     ·intro h; omega
     ·intro h; simp at h
  ·split at h
   ·rename_i hD;have hp:=Gg (p:=jv) (r:=r') hD;split at h
    ·simp at h
    ·simp only [Prod.mk.injEq] at h;obtain ⟨_,h1,h2⟩:=h;subst h1 h2;refine ⟨?_,?_⟩
     ·show (2=5↔_);constructor <;> intro h <;> omega
     ·constructor
      ·intro h; omega
      ·intro h; simp at h
   ·split at h
    ·simp at h
    ·rename_i hz;simp only [Prod.mk.injEq] at h;obtain ⟨_,h1,h2⟩:=h;subst h1 h2;refine ⟨?_,?_⟩
     ·show (3=5↔_);constructor <;> intro h <;> omega
     ·constructor
      ·intro h; exact absurd h hz
      ·intro h; simp at h
def yr (r:List Nat)(p:Nat×Nat):List Tk×(Nat×Nat×Nat):=
 match h:qL (r.drop (jB r)) (jC p (r.take (jB r))) with
 | (e,t,n)=>
  if e≠0 then ([],(e,t.line,t.col))
  else if hn:n=0 then ([t],(0,0,0))
  else
   let q:=yr ((r.drop (jB r)).drop n) (jC (jC p (r.take (jB r))) ((r.drop (jB r)).take n))
   if q.2.1≠0 then ([],q.2) else (t :: q.1,q.2)
termination_by r.length
decreasing_by
 have h1:=WY h;have h2:=Y8 r;rw [QaQ] at h1;rw [QaQ,QaQ];omega
theorem Qr (r:List Nat)(p:Nat×Nat){e n:Nat}{t:Tk}(h:qL (r.drop (jB r)) (jC p (r.take (jB r)))=(e,t,n)):yr r p=if e≠0 then ([],(e,t.line,t.col)) else if n=0 then ([t],(0,0,0)) else if (yr ((r.drop (jB r)).drop n) (jC (jC p (r.take (jB r))) ((r.drop (jB r)).take n))).2.1≠0 then ([],(yr ((r.drop (jB r)).drop n) (jC (jC p (r.take (jB r))) ((r.drop (jB r)).take n))).2) else (t :: (yr ((r.drop (jB r)).drop n) (jC (jC p (r.take (jB r))) ((r.drop (jB r)).take n))).1,(yr ((r.drop (jB r)).drop n) (jC (jC p (r.take (jB r))) ((r.drop (jB r)).take n))).2):=by
 rw [yr];split
 rename_i e' t' n' h';rw [h] at h';simp only [Prod.mk.injEq] at h';obtain ⟨rfl,rfl,rfl⟩:=h';split
 ·rfl
 ·split <;> rfl
def ahead (acc:List Tk)(q:List Tk×(Nat×Nat×Nat)):List Tk×(Nat×Nat×Nat):=if q.2.1≠0 then ([],q.2) else (acc ++ q.1,q.2)
def j7 (l:List Nat):List Tk×(Nat×Nat×Nat):=if 65536<l.length then ([],(132,1,1)) else yr l (1,1)
theorem Kl (r:List Nat)(p:Nat×Nat):ahead [] (yr r p)=yr r p:=by
 unfold ahead;generalize hx:qL (r.drop (jB r)) (jC p (r.take (jB r)))=x;obtain ⟨e,t,n⟩:=x;rw [Qr r p hx];by_cases he:e≠0
 ·rw [if_pos he]; simp [he]
 ·rw [if_neg he];by_cases hn:n=0
  ·rw [if_pos hn]; simp
  ·rw [if_neg hn];generalize yr _ _=q;by_cases hq:q.2.1≠0
   ·rw [if_pos hq]; simp [hq]
   ·rw [if_neg hq];show (if q.2.1≠0 then _ else _)=_;rw [if_neg hq]; rfl
theorem jd8 {acc:List Tk}{r:List Nat}{p:Nat×Nat}{e n:Nat}{t:Tk}(h:qL (r.drop (jB r)) (jC p (r.take (jB r)))=(e,t,n))(he:e≠0):ahead acc (yr r p)=([],(e,t.line,t.col)):=by
 rw [Qr r p h,if_pos he];unfold ahead;rw [if_pos he]
theorem jd9 {acc:List Tk}{r:List Nat}{p:Nat×Nat}{t:Tk}(h:qL (r.drop (jB r)) (jC p (r.take (jB r)))=(0,t,0)):ahead acc (yr r p)=(acc ++ [t],(0,0,0)):=by
 rw [Qr r p h,if_neg (by decide),if_pos rfl];rfl
theorem Ur {acc:List Tk}{r:List Nat}{p:Nat×Nat}{n:Nat}{t:Tk}(h:qL (r.drop (jB r)) (jC p (r.take (jB r)))=(0,t,n))(hn:n≠0):ahead acc (yr r p)=ahead (acc ++ [t]) (yr ((r.drop (jB r)).drop n) (jC (jC p (r.take (jB r))) ((r.drop (jB r)).take n))):=by
 rw [Qr r p h,if_neg (by decide),if_neg hn];generalize yr _ _=q;unfold ahead;by_cases hq:q.2.1≠0
 ·rw [if_pos hq,if_pos hq]; simp [hq]
 ·rw [if_neg hq,if_neg hq];show _=(if q.2.1≠0 then _ else _);rw [if_neg hq];simp
end Go.Sy
end
noncomputable section
set_option maxRecDepth 100000
namespace Go.Sy
open Go.Ev Go.Proofs
def jih:XC:=(.seq (.ops [(oO 2 (.mv (.c (.bool false))))]) (.seq (.ops [(ot 3 0),(oo 4 (.bin .leq (.c (.int .u8 97)) (.t 3))),(ot 5 4),(og 6 5 (.mv (.t 0))),(og 7 5 (.bin .leq (.t 6) (.c (.int .u8 122)))),(oo 8 (.pick (.t 5) (.t 7) (.c (.bool false)))),(ot 9 8),(oh 10 9 (.mv (.t 0))),(oh 11 9 (.bin .leq (.c (.int .u8 65)) (.t 10))),(oh 12 9 (.mv (.t 11))),(og 13 12 (.mv (.t 0))),(og 14 12 (.bin .leq (.t 13) (.c (.int .u8 90)))),(oh 15 9 (.pick (.t 12) (.t 14) (.c (.bool false)))),(oo 16 (.pick (.t 9) (.c (.bool true)) (.t 15))),(oT 2 16)]) .ret))
def jiH:XF:=⟨[0],jih,[(.t 2)]⟩
theorem jly:ju Qaf 119=some jiH:=by kernel_rfl
def jie:XC:=(.seq (.ops [(oO 2 (.mv (.c (.bool false))))]) (.seq (.ops [(ot 3 0),(oo 4 (.bin .leq (.c (.int .u8 48)) (.t 3))),(ot 5 4),(og 6 5 (.mv (.t 0))),(og 7 5 (.bin .leq (.t 6) (.c (.int .u8 57)))),(oo 8 (.pick (.t 5) (.t 7) (.c (.bool false)))),(oT 2 8)]) .ret))
def jiE:XF:=⟨[0],jie,[(.t 2)]⟩
theorem jlv:ju Qaf 122=some jiE:=by kernel_rfl
def jig:XC:=(.seq (.ops [(oO 2 (.mv (.c (.bool false))))]) (.seq (.ops [(ot 3 0),(oc 4 119 [(.t 3)]),(ot 5 4),(oh 6 5 (.mv (.t 0))),⟨(some 7),false,(some (5,false)),(.call (.c (.fn 122 [])) [(.t 6)])⟩,(oo 8 (.pick (.t 5) (.c (.bool true)) (.t 7))),(ot 9 8),(oh 10 9 (.mv (.t 0))),(oh 11 9 (.bin .eql (.t 10) (.c (.int .u8 95)))),(oo 12 (.pick (.t 9) (.c (.bool true)) (.t 11))),(oT 2 12)]) .ret))
def jiG:XF:=⟨[0],jig,[(.t 2)]⟩
theorem jlx:ju Qaf 120=some jiG:=by kernel_rfl
def jif:XC:=(.seq (.ops [(oO 2 (.mv (.c (.bool false))))]) (.seq (.seq (.ops [(oT 3 0)]) (.block 0 (.seq (.seq (.ops [(oo 5 (.strb .eql (.t 3) (.c (.str [101,110,117,109])))),(oT 4 5)]) (.cond (.t 4) .skip (.seq (.ops [(oo 6 (.strb .eql (.t 3) (.c (.str [118,97,114])))),(oT 4 6)]) (.cond (.t 4) .skip (.seq (.ops [(oo 7 (.strb .eql (.t 3) (.c (.str [98,111,111,108])))),(oT 4 7)]) (.cond (.t 4) .skip (.seq (.ops [(oo 8 (.strb .eql (.t 3) (.c (.str [112,114,111,99,101,115,115])))),(oT 4 8)]) (.cond (.t 4) .skip (.seq (.ops [(oo 9 (.strb .eql (.t 3) (.c (.str [119,104,101,110])))),(oT 4 9)]) (.cond (.t 4) .skip (.seq (.ops [(oo 10 (.strb .eql (.t 3) (.c (.str [100,111])))),(oT 4 10)]) (.cond (.t 4) .skip (.seq (.ops [(oo 11 (.strb .eql (.t 3) (.c (.str [116,114,117,101])))),(oT 4 11)]) (.cond (.t 4) .skip (.seq (.ops [(oo 12 (.strb .eql (.t 3) (.c (.str [102,97,108,115,101])))),(oT 4 12)]) (.cond (.t 4) .skip (.seq (.ops [(oo 13 (.strb .eql (.t 3) (.c (.str [88])))),(oT 4 13)]) (.cond (.t 4) .skip (.seq (.ops [(oo 14 (.strb .eql (.t 3) (.c (.str [70])))),(oT 4 14)]) (.cond (.t 4) .skip (.seq (.ops [(oo 15 (.strb .eql (.t 3) (.c (.str [71])))),(oT 4 15)]) (.cond (.t 4) .skip (.seq (.ops [(oo 16 (.strb .eql (.t 3) (.c (.str [85])))),(oT 4 16)]) (.cond (.t 4) .skip (.seq (.ops [(oo 17 (.strb .eql (.t 3) (.c (.str [82])))),(oT 4 17)]) (.cond (.t 4) .skip (.seq (.ops [(oo 18 (.strb .eql (.t 3) (.c (.str [89])))),(oT 4 18)]) (.cond (.t 4) .skip (.seq (.ops [(oo 19 (.strb .eql (.t 3) (.c (.str [90])))),(oT 4 19)]) (.cond (.t 4) .skip (.seq (.ops [(oo 20 (.strb .eql (.t 3) (.c (.str [79])))),(oT 4 20)]) (.cond (.t 4) .skip (.seq (.ops [(oo 21 (.strb .eql (.t 3) (.c (.str [72])))),(oT 4 21)]) (.cond (.t 4) .skip (.seq (.ops [(oo 22 (.strb .eql (.t 3) (.c (.str [83])))),(oT 4 22)]) (.cond (.t 4) .skip (.ops [(oo 23 (.strb .eql (.t 3) (.c (.str [84])))),(oT 4 23)]))))))))))))))))))))))))))))))))))))) (.cond (.t 4) (.seq (.ops [(oO 2 (.mv (.c (.bool true))))]) .ret) .skip)))) (.seq (.ops [(oO 2 (.mv (.c (.bool false))))]) .ret)))
def jiF:XF:=⟨[0],jif,[(.t 2)]⟩
theorem jlw:ju Qaf 121=some jiF:=by kernel_rfl
def jil:XC:=(.seq (.ops [(oO 2 (.mv (.c (.bool false))))]) (.seq (.ops [(ot 3 0),(oo 4 (.bin .eql (.t 3) (.c (.int .u8 32)))),(ot 5 4),(oh 6 5 (.mv (.t 0))),(oh 7 5 (.bin .eql (.t 6) (.c (.int .u8 9)))),(oo 8 (.pick (.t 5) (.c (.bool true)) (.t 7))),(ot 9 8),(oh 10 9 (.mv (.t 0))),(oh 11 9 (.bin .eql (.t 10) (.c (.int .u8 10)))),(oo 12 (.pick (.t 9) (.c (.bool true)) (.t 11))),(oT 2 12)]) .ret))
def jiL:XF:=⟨[0],jil,[(.t 2)]⟩
theorem jlC:ju Qaf 115=some jiL:=by kernel_rfl
def jij:XC:=(.seq (.ops [(oO 2 (.mv (.c (.bool false))))]) (.seq (.ops [(ot 3 0),(oo 4 (.bin .neq (.t 3) (.c (.int .u8 10)))),(oT 2 4)]) .ret))
def jiJ:XF:=⟨[0],jij,[(.t 2)]⟩
theorem jlA:ju Qaf 117=some jiJ:=by kernel_rfl
def jim:XC:=(.seq (.ops [(oO 4 (.mv (.c (.int .i64 0))))]) (.seq (.seq (.ops [(ot 6 0),(oO 7 (.lenS (.t 6))),(oO 8 (.mv (.c (.int .i64 0))))]) (.block 0 (.loop (.seq (.ops [(oO 9 (.bin .lss (.t 8) (.t 7)))]) (.seq (.cond (.t 9) .skip (.exit 0)) (.seq (.block 1 (.seq (.ops [(ot 10 8),(oT 5 10)]) (.seq (.ops [(ot 11 1),(ot 12 0),(ot 13 5),(oo 14 (.ixStr (.t 12) (.t 13))),⟨(some 15),false,none,(.call (.t 11) [(.t 14)])⟩,(oO 16 (.un .not (.t 15)))]) (.cond (.t 16) (.seq (.ops [(ot 17 5),(oT 4 17)]) .ret) .skip)))) (.ops [(oo 18 (.bin .add (.t 8) (.c (.int .i64 1)))),(oT 8 18)]))))))) (.seq (.ops [(ot 19 0),(oo 20 (.lenS (.t 19))),(oT 4 20)]) .ret)))
def jiM:XF:=⟨[0,1],jim,[(.t 4)]⟩
theorem jlD:ju Qaf 114=some jiM:=by kernel_rfl
def jh8:XC:=(.seq (.ops [(oO 4 (.mv (.c (.bool false))))]) (.seq (.ops [(ot 5 0),(oo 6 (.lenS (.t 5))),(ot 7 1),(oo 8 (.lenS (.t 7))),(oo 9 (.bin .geq (.t 6) (.t 8))),(ot 10 9),(og 11 10 (.mv (.t 0))),(og 12 10 (.mv (.t 1))),(og 13 10 (.lenS (.t 12))),(og 14 10 (.slStr (.t 11) none (some (.t 13)))),(og 15 10 (.mv (.t 1))),(og 16 10 (.strb .eql (.t 14) (.t 15))),(oo 17 (.pick (.t 10) (.t 16) (.c (.bool false)))),(oT 4 17)]) .ret))
def jiy:XF:=⟨[0,1],jh8,[(.t 4)]⟩
theorem jlp:ju Qaf 149=some jiy:=by kernel_rfl
def jik:XC:=(.seq (.ops [(oO 4 (.mv (.c (.bool false))))]) (.seq (.ops [(ot 5 0),(ot 6 1),(oc 7 149 [(.t 5),(.t 6)]),(oT 4 7)]) .ret))
def jiK:XF:=⟨[0,1],jik,[(.t 4)]⟩
theorem jlB:ju Qaf 116=some jiK:=by kernel_rfl
def jh6:XC:=(.seq (.ops [(oO 3 (.mv (.c (.bool false))))]) (.seq (.ops [(oo 4 (.ld1 (.t 1))),(ot 5 0),(oc 6 116 [(.t 4),(.t 5)]),(oT 3 6)]) .ret))
def jiw:XF:=⟨[0,1],jh6,[(.t 3)]⟩
theorem jln:ju Qaf 153=some jiw:=by kernel_rfl
def jh7:XC:=(.seq (.ops [(oO 4 (.mv (.c (.int .i64 0))))]) (.seq (.seq (.ops [(ot 6 0),(oO 7 (.len (.t 6))),(oO 8 (.mv (.c (.int .i64 0))))]) (.block 0 (.loop (.seq (.ops [(oO 9 (.bin .lss (.t 8) (.t 7)))]) (.seq (.cond (.t 9) .skip (.exit 0)) (.seq (.block 1 (.seq (.ops [(ot 10 8),(oT 5 10)]) (.seq (.ops [(ot 11 1),(ot 12 0),(ot 13 5),(oo 14 (.idxS 1 (.t 12) (.t 13))),(oo 15 (.ld1 (.t 14))),⟨(some 16),true,none,(.call (.t 11) [(.t 15)])⟩]) (.cond (.t 16) (.seq (.ops [(ot 17 5),(oT 4 17)]) .ret) .skip)))) (.ops [(oo 18 (.bin .add (.t 8) (.c (.int .i64 1)))),(oT 8 18)]))))))) (.seq (.ops [(oO 4 (.mv (.c (.int .i64 (-(0+1))))))]) .ret)))
def jix:XF:=⟨[0,1],jh7,[(.t 4)]⟩
theorem jlo:ju Qaf 152=some jix:=by kernel_rfl
def jid:XC:=(.seq (.ops [(oO 1 (.box (.t 0))),(oO 2 (.mv (.c (.int .i64 0))))]) (.seq (.ops [(oo 5 (.build [(.str []),(.str []),(.str []),(.str []),(.str []),(.str []),(.str []),(.str []),(.str []),(.str []),(.str []),(.str []),(.str []),(.str []),(.str []),(.str []),(.str []),(.str []),(.str []),(.str []),(.str []),(.str []),(.str [])] [((0,1),(.c (.str [60,45,62]))),((1,1),(.c (.str [46,46]))),((2,1),(.c (.str [58,61]))),((3,1),(.c (.str [33,61]))),((4,1),(.c (.str [60,61]))),((5,1),(.c (.str [62,61]))),((6,1),(.c (.str [45,62]))),((7,1),(.c (.str [123]))),((8,1),(.c (.str [125]))),((9,1),(.c (.str [40]))),((10,1),(.c (.str [41]))),((11,1),(.c (.str [58]))),((12,1),(.c (.str [44]))),((13,1),(.c (.str [59]))),((14,1),(.c (.str [61]))),((15,1),(.c (.str [60]))),((16,1),(.c (.str [62]))),((17,1),(.c (.str [43]))),((18,1),(.c (.str [45]))),((19,1),(.c (.str [42]))),((20,1),(.c (.str [33]))),((21,1),(.c (.str [38]))),((22,1),(.c (.str [124])))])),(oO 3 (.alloc [(.str []),(.str []),(.str []),(.str []),(.str []),(.str []),(.str []),(.str []),(.str []),(.str []),(.str []),(.str []),(.str []),(.str []),(.str []),(.str []),(.str []),(.str []),(.str []),(.str []),(.str []),(.str []),(.str [])])),(os (.st 23 (.t 3) (.t 5)))]) (.seq (.ops [(oo 6 (.slA 23 1 (.t 3) none none)),(oo 7 (.fn 153 [(.t 1)])),(oc 8 152 [(.t 6),(.t 7)]),(oT 4 8)]) (.seq (.seq (.ops [(ot 9 4),(oO 10 (.bin .lss (.t 9) (.c (.int .i64 0))))]) (.cond (.t 10) (.seq (.ops [(oO 2 (.mv (.c (.int .i64 0))))]) .ret) .skip)) (.seq (.ops [(ot 11 4),(oo 12 (.idxA 23 1 (.t 3) (.t 11))),(oo 13 (.ld1 (.t 12))),(oo 14 (.lenS (.t 13))),(oT 2 14)]) .ret)))))
def jiD:XF:=⟨[0],jid,[(.t 2)]⟩
theorem jlu:ju Qaf 124=some jiD:=by kernel_rfl
def jii:XC:=(.seq (.seq (.cops [((ot 6 0),none),((oo 7 (.nilc (.t 6))),none),((oo 8 (.fad 0 (.t 7))),none),((oo 9 (.ld1 (.t 8))),none),((ot 10 0),none),((oo 11 (.nilc (.t 10))),none),((oo 12 (.fad 1 (.t 11))),none),((oo 13 (.ld1 (.t 12))),none),((ot 14 0),none),((oo 15 (.nilc (.t 14))),none),((oo 16 (.fad 1 (.t 15))),none),((oo 17 (.ld1 (.t 16))),none),((ot 18 1),none),((oo 19 (.bin .add (.t 17) (.t 18))),none),((oo 20 (.slStr (.t 9) (some (.t 13)) (some (.t 19)))),none),((oO 21 (.conv 9 203 (.t 20))),none),((oO 22 (.len (.t 21))),none),((oO 23 (.mv (.c (.int .i64 0)))),none)]) (.block 0 (.loop (.seq (.ops [(oO 24 (.bin .lss (.t 23) (.t 22)))]) (.seq (.cond (.t 24) .skip (.exit 0)) (.seq (.block 1 (.seq (.ops [(oo 25 (.idxS 1 (.t 21) (.t 23))),(oo 26 (.ld1 (.t 25))),(oT 5 26)]) (.seq (.ops [(ot 27 0),(oo 28 (.nilc (.t 27))),(oo 29 (.fad 3 (.t 28))),(oo 30 (.ld1 (.t 29))),(oo 31 (.bin .add (.t 30) (.c (.int .i64 1)))),(oo 32 (.nilc (.t 27))),(oo 33 (.fad 3 (.t 32))),(os (.st 1 (.t 33) (.t 31)))]) (.seq (.ops [(ot 34 5),(oO 35 (.bin .eql (.t 34) (.c (.int .u8 10))))]) (.cond (.t 35) (.ops [(ot 36 0),(ot 37 0),(ot 38 0),(oo 39 (.nilc (.t 38))),(oo 40 (.fad 2 (.t 39))),(oo 41 (.ld1 (.t 40))),(oo 42 (.bin .add (.t 41) (.c (.int .i64 1)))),(oo 43 (.nilc (.t 36))),(oo 44 (.fad 2 (.t 43))),(os (.st 1 (.t 44) (.t 42))),(oo 45 (.nilc (.t 37))),(oo 46 (.fad 3 (.t 45))),(os (.st 1 (.t 46) (.c (.int .i64 1))))]) .skip))))) (.ops [(oo 47 (.bin .add (.t 23) (.c (.int .i64 1)))),(oT 23 47)]))))))) (.ops [(ot 48 0),(oo 49 (.nilc (.t 48))),(oo 50 (.fad 1 (.t 49))),(oo 51 (.ld1 (.t 50))),(ot 52 1),(oo 53 (.bin .add (.t 51) (.t 52))),(oo 54 (.nilc (.t 48))),(oo 55 (.fad 1 (.t 54))),(os (.st 1 (.t 55) (.t 53)))]))
def jiI:XF:=⟨[0,1],jii,[]⟩
theorem jlz:ju Qaf 118=some jiI:=by kernel_rfl
def z74:XC:=(.block 0 (.loop (.block 1 (.seq (.cops [((ot 4 0),none),((oo 5 (.nilc (.t 4))),none),((oo 6 (.fad 0 (.t 5))),none),((oo 7 (.ld1 (.t 6))),none),((ot 8 0),none),((oo 9 (.nilc (.t 8))),none),((oo 10 (.fad 1 (.t 9))),none),((oo 11 (.ld1 (.t 10))),none),((oo 12 (.slStr (.t 7) (some (.t 11)) none)),none),((oT 2 12),none)]) (.seq (.ops [(ot 13 2),(oc 14 114 [(.t 13),(.c (.fn 115 []))]),(oT 3 14)]) (.seq (.seq (.ops [(ot 15 3),(oo 16 (.bin .eql (.t 15) (.c (.int .i64 0)))),(ot 17 16),(og 18 17 (.mv (.t 2))),⟨(some 19),false,(some (17,true)),(.call (.c (.fn 116 [])) [(.t 18),(.c (.str [47,47]))])⟩,(oO 20 (.pick (.t 17) (.t 19) (.c (.bool false))))]) (.cond (.t 20) (.ops [(ot 21 2),(oc 22 114 [(.t 21),(.c (.fn 117 []))]),(oT 3 22)]) .skip)) (.seq (.seq (.ops [(ot 23 3),(oO 24 (.bin .eql (.t 23) (.c (.int .i64 0))))]) (.cond (.t 24) .ret .skip)) (.ops [(ot 25 0),(ot 26 3),(oc 27 118 [(.t 25),(.t 26)])]))))))))
def y74:XF:=⟨[0],z74,[]⟩
theorem x74:ju Qaf 74=some y74:=by kernel_rfl
def z75:XC:=(.seq (.ops [(oO 2 (.alloc [(.int .i64 0),(.str []),(.int .i64 0),(.int .i64 0),(.int .i64 0)])),(oO 3 (.mv (.c (.int .i64 0))))]) (.seq (.cops [((ot 9 0),none),((oo 10 (.nilc (.t 9))),none),((oo 11 (.fad 0 (.t 10))),none),((oo 12 (.ld1 (.t 11))),none),((ot 13 0),none),((oo 14 (.nilc (.t 13))),none),((oo 15 (.fad 1 (.t 14))),none),((oo 16 (.ld1 (.t 15))),none),((oo 17 (.slStr (.t 12) (some (.t 16)) none)),none),((oT 4 17),none)]) (.seq (.cops [((ot 18 0),none),((oo 19 (.nilc (.t 18))),none),((oo 20 (.fad 2 (.t 19))),none),((oo 21 (.ld1 (.t 20))),none),((ot 22 0),none),((oo 23 (.nilc (.t 22))),none),((oo 24 (.fad 3 (.t 23))),none),((oo 25 (.ld1 (.t 24))),none),((oo 26 (.build [(.int .i64 0),(.str []),(.int .i64 0),(.int .i64 0),(.int .i64 0)] [((0,1),(.c (.int .i64 5))),((3,1),(.t 21)),((4,1),(.t 25))])),none),((oO 5 (.alloc [(.int .i64 0),(.str []),(.int .i64 0),(.int .i64 0),(.int .i64 0)])),none),((os (.st 5 (.t 5) (.t 26))),none)]) (.seq (.ops [(oO 6 (.mv (.c (.int .i64 0))))]) (.seq (.block 0 (.seq (.ops [(ot 34 4),(oo 35 (.strb .eql (.t 34) (.c (.str [])))),(oT 33 35)]) (.cond (.t 33) (.seq (.ops [(oo 36 (.ldA 5 (.t 5))),(os (.st 5 (.t 2) (.t 36))),(oO 3 (.mv (.c (.int .i64 0))))]) .ret) (.seq (.ops [(ot 38 4),(oo 39 (.ixStr (.t 38) (.c (.int .i64 0)))),(oc 40 119 [(.t 39)]),(oT 37 40)]) (.cond (.t 37) (.seq (.ops [(ot 41 4),(oc 42 114 [(.t 41),(.c (.fn 120 []))]),(oT 6 42),(oo 43 (.fad 0 (.t 5))),(os (.st 1 (.t 43) (.c (.int .i64 1))))]) (.seq (.seq (.ops [(ot 44 6),(oO 45 (.bin .gtr (.t 44) (.c (.int .i64 32))))]) (.cond (.t 45) (.seq (.ops [(oo 46 (.ldA 5 (.t 5))),(os (.st 5 (.t 2) (.t 46))),(oO 3 (.mv (.c (.int .i64 132))))]) .ret) .skip)) (.seq (.ops [(ot 47 4),(ot 48 6),(oo 49 (.slStr (.t 47) none (some (.t 48)))),⟨(some 50),true,none,(.call (.c (.fn 121 [])) [(.t 49)])⟩]) (.cond (.t 50) (.ops [(oo 51 (.fad 0 (.t 5))),(os (.st 1 (.t 51) (.c (.int .i64 4))))]) .skip)))) (.seq (.ops [(ot 53 4),(oo 54 (.ixStr (.t 53) (.c (.int .i64 0)))),(oc 55 122 [(.t 54)]),(oT 52 55)]) (.cond (.t 52) (.seq (.ops [(ot 56 4),(oc 57 114 [(.t 56),(.c (.fn 122 []))]),(oT 6 57),(oo 58 (.fad 0 (.t 5))),(os (.st 1 (.t 58) (.c (.int .i64 2))))]) (.seq (.ops [(ot 60 4),(ot 61 6),(oo 62 (.slStr (.t 60) none (some (.t 61)))),(oc 63 123 [(.t 62),(.c (.int .i64 10)),(.c (.int .i64 64))]),(ot 59 63),(oo 64 (.ext (.t 59) 0)),(oo 65 (.ext (.t 59) 1)),(oT 7 64),(oT 8 65)]) (.seq (.seq (.ops [(ot 66 6),(oo 67 (.bin .gtr (.t 66) (.c (.int .i64 7)))),(ot 68 67),(oh 69 68 (.mv (.t 8))),(oh 70 68 (.gen .neq 177 true (.t 69) (.c .nilif))),(oo 71 (.pick (.t 68) (.c (.bool true)) (.t 70))),(ot 72 71),(oh 73 72 (.mv (.t 7))),(oh 74 72 (.bin .gtr (.t 73) (.c (.int .i64 1000000)))),(oO 75 (.pick (.t 72) (.c (.bool true)) (.t 74)))]) (.cond (.t 75) (.seq (.ops [(oo 76 (.ldA 5 (.t 5))),(os (.st 5 (.t 2) (.t 76))),(oO 3 (.mv (.c (.int .i64 132))))]) .ret) .skip)) (.ops [(ot 77 7),(oo 78 (.fad 2 (.t 5))),(os (.st 1 (.t 78) (.t 77)))])))) (.seq (.ops [(ot 27 4),(oc 28 124 [(.t 27)]),(oT 6 28),(oo 29 (.fad 0 (.t 5))),(os (.st 1 (.t 29) (.c (.int .i64 3))))]) (.seq (.ops [(ot 30 6),(oO 31 (.bin .eql (.t 30) (.c (.int .i64 0))))]) (.cond (.t 31) (.seq (.ops [(oo 32 (.ldA 5 (.t 5))),(os (.st 5 (.t 2) (.t 32))),(oO 3 (.mv (.c (.int .i64 131))))]) .ret) .skip)))))))))) (.seq (.ops [(ot 79 4),(ot 80 6),(oo 81 (.slStr (.t 79) none (some (.t 80)))),(oo 82 (.fad 1 (.t 5))),(os (.st 1 (.t 82) (.t 81)))]) (.seq (.ops [(ot 83 0),(ot 84 6),(oc 85 118 [(.t 83),(.t 84)])]) (.seq (.ops [(oo 86 (.ldA 5 (.t 5))),(os (.st 5 (.t 2) (.t 86))),(oO 3 (.mv (.c (.int .i64 0))))]) .ret))))))))
def y75:XF:=⟨[0],z75,[(.cA 2 5),(.t 3)]⟩
theorem x75:ju Qaf 75=some y75:=by kernel_rfl
def z35:XC:=(.seq (.ops [(oO 2 (.mv (.c .nils))),(oO 3 (.alloc [(.int .i64 0),(.int .i64 0),(.int .i64 0)]))]) (.seq (.seq (.ops [(ot 8 0),(oo 9 (.lenS (.t 8))),(oO 10 (.bin .gtr (.t 9) (.c (.int .i64 65536))))]) (.cond (.t 10) (.seq (.ops [(oo 11 (.build [(.int .i64 0),(.int .i64 0),(.int .i64 0)] [((0,1),(.c (.int .i64 132))),((1,1),(.c (.int .i64 1))),((2,1),(.c (.int .i64 1)))])),(oO 2 (.mv (.c .nils))),(os (.st 3 (.t 3) (.t 11)))]) .ret) .skip)) (.seq (.ops [(ot 12 0),(oo 13 (.build [(.str []),(.int .i64 0),(.int .i64 0),(.int .i64 0)] [((0,1),(.t 12)),((2,1),(.c (.int .i64 1))),((3,1),(.c (.int .i64 1)))])),(oo 14 (.box (.t 13))),(oT 4 14)]) (.seq (.ops [(oO 5 (.mv (.c .nils)))]) (.block 0 (.loop (.block 1 (.seq (.ops [(ot 15 4),(oc 16 74 [(.t 15)])]) (.seq (.ops [(ot 18 4),(oc 19 75 [(.t 18)]),(ot 17 19),(oo 20 (.ext (.t 17) 0)),(oo 21 (.ext (.t 17) 1)),(oO 6 (.alloc [(.int .i64 0),(.str []),(.int .i64 0),(.int .i64 0),(.int .i64 0)])),(os (.st 5 (.t 6) (.t 20))),(oT 7 21)]) (.seq (.seq (.ops [(ot 22 7),(oO 23 (.bin .neq (.t 22) (.c (.int .i64 0))))]) (.cond (.t 23) (.seq (.cops [((ot 24 7),none),((oo 25 (.fad 3 (.t 6))),none),((oo 26 (.ld1 (.t 25))),none),((oo 27 (.fad 4 (.t 6))),none),((oo 28 (.ld1 (.t 27))),none),((oo 29 (.build [(.int .i64 0),(.int .i64 0),(.int .i64 0)] [((0,1),(.t 24)),((1,1),(.t 26)),((2,1),(.t 28))])),none),((oO 2 (.mv (.c .nils))),none),((os (.st 3 (.t 3) (.t 29))),none)]) .ret) .skip)) (.seq (.ops [(ot 30 5),(oo 31 (.ldA 5 (.t 6))),(oo 32 (.buildS 1 5 [(.int .i64 0),(.str []),(.int .i64 0),(.int .i64 0),(.int .i64 0)] [((0,5),(.t 31))])),(oo 33 (.app 5 48 (.t 30) (.t 32))),(oT 5 33)]) (.seq (.ops [(oo 34 (.fad 0 (.t 6))),(oo 35 (.ld1 (.t 34))),(oO 36 (.bin .eql (.t 35) (.c (.int .i64 5))))]) (.cond (.t 36) (.seq (.ops [(ot 37 5),(oo 38 (.build [(.int .i64 0),(.int .i64 0),(.int .i64 0)] [])),(oT 2 37),(os (.st 3 (.t 3) (.t 38)))]) .ret) .skip)))))))))))))
def y35:XF:=⟨[0],z35,[(.t 2),(.cA 3 3)]⟩
theorem x35:ju Qaf 35=some y35:=by kernel_rfl
end Go.Sy
end
noncomputable section
set_option maxRecDepth 100000
namespace Go.Sy
open Go.Ev Go.Proofs
variable {base:Bs}
theorem WZ (hb:NB base)(c:Nat):Tot base 119 [.int .u8 (c:Int)] (.bool (jV c)):=by
 refine hb.tot ?_ rfl rfl;refine jz jly (by rfl) (hb.pur 119 1 (by decide)) ?_;simp only [jiH,jj,Qai,Qam,Qag,Qah];unfold jih;try dsimp only [oo,oO,ot,oT,os,og,oh,oc,on,oN,oP]
 repeat' (first | (apply jc <;> intro _) | simp (disch:=first | exact dzA | fail) only [rzZ,Qab,Qac,Qad,Qaa,Qae])
 all_goals (refine G0.v (congrArg AV.bool ?_) rfl; rw [QaW]; simp only [jV,Qbg,Qas,decide_eq_true_eq,Qbb,QbK,QaV,decide_eq_false_iff_not,true_iff,false_iff,iff_true,iff_false,not_true_eq_false,not_false_eq_true,ne_eq,eq_self] <;> omega)
theorem jat (hb:NB base)(c:Nat):Tot base 122 [.int .u8 (c:Int)] (.bool (jv c)):=by
 refine hb.tot ?_ rfl rfl;refine jz jlv (by rfl) (hb.pur 122 1 (by decide)) ?_;simp only [jiE,jj,Qai,Qam,Qag,Qah];unfold jie;try dsimp only [oo,oO,ot,oT,os,og,oh,oc,on,oN,oP]
 repeat' (first | (apply jc <;> intro _) | simp (disch:=first | exact dzA | fail) only [rzZ,Qab,Qac,Qad,Qaa,Qae])
 all_goals (refine G0.v (congrArg AV.bool ?_) rfl; rw [QaW]; simp only [jv,Qbg,Qas,decide_eq_true_eq,Qbb,QbK,QaV,decide_eq_false_iff_not,true_iff,false_iff,iff_true,iff_false,not_true_eq_false,not_false_eq_true,ne_eq,eq_self] <;> omega)
theorem jae (hb:NB base)(c:Nat):Tot base 120 [.int .u8 (c:Int)] (.bool (qO c)):=by
 refine hb.tot ?_ rfl rfl;refine jz jlx (by rfl) (hb.pur 120 1 (by decide)) ?_;simp only [jiG,jj,Qai,Qam,Qag,Qah];unfold jig;try dsimp only [oo,oO,ot,oT,os,og,oh,oc,on,oN,oP]
 repeat' (first | (apply jc <;> intro _) | simp (disch:=first | exact dzA | fail) only [WZ hb,jat hb,rzZ,Qab,Qac,Qad,Qaa,Qae])
 all_goals (refine G0.v (congrArg AV.bool ?_) rfl; unfold qO; simp_all; try omega)
theorem jhI (hb:NB base)(c:Nat):Tot base 115 [.int .u8 (c:Int)] (.bool (qp c)):=by
 refine hb.tot ?_ rfl rfl;refine jz jlC (by rfl) (hb.pur 115 1 (by decide)) ?_;simp only [jiL,jj,Qai,Qam,Qag,Qah];unfold jil;try dsimp only [oo,oO,ot,oT,os,og,oh,oc,on,oN,oP]
 repeat' (first | (apply jc <;> intro _) | simp (disch:=first | exact dzA | fail) only [rzZ,Qab,Qac,Qad,Qaa,Qae])
 all_goals (refine G0.v (congrArg AV.bool ?_) rfl; rw [QaW]; simp only [qp,Qbg,Qas,decide_eq_true_eq,Qbb,QbK,QaV,decide_eq_false_iff_not,true_iff,false_iff,iff_true,iff_false,not_true_eq_false,not_false_eq_true,ne_eq,eq_self] <;> omega)
theorem je5 (hb:NB base)(c:Nat):Tot base 117 [.int .u8 (c:Int)] (.bool (Jp c)):=by
 refine hb.tot ?_ rfl rfl;refine jz jlA (by rfl) (hb.pur 117 1 (by decide)) ?_;simp only [jiJ,jj,Qai,Qam,Qag,Qah];unfold jij;try dsimp only [oo,oO,ot,oT,os,og,oh,oc,on,oN,oP]
 repeat' (first | (apply jc <;> intro _) | simp (disch:=first | exact dzA | fail) only [rzZ,Qab,Qac,Qad,Qaa,Qae])
 all_goals (refine G0.v (congrArg AV.bool ?_) rfl; rw [QaW]; simp only [Jp,Qbg,Qas,decide_eq_true_eq,Qbb,QbK,QaV,decide_eq_false_iff_not,true_iff,false_iff,iff_true,iff_false,not_true_eq_false,not_false_eq_true,ne_eq,eq_self] <;> omega)
theorem jeg (hb:NB base)(l:List Nat):Tot base 121 [.str l] (.bool (wh l)):=by
 refine hb.tot ?_ rfl rfl;refine jz jlw (by rfl) (hb.pur 121 1 (by decide)) ?_;simp only [jiF,jj,Qai,Qam,Qag,Qah];unfold jif;try dsimp only [oo,oO,ot,oT,os,og,oh,oc,on,oN,oP]
 repeat' (first | (apply jc <;> intro _) | simp (disch:=first | exact dzA | fail) only [rzZ,Qab,Qac,Qad,Qaa,Qae])
 all_goals (refine G0.v ?_ rfl; unfold wh Wl; simp [*])
def Pt (base:Bs)(f:FuncId)(p:Nat->Bool):Prop:=∀ c:Nat,Tot base f [.int .u8 (c:Int)] (.bool (p c))
theorem Vr (hb:NB base)(l:List Nat)(hl:l.length≤4611686018427387904){f:FuncId}{p:Nat->Bool}(hf:Pt base f p):Tot base 114 [.str l,.fn f []] (.int .i64 (jY p l)):=by
 refine hb.tot ?_ rfl rfl;refine jz jlD (by rfl) (hb.pur 114 1 (by decide)) ?_;simp only [jiM,jj,Qai,Qam,Qag,Qah];unfold jim;try dsimp only [oo,oO,ot,oT,os,og,oh,oc,on,oN,oP]
 repeat' (first | (apply jc <;> intro _) | simp (disch:=first | exact dzA | fail) only [rzZ,Qab,Qac,Qad,Qaa,Qae])
 refine qn l.length (λk L s=>(∀ j,j<k->p (l.getD j 0)=true)∧Has L 0 (.str l)∧Has L 1 (.fn f [])) (by first | assumption | omega) (by decide) (by simp (disch:=decide) only [jd,jb]) (by simp (disch:=decide) only [jd,jb]) ?_ (λk L s v h=>by simp (disch:=decide) only [jb]; exact h) (λk L s v h=>by simp (disch:=decide) only [jb]; exact h) (λk L s hk hI hi hn=>?_) (λL s hI=>?_)
 ·refine ⟨λj hj=>absurd hj (Qbw _),?_⟩;simp (disch:=decide) only [Qaj,Qan,z0,z1,jd,jb,and_true,true_and]
 ·obtain ⟨h0,i0,i1⟩:=hI;repeat' (first | (apply jc <;> intro _) | simp (disch:=first | exact dzA | fail) only [ja i0,ja i1,ja hi,hf (l.getD k 0),rzZ,Qab,Qac,Qad,Qaa,Qae])
  ·exact G0.v (by rw [Wk (Nat.le_of_lt hk) h0 (.inr ‹_›)]) rfl
  ·refine ⟨⟨λj hj=>?_,?_⟩,?_⟩
   ·rcases QaX j k with h | h
    ·exact h0 j h
    ·rw [show j=k by omega]; simpa using ‹¬ p (l.getD k 0)=false›
   ·simp (disch:=decide) only [Qaj,Qan,z0,z1,jd,jb,and_true,true_and,i0,i1]
   ·simp (disch:=decide) only [Qaj,Qan,z0,z1,jd,jb,and_true,true_and,hi,hn]
 ·obtain ⟨h0,i0,i1⟩:=hI;repeat' (first | (apply jc <;> intro _) | simp (disch:=first | exact dzA | fail) only [ja i0,rzZ,Qab,Qac,Qad,Qaa,Qae])
  exact G0.v (by rw [Wk (Qaq _) h0 (.inl rfl)]) rfl
theorem jky (hb:NB base)(l q:List Nat)(hl:l.length≤4611686018427387904):Tot base 149 [.str l,.str q] (.bool (begins q l)):=by
 refine hb.tot ?_ rfl rfl;refine jz jlp (by rfl) (hb.pur 149 1 (by decide)) ?_;simp only [jiy,jj,Qai,Qam,Qag,Qah];unfold jh8;try dsimp only [oo,oO,ot,oT,os,og,oh,oc,on,oN,oP]
 repeat' (first | (apply jc <;> intro _) | simp (disch:=first | exact dzA | fail) only [rzZ,Qab,Qac,Qad,Qaa,Qae])
 ·exact G0.v rfl rfl
 ·exact G0.v (by rw [Ui (by omega)]) rfl
theorem WM (hb:NB base)(l q:List Nat)(hl:l.length≤4611686018427387904):Tot base 116 [.str l,.str q] (.bool (begins q l)):=by
 refine hb.tot ?_ rfl rfl;refine jz jlB (by rfl) (hb.pur 116 1 (by decide)) ?_;simp only [jiK,jj,Qai,Qam,Qag,Qah];unfold jik;try dsimp only [oo,oO,ot,oT,os,og,oh,oc,on,oN,oP]
 repeat' (first | (apply jc <;> intro _) | simp (disch:=first | exact dzA | fail) only [jky hb l q hl,rzZ,Qab,Qac,Qad,Qaa,Qae])
 exact G0.v rfl rfl
end Go.Sy
end
noncomputable section
set_option maxRecDepth 100000
namespace Go.Sy
open Go.Ev Go.Proofs
variable {base:Bs}
theorem Cl.bar {s:St}{b:Nat}{cs:List AV}(h:Cl s b cs):Cl s.bare b cs:=⟨h.lt,h.row,h.len,h.cell⟩
theorem jcM (hb:NB base)(r x:List Nat)(hr:r.length≤4611686018427387904){st:St}{b:Nat}(C:Cl st b [.str r])(K Kp:AV->St->Prop):XB Qaf base 153 [.str x,.ptr b 0] st K Kp=K (.bool (begins x r)) st:=by
 refine jaJ (λK Kp hK=>?_) K Kp;refine Q7 jln (by rfl) (hb.at0 153 (by decide) (by decide) _ _) ?_;simp only [jiw,jj,Qai,Qam,Qag,Qah];unfold jh6;try dsimp only [oo,oO,ot,oT,os,og,oh,oc,on,oN,oP]
 have C:=C.bar;have hbk:bk st st.bare=st:=rfl;have hbc:back st st.bare=st:=rfl;have hbb:st.bare.bare=st.bare:=rfl;generalize st.bare=s0 at *
 (have zz:=C.r; (repeat' (first | (apply jc <;> intro _) | simp (disch:=first | exact Zy | fail) only [WM hb r x hr,hbk,hbc,hbb,C.q,C.r,rzZ,Qab,Qac,Qad,Qaa,Qae])); (all_goals (clear zz)))
 exact hK
theorem jhT (hb:NB base){xs:List (List Nat)}(hn:xs.length≤1000000)(f:FuncId)(caps:List AV)(q:List Nat->Bool){st:St}{b c:Nat}{x:Bool}(C:Cl st b (xs.map .str))
  (hq:∀ y K Kp,XB Qaf base f (.str y :: caps) st.bare K Kp=K (.bool (q y)) st.bare) (K Kp:AV->St->Prop):XB Qaf base 152 [.slice b 0 xs.length c 1 x,.fn f caps] st K Kp=K (.int .i64 (fi q xs)) st:=by
 refine jaJ (λK Kp hK=>?_) K Kp;refine Q7 jlo (by rfl) (hb.at0 152 (by decide) (by decide) _ _) ?_;simp only [jix,jj,Qai,Qam,Qag,Qah];unfold jh7;try dsimp only [oo,oO,ot,oT,os,og,oh,oc,on,oN,oP]
 have C:=C.bar;have hbk:bk st st.bare=st:=rfl;have hbc:back st st.bare=st:=rfl;have hbb:st.bare.bare=st.bare:=rfl;generalize st.bare=s0 at *;have hl:(xs.map AV.str).length=xs.length:=QaN ..;repeat' (first | (apply jc <;> intro _) | simp (disch:=first | exact dzA | fail) only [rzZ,Qab,Qac,Qad,Qaa,Qae])
 refine qn xs.length (λk L s=>s=s0∧(∀ j (h1:j<xs.length),j<k->q xs[j]=false)∧Has L 0 (.slice b 0 xs.length c 1 x)∧Has L 1 (.fn f caps)) (by first | assumption | omega) (by decide) (by simp (disch:=decide) only [jd,jb]) (by simp (disch:=decide) only [jd,jb]) ?_ (λk L s v h=>by simp (disch:=decide) only [jb]; exact h) (λk L s v h=>by simp (disch:=decide) only [jb]; exact h) (λk L s hk hI hi hn=>?_) (λL s hI=>?_)
 ·refine ⟨rfl,λj _ hj=>absurd hj (Qbw _),?_⟩;simp (disch:=decide) only [Qaj,Qan,z0,z1,jd,jb,and_true,true_and]
 ·obtain ⟨rfl,h0,i0,i1⟩:=hI;have e:(xs.map AV.str).getD k .bad=.str xs[k]:=by simp [QaO,hk]
  (have zz:=C.r; (repeat' (first | (apply jc <;> intro _) | simp (disch:=first | exact Zy | fail) only [ja i0,ja i1,ja hi,hq,hl,e,hbk,hbc,hbb,C.q,C.r,rzZ,Qab,Qac,Qad,Qaa,Qae])); (all_goals (clear zz)))
  ·rw [K7 hk (λj hj=>h0 j (by omega) hj) ‹_›] at hK; exact hK
  ·refine ⟨⟨λj h1 hj=>?_,?_⟩,?_⟩
   ·rcases QaX j k with h | h
    ·exact h0 j h1 h
    ·have:j=k:=by omega
     subst this; simpa using ‹¬ q xs[j]=true›
   ·simp (disch:=decide) only [Qaj,Qan,z0,z1,jd,jb,and_true,true_and,i0,i1]
   ·simp (disch:=decide) only [Qaj,Qan,z0,z1,jd,jb,and_true,true_and,hi,hn]
 ·obtain ⟨rfl,h0,i0,i1⟩:=hI;repeat' (first | (apply jc <;> intro _) | simp (disch:=first | exact dzA | fail) only [hbk,hbc,hbb,rzZ,Qab,Qac,Qad,Qaa,Qae])
  rw [K6 λj hj=>h0 j hj hj] at hK;exact hK
theorem kV (r:List Nat):∀ xs:List (List Nat),(fi (λx=>begins x r) xs<0∧Qc r xs=0)∨∃ k,∃ h:k<xs.length,fi (λx=>begins x r) xs=k∧Qc r xs=xs[k].length
 | []=>.inl ⟨by show (-1:Int)<0; decide,rfl⟩
 | y :: xs=>by
  by_cases h:begins y r=true
  ·exact .inr ⟨0,by simp,by simp [fi,h],by simp [Qc,h]⟩
  ·rcases kV r xs with ⟨h1,h2⟩ | ⟨k,hk,h1,h2⟩
   ·exact .inl ⟨by simp [fi,h,h1],by simp [Qc,h,h2]⟩
   ·exact .inr ⟨k+1,by simpa using hk,by simp [fi,h,h1]; omega,by simp [Qc,h,h2]⟩
theorem jeL {k:Nat}(h:k<yz.length):(yz.map AV.str).getD k .bad=.str yz[k]:=by simp [QaO,h]
theorem jjk (hb:NB base)(r:List Nat)(hr:r.length≤4611686018427387904):Tot base 124 [.str r] (.int .i64 (JR r)):=by
 refine hb.tot ?_ rfl rfl;refine jz jlu (by rfl) (hb.pur 124 1 (by decide)) ?_;simp only [jiD,jj,Qai,Qam,Qag,Qah];unfold jid;try dsimp only [oo,oO,ot,oT,os,og,oh,oc,on,oN,oP]
 repeat' (first | (apply jc <;> intro _) | simp (disch:=first | exact dzA | fail) only [rzZ,Qab,Qac,Qad,Qaa,Qae])
 refine XB.gen λu hu=>?_;have C0:Cl u 0 [.str r]:=by rw [hu]; exact ((Cl.new st0 [.str r]).nw _).wrO (by decide) _ _
 have C1:Cl u 1 (yz.map .str):=by rw [hu]; exact (Cl.new (nw st0 _) _).wr0 rfl
 clear hu;rw [show (23:Nat)=yz.length from rfl,jhT hb (xs:=yz) (by decide) 153 [.ptr 0 0] (λx=>begins x r) C1 λy K Kp=>jcM hb r y hr C0.bar K Kp];unfold JR;rcases kV r yz with ⟨h1,h2⟩ | ⟨k,hk,h1,h2⟩
 ·repeat' (first | (apply jc <;> intro _) | simp (disch:=first | exact dzA | fail) only [rzZ,Qab,Qac,Qad,Qaa,Qae])
  exact G0.v (by rw [h2]; rfl) rfl
 ·have hk':k<23:=hk;have e:=jeL hk;have e2:qq u.h 1=23:=C1.len;have e3:rat u.h 1 k=.str yz[k]:=(C1.cell k (by rw [QaN]; exact hk)).trans e;repeat' (first | (apply jc <;> intro _) | simp (disch:=first | exact dzA | fail) only [h1,e2,e3,rzZ,Qab,Qac,Qad,Qaa,Qae])
  refine G0.v ?_ rfl;rw [h2] <;> rfl
def cC (l:List Nat)(a:Nat)(p:Nat×Nat):List AV:=[.str l,.int .i64 (a:Int),.int .i64 (p.1:Int),.int .i64 (p.2:Int)]
theorem u9:Tryz.prog.underlying 9=some .string:=by kernel_rfl
theorem jlF:Tryz.prog.underlying 203=some (.slice 5):=by kernel_rfl
theorem u5:Tryz.prog.underlying 5=some (.int .u8):=by kernel_rfl
theorem jcL (hb:NB base){l:List Nat}{a n:Nat}{p:Nat×Nat}(hn:a+n≤l.length)(hl:l.length≤1073741824)(h1:p.1≤1073741824)(h2:p.2≤1073741824)(hc:1≤p.2) :
  Met Qaf base 118 (cC l a p) [.int .i64 (n:Int)] (.ok (.tup [])) (cC l (a+n) (jC p ((l.drop a).take n))):=by
 refine PM.met ?_ rfl λp st=>hb.no 118 (by decide) _ _;refine jW jlz (by rfl) (hb.pur 118 3 (by decide)) rfl ?_;simp only [jiI,jj,Qai,Qam,Qag,Qah];unfold jii;try dsimp only [oo,oO,ot,oT,os,og,oh,oc,on,oN,oP]
 have hbs:((l.drop a).take n).length=n:=by rw [QaP,QaQ]; omega
 have e1:((a:Int)+(n:Int) - (a:Int)).toNat=n:=by omega
 unfold cC at *;repeat' (first | (apply jc <;> intro _) | simp (disch:=first | exact dzA | fail) only [jhM u9 jlF u5,e1,hbs,rzZ,Qab,Qac,Qad,Qaa,Qae])
 generalize (l.drop a).take n=bs at *;refine qn n (λk L s=>Cl s 0 (cC l a (jC p (bs.take k)))∧Cl s 1 (bs.map λ(c:Nat)=>.int .u8 (c:Int))∧Has L 0 (.ptr 0 0)∧Has L 1 (.int .i64 (n:Int))∧Has L 21 (.slice 1 0 n n 1 false)) (by first | assumption | omega) (by decide) (by simp (disch:=decide) only [jd,jb]) (by simp (disch:=decide) only [jd,jb]) ?_ (λk L s v h=>by simp (disch:=decide) only [jb]; exact h) (λk L s v h=>by simp (disch:=decide) only [jb]; exact h) (λk L s hk hI hi hn=>?_) (λL s hI=>?_)
 ·refine ⟨(Cl.new st0 (cC l a p)).nw _,Cl.new (nw st0 _) _,?_⟩;simp (disch:=decide) only [Qaj,Qan,z0,z1,jd,jb,and_true,true_and]
 ·obtain ⟨C0,C1,i0,i1,i21⟩:=hI;have hk':k<bs.length:=by omega
  have e2:rat s.h 1 k=.int .u8 ((bs[k]:Nat):Int):=(C1.cell k (by rw [QaN]; exact hk')).trans (by simp [QaO,hk']);have e3:qq s.h 1=n:=by rw [C1.len,QaN]; exact hbs
  have hw:=w9 (bs.take k) p hc;have e4:jC p (bs.take (k+1))=Xg (jC p (bs.take k)) bs[k]:=by rw [Jm hk',vZ]; rfl
  rw [QaP] at hw;generalize jC p (bs.take k)=q at *;rw [e4];have L0:=C0.lt;have L1:=C1.lt;unfold cC at *
  (have zz:=C0.r; (repeat' (first | (apply jc <;> intro _) | simp (disch:=first | exact Zy | fail) only [ja i0,ja i1,ja i21,ja hi,e2,e3,C0.q,C0.r,rzZ,Qab,Qac,Qad,Qaa,Qae])); (all_goals (clear zz)))
  ·refine ⟨⟨?_,?_,?_⟩,?_⟩
   ·have e5:bs[k]=10:=by omega
    rw [show Xg q bs[k]=(q.1+1,1) from if_pos e5]
    (apply Cl.cv; (· (repeat' (first | exact C0 | apply Cl.wr | apply Cl.nw))); (· (simp only [XJ,Xe,X6,YB,YA,Qai] <;> first | rfl | (simp; done) | (simp; omega))))
   ·simp (disch:=first | assumption | decide | omega | (simp only [jg,jh,jo,jk,jm,qT,Qal,Qap]; first | done | omega)) only [jE,jG,jD]; exact C1
   ·simp (disch:=decide) only [Qaj,Qan,z0,z1,jd,jb,and_true,true_and,i0,i1,i21]
   ·simp (disch:=decide) only [Qaj,Qan,z0,z1,jd,jb,and_true,true_and,hi,hn]
  ·refine ⟨⟨?_,?_,?_⟩,?_⟩
   ·have e5:¬ bs[k]=10:=by omega
    rw [show Xg q bs[k]=(q.1,q.2+1) from if_neg e5]
    (apply Cl.cv; (· (repeat' (first | exact C0 | apply Cl.wr | apply Cl.nw))); (· (simp only [XJ,Xe,X6,YB,YA,Qai] <;> first | rfl | (simp; done) | (simp; omega))))
   ·simp (disch:=first | assumption | decide | omega | (simp only [jg,jh,jo,jk,jm,qT,Qal,Qap]; first | done | omega)) only [jE,jG,jD]; exact C1
   ·simp (disch:=decide) only [Qaj,Qan,z0,z1,jd,jb,and_true,true_and,i0,i1,i21]
   ·simp (disch:=decide) only [Qaj,Qan,z0,z1,jd,jb,and_true,true_and,hi,hn]
 ·obtain ⟨C0,C1,i0,i1,i21⟩:=hI;rw [←hbs,QaK] at C0;have L0:=C0.lt;unfold cC at *
  (have zz:=C0.r; (repeat' (first | (apply jc <;> intro _) | simp (disch:=first | exact Zy | fail) only [ja i0,ja i1,C0.q,C0.r,rzZ,Qab,Qac,Qad,Qaa,Qae])); (all_goals (clear zz)))
  refine G1.done ?_ rfl rfl FzD.u;simp (disch:=first | assumption | decide | omega | (simp only [jg,jh,jo,jk,jm,qT,Qal,Qap]; first | done | omega)) only [jE,jG,jD]
  (apply Cl.cv; (· (repeat' (first | exact C0 | apply Cl.wr | apply Cl.nw))); (· (simp only [XJ,Xe,X6,YB,YA,Qai] <;> first | rfl | (simp; done) | (simp; omega))))
end Go.Sy
end
noncomputable section
set_option maxRecDepth 100000
namespace Go.Sy
open Go.Ev Go.Proofs
variable {base:Bs}
theorem jfB (hb:NB base){l:List Nat}{a:Nat}{p:Nat×Nat}(ha:a≤l.length)(hl:l.length≤1048576)(hp1:p.1+(l.length - a)≤1073741824)(hp2:1≤p.2)(hp3:p.2+(l.length - a)≤1073741824) :
  Met Qaf base 74 (cC l a p) [] (.ok (.tup [])) (cC l (a+jB (l.drop a)) (jC p ((l.drop a).take (jB (l.drop a))))):=by
 refine PM.met ?_ rfl λp st=>hb.no 74 (by decide) _ _;refine jW x74 (by rfl) (hb.pur 74 3 (by decide)) rfl ?_;simp only [y74,jj,Qai,Qam,Qag,Qah];unfold z74;try dsimp only [oo,oO,ot,oT,os,og,oh,oc,on,oN,oP]
 rw [uZ];refine zG (λmm L s=>∃ d:Nat,a+d≤l.length∧mm=l.length - (a+d)∧Cl s 0 (cC l (a+d) (jC p ((l.drop a).take d)))∧jB (l.drop a)=d+jB (l.drop (a+d))∧Has L 0 (.ptr 0 0)) ?_ (l.length - a) ?_
 ·rintro mm L s ⟨d,hd,rfl,C,hg,i0⟩;have W:=w9 ((l.drop a).take d) p hp2;have hlt:((l.drop a).take d).length=d:=by rw [QaP,QaQ]; omega
  rw [hlt] at W;have hrl:(l.drop (a+d)).length=l.length - (a+d):=QaQ;have hgap:gap (l.drop (a+d))=if jY qp (l.drop (a+d))=0∧begins [47,47] (l.drop (a+d))=true then jY Jp (l.drop (a+d)) else jY qp (l.drop (a+d)):=rfl
  have hgl:=uu (l.drop (a+d));have hwalk:jC (jC p ((l.drop a).take d)) ((l.drop (a+d)).take (gap (l.drop (a+d))))=jC p ((l.drop a).take (d+gap (l.drop (a+d)))):=by
   rw [←vZ,List.take_add,QbC]
  have hg1:=λ(h:gap (l.drop (a+d))≠0)=>Gw h;have hg0:=λ(h:gap (l.drop (a+d))=0)=>Gx h;have hdrop:(l.drop (a+d)).drop (gap (l.drop (a+d)))=l.drop (a+(d+gap (l.drop (a+d)))):=by rw [QbC,QbB]
  have S:=@jcL base hb l (a+d) (gap (l.drop (a+d))) (jC p ((l.drop a).take d)) (by omega) (by omega) (by omega) (by omega) (by omega);have S1:=λK Kp=>S C K Kp;have L0:=C.lt;rw [hwalk] at S1;have R1:=Vr hb (l.drop (a+d)) (by omega) (jhI hb);have R2:=Vr hb (l.drop (a+d)) (by omega) (je5 hb);have R3:=WM hb (l.drop (a+d)) [47,47] (by omega);have fin:gap (l.drop (a+d))=0->G1 4 (cC l (a+jB (l.drop a)) (jC p ((l.drop a).take (jB (l.drop a))))) (.tup []) (.tup []) s.bare:=λh=>by
   rw [hg,hg0 h,QbV];exact G1.done (jD.symm▸C) rfl rfl FzD.u
  have go:gap (l.drop (a+d))≠0->∀ L,Has L 0 (.ptr 0 0)->∃ k',k'<l.length - (a+d)∧∃ d2:Nat,a+d2≤l.length∧k'=l.length - (a+d2)∧Cl (wr s 0 0 (cC l (a+d+gap (l.drop (a+d))) (jC p ((l.drop a).take (d+gap (l.drop (a+d))))))) 0 (cC l (a+d2) (jC p ((l.drop a).take d2)))∧jB (l.drop a)=d2+jB (l.drop (a+d2))∧Has L 0 (.ptr 0 0):=λh L i=>by
   refine ⟨l.length - (a+(d+gap (l.drop (a+d)))),by omega,d+gap (l.drop (a+d)),by omega,rfl,?_,by rw [hg,hg1 h,hdrop,QbB],i⟩;rw [QbB];exact C.wr0 rfl
  generalize hJ:(λ(L:Sl) (st':St)=>∃ k',k'<l.length - (a+d)∧∃ d2:Nat,a+d2≤l.length∧k'=l.length - (a+d2)∧Cl st' 0 (cC l (a+d2) (jC p ((l.drop a).take d2)))∧jB (l.drop a)=d2+jB (l.drop (a+d2))∧Has L 0 (.ptr 0 0))=J at *;have go2:gap (l.drop (a+d))≠0->∀ L,Has L 0 (.ptr 0 0)->J L (wr s 0 0 (cC l (a+d+gap (l.drop (a+d))) (jC p ((l.drop a).take (d+gap (l.drop (a+d))))))):=λh L i=>by rw [←hJ]; exact go h L i
  clear go;unfold cC at *;by_cases h1:jY qp (l.drop (a+d))=0
  ·cases h2:begins [47,47] (l.drop (a+d)) with
   | true=>
    rw [if_pos ⟨h1,h2⟩] at hgap;rw [←hgap] at R2;by_cases hz:gap (l.drop (a+d))=0
    ·(have zz:=C.r; (repeat' (first | (apply jc <;> intro _) | simp (disch:=first | exact Zy | fail) only [ja i0,R1,R2,R3,h1,h2,hz,C.q,C.r,rzZ,Qab,Qac,Qad,Qaa,Qae])); (all_goals (clear zz)))
     exact fin hz
    ·(have zz:=C.r; (repeat' (first | (apply jc <;> intro _) | simp (disch:=first | exact Zy | fail) only [ja i0,R1,R2,R3,S1,h1,h2,hz,C.q,C.r,rzZ,Qab,Qac,Qad,Qaa,Qae])); (all_goals (clear zz)))
     exact go2 hz _ (by simp (disch:=decide) only [Qaj,Qan,z0,z1,jd,jb,and_true,true_and,i0])
   | false=>
    have hz:gap (l.drop (a+d))=0:=by rw [hgap,if_neg (λh=>by rw [h2] at h; exact absurd h.2 (by decide))]; exact h1
    (have zz:=C.r; (repeat' (first | (apply jc <;> intro _) | simp (disch:=first | exact Zy | fail) only [ja i0,R1,R2,R3,h1,h2,C.q,C.r,rzZ,Qab,Qac,Qad,Qaa,Qae])); (all_goals (clear zz)))
    exact fin hz
  ·have hz:gap (l.drop (a+d))=jY qp (l.drop (a+d)):=by rw [hgap,if_neg (λh=>h1 h.1)]
   rw [←hz] at h1 R1
   (have zz:=C.r; (repeat' (first | (apply jc <;> intro _) | simp (disch:=first | exact Zy | fail) only [ja i0,R1,R2,R3,S1,h1,C.q,C.r,rzZ,Qab,Qac,Qad,Qaa,Qae])); (all_goals (clear zz)))
   exact go2 h1 _ (by simp (disch:=decide) only [Qaj,Qan,z0,z1,jd,jb,and_true,true_and,i0])
 ·refine ⟨0,by omega,rfl,?_,by rw [QaL,QbV],?_⟩
  ·exact Cl.new st0 (cC l a p)
  ·simp (disch:=decide) only [Qaj,Qan,z0,z1,jd,jb,and_true,true_and]
end Go.Sy
end
noncomputable section
set_option maxRecDepth 100000
namespace Go.Sy
open Go.Ev Go.Proofs
variable {base:Bs}
def PI (base:Bs):Prop:=∀ (s:List Nat) (st:St),wX s->s.length≤281474976710656->(s.length≤7->base.run 123 [.str s,.int .i64 10,.int .i64 64] st=.ok (.tup [.int .i64 (Qv s:Int),.nilif]) st)∧(7<s.length->base.run 123 [.str s,.int .i64 10,.int .i64 64] st=.ok (.tup [.bad,.bad]) st)
theorem jjA (s:St)(K:AV->St->Prop):jf (Zw Qaf .neq 177 true .nilif .nilif s) K=K (.bool false) s:=by
 have:Zw Qaf .neq 177 true .nilif .nilif s=.ok (.bool false) s:=by kernel_rfl
 rw [this]; rfl
theorem FzD.nx {s:St}{t:Tk}{e e':Int}{cs:List AV}(h1:cs=t.cells)(h2:e'=e):FzD 1 9 s (.tup [.agg cs,.int .i64 e']) (.tup [.agg t.cells,.int .i64 e]):=by
 subst h1 h2;exact FzD.tup (.cons (.agg (.pc rfl)) (.pc rfl))
theorem jjz (hb:NB base)(hP:PI base){l:List Nat}{a e n:Nat}{t:Tk}{p:Nat×Nat}(ha:a≤l.length)(hl:l.length≤1048576)(hp1:p.1≤1073741824)(hp2:p.2≤1073741824)(hp3:1≤p.2)(h:qL (l.drop a) p=(e,t,n)) :
  Met Qaf base 75 (cC l a p) [] (.ok (.tup [.agg t.cells,.int .i64 (e:Int)])) (cC l (a+n) (jC p ((l.drop a).take n))):=by
 refine PM.met ?_ rfl λp st=>hb.no 75 (by decide) _ _;refine jW x75 (by rfl) (hb.pur 75 3 (by decide)) rfl ?_;simp only [y75,jj,Qai,Qam,Qag,Qah];unfold z75;try dsimp only [oo,oO,ot,oT,os,og,oh,oc,on,oN,oP]
 have hrl:(l.drop a).length=l.length - a:=QaQ;have S:=λ(n:Nat) (h:a+n≤l.length)=>@jcL base hb l a n p h (by omega) hp1 hp2 hp3;have C0:Cl (nw st0 (cC l a p)) 0 (cC l a p):=Cl.new st0 _;unfold cC at *;generalize hr:l.drop a=r at *;have hL:=WZ hb;have hD:=jat hb;have hI:=jae hb;have hR:=Vr hb r (by omega) hI;have hR2:=Vr hb r (by omega) hD;have hK:=jeg hb;have hS:=jjk hb r (by omega);have l1:=XZ qO r;have l2:=XZ jv r;have l3:=gJ r;have S1:=λst q=>@S (jY qO r) (by omega) st q;have S2:=λst q=>@S (jY jv r) (by omega) st q;have S3:=λst q=>@S (JR r) (by omega) st q;clear S;rcases r with _ | ⟨x,r'⟩
 ·simp only [qL,Prod.mk.injEq] at h;repeat' (first | (apply jc <;> intro _) | simp (disch:=first | exact dzA | fail) only [hr,rzZ,Qab,Qac,Qad,Qaa,Qae])
  obtain ⟨rfl,rfl,rfl⟩:=h;refine G1.done (c':=[_,_,_,_]) ?_ rfl rfl (FzD.tup (.cons (.agg (.pc rfl)) (.pc rfl)));simp (disch:=first | assumption | decide | omega | (simp only [jg,jh,jo,jk,jm,qT,Qal,Qap]; first | done | omega)) only [jE,jG,jD];exact C0
 ·have e0:x :: r'≠[]:=by simp
  have e1:(0:Int)<((x :: r').length:Int):=by simp
  have P0:jv x=true->wX ((x :: r').take (jY jv (x :: r'))):=λh=>Ht h;have P1:jv x=true->jY jv (x :: r')≤7->∀ st K Kp,XB Qaf base 123 [.str ((x :: r').take (jY jv (x :: r'))),.int .i64 10,.int .i64 64] st K Kp=K (.tup [.int .i64 (Qv ((x :: r').take (jY jv (x :: r'))):Int),.nilif]) st:=λh h7 st K Kp=>by
   have e:((x :: r').take (jY jv (x :: r'))).length≤7:=by rw [QaP]; omega
   exact Uv ((hP _ st (P0 h) (by omega)).1 e) K Kp
  have P2:jv x=true->7<jY jv (x :: r')->∀ st K Kp,XB Qaf base 123 [.str ((x :: r').take (jY jv (x :: r'))),.int .i64 10,.int .i64 64] st K Kp=K (.tup [.bad,.bad]) st:=λh h7 st K Kp=>by
   have e:((x :: r').take (jY jv (x :: r'))).length=jY jv (x :: r'):=by rw [QaP]; omega
   exact Uv ((hP _ st (P0 h) (by omega)).2 (by omega)) K Kp
  unfold qL at h;simp only at h;generalize jY qO (x :: r')=n1 at *;generalize jY jv (x :: r')=n2 at *;generalize JR (x :: r')=n3 at *;by_cases c1:jV x=true
  ·rw [if_pos c1] at h
   (have zz:=aI @jE (aI @jG @C0); (repeat' (first | (apply jc <;> intro _) | simp (disch:=first | exact Zy | fail) only [hr,e0,e1,hL,hR,hK,S1,jE,jG,c1,jE,jG,C0,rzZ,Qab,Qac,Qad,Qaa,Qae])); (all_goals (clear zz)))
   all_goals ((first | rw [if_pos (by omega)] at h | rw [if_neg (by omega)] at h); (first | rw [if_pos (by assumption)] at h | rw [if_neg (by assumption)] at h | skip); simp only [Prod.mk.injEq] at h; obtain ⟨rfl,rfl,rfl⟩:=h; refine G1.done (c':=[_,_,_,_]) ?_ rfl rfl (FzD.nx rfl rfl); simp (disch:=first | assumption | decide | omega | (simp only [jg,jh,jo,jk,jm,qT,Qal,Qap]; first | done | omega)) only [jE,jG,jD]; first | exact C0 | (refine Cl.wr0 (c:=[.str l,.int .i64 (a:Int),.int .i64 (p.1:Int),.int .i64 (p.2:Int)]) ?_ rfl; simp (disch:=first | assumption | decide | omega | (simp only [jg,jh,jo,jk,jm,qT,Qal,Qap]; first | done | omega)) only [jE,jG,jD]; exact C0))
  ·rw [if_neg c1] at h;by_cases c2:jv x=true
   ·rw [if_pos c2] at h;by_cases h7:7<n2
    ·repeat' (first | (apply jc <;> intro _) | simp (disch:=first | exact dzA | fail) only [hr,e0,e1,hL,hD,hR2,P2,c1,c2,rzZ,Qab,Qac,Qad,Qaa,Qae])
     all_goals ((first | rw [if_pos (by omega)] at h | rw [if_neg (by omega)] at h); (first | rw [if_pos (by assumption)] at h | rw [if_neg (by assumption)] at h | skip); simp only [Prod.mk.injEq] at h; obtain ⟨rfl,rfl,rfl⟩:=h; refine G1.done (c':=[_,_,_,_]) ?_ rfl rfl (FzD.nx rfl rfl); simp (disch:=first | assumption | decide | omega | (simp only [jg,jh,jo,jk,jm,qT,Qal,Qap]; first | done | omega)) only [jE,jG,jD]; first | exact C0 | (refine Cl.wr0 (c:=[.str l,.int .i64 (a:Int),.int .i64 (p.1:Int),.int .i64 (p.2:Int)]) ?_ rfl; simp (disch:=first | assumption | decide | omega | (simp only [jg,jh,jo,jk,jm,qT,Qal,Qap]; first | done | omega)) only [jE,jG,jD]; exact C0))
    ·(have zz:=aI @jE (aI @jG @C0); (repeat' (first | (apply jc <;> intro _) | simp (disch:=first | exact Zy | fail) only [hr,e0,e1,hL,hD,hR2,P1,S2,c1,c2,jjA,jE,jG,C0,rzZ,Qab,Qac,Qad,Qaa,Qae])); (all_goals (clear zz)))
     all_goals ((first | rw [if_pos (by omega)] at h | rw [if_neg (by omega)] at h); (first | rw [if_pos (by assumption)] at h | rw [if_neg (by assumption)] at h | skip); simp only [Prod.mk.injEq] at h; obtain ⟨rfl,rfl,rfl⟩:=h; refine G1.done (c':=[_,_,_,_]) ?_ rfl rfl (FzD.nx rfl rfl); simp (disch:=first | assumption | decide | omega | (simp only [jg,jh,jo,jk,jm,qT,Qal,Qap]; first | done | omega)) only [jE,jG,jD]; first | exact C0 | (refine Cl.wr0 (c:=[.str l,.int .i64 (a:Int),.int .i64 (p.1:Int),.int .i64 (p.2:Int)]) ?_ rfl; simp (disch:=first | assumption | decide | omega | (simp only [jg,jh,jo,jk,jm,qT,Qal,Qap]; first | done | omega)) only [jE,jG,jD]; exact C0))
   ·rw [if_neg c2] at h
    (have zz:=aI @jE (aI @jG @C0); (repeat' (first | (apply jc <;> intro _) | simp (disch:=first | exact Zy | fail) only [hr,e0,e1,hL,hD,hS,S3,c1,c2,jE,jG,C0,rzZ,Qab,Qac,Qad,Qaa,Qae])); (all_goals (clear zz)))
    all_goals ((first | rw [if_pos (by omega)] at h | rw [if_neg (by omega)] at h); (first | rw [if_pos (by assumption)] at h | rw [if_neg (by assumption)] at h | skip); simp only [Prod.mk.injEq] at h; obtain ⟨rfl,rfl,rfl⟩:=h; refine G1.done (c':=[_,_,_,_]) ?_ rfl rfl (FzD.nx rfl rfl); simp (disch:=first | assumption | decide | omega | (simp only [jg,jh,jo,jk,jm,qT,Qal,Qap]; first | done | omega)) only [jE,jG,jD]; first | exact C0 | (refine Cl.wr0 (c:=[.str l,.int .i64 (a:Int),.int .i64 (p.1:Int),.int .i64 (p.2:Int)]) ?_ rfl; simp (disch:=first | assumption | decide | omega | (simp only [jg,jh,jo,jk,jm,qT,Qal,Qap]; first | done | omega)) only [jE,jG,jD]; exact C0))
end Go.Sy
end
noncomputable section
set_option maxRecDepth 100000
namespace Go.Sy
open Go.Ev Go.Proofs
variable {base:Bs}
theorem Tk.cells_l (t:Tk):t.cells.length=5:=nr rfl
theorem Tk.cells_g (t:Tk)(k:Nat):t.cells.getD k .bad=([.int .i64 (t.kind:Int),.str t.text,.int .i64 (t.num:Int),.int .i64 (t.line:Int),.int .i64 (t.col:Int)]:List AV).getD k .bad:=nr rfl
theorem Tk.cells_d (t:Tk)(k:Nat):t.cells.drop k=([.int .i64 (t.kind:Int),.str t.text,.int .i64 (t.num:Int),.int .i64 (t.line:Int),.int .i64 (t.col:Int)]:List AV).drop k:=nr rfl
theorem Tk.cells_p (t:Tk):t.cells.all pc=true:=rfl
theorem Tk.cells_c (t:Tk):lall AV.cell t.cells=true:=nr rfl
theorem Tk.cells_f {st:St}{K:AV->St->Prop}{xs:List Tk}{i:Nat}(h:i<xs.length):jf (zM 5 (.lptr (fl Tk.cells xs) (i * 5)) st) K=K (.agg (Tk.cells xs[i])) st:=ZF Tk.cells_l h
theorem Tk.cells_f1 {st:St}{K:AV->St->Prop}{xs:List Tk}{i:Nat}(h:i<xs.length){k:Nat}(hk:k<5):jf (ze (.lptr (fl Tk.cells xs) (i * 5+k)) st) K=K ((Tk.cells xs[i]).getD k .bad) st:=zt Tk.cells_l h hk
theorem Tk.cells_f0 {st:St}{K:AV->St->Prop}{xs:List Tk}{i:Nat}(h:i<xs.length):jf (ze (.lptr (fl Tk.cells xs) (i * 5)) st) K=K ((Tk.cells xs[i]).getD 0 .bad) st:=zt (k:=0) Tk.cells_l h (by decide)
theorem Tk.cells_R:type_of% (aI @Tk.cells_l (aI @Tk.cells_g (aI @Tk.cells_d (aI @Tk.cells_c (aI @Tk.cells_f (aI @Tk.cells_f0 @Tk.cells_f1)))))):=aI @Tk.cells_l (aI @Tk.cells_g (aI @Tk.cells_d (aI @Tk.cells_c (aI @Tk.cells_f (aI @Tk.cells_f0 @Tk.cells_f1)))))
theorem Tk.cells_E:type_of% (aI @Tk.cells_l (aI @Tk.cells_c @Tk.cells_g)):=aI @Tk.cells_l (aI @Tk.cells_c @Tk.cells_g)
theorem dzC {p:Prop}(h:p:=by first | assumption | decide | omega | (simp only [Tk.cells_E,rzN,Qal,Qap]; first | done | omega) | (apply JU <;> first | omega | ((simp (disch:=first | assumption | omega | (simp only [Tk.cells_E,rzN,Qal,Qap]; first | done | omega)) only [rzL,Qal,Qap,QaL,Qab,Tk.cells_E ]) <;> first | done | omega)) | (simp (disch:=first | assumption | omega | (simp only [Tk.cells_E,rzN,Qal,Qap]; first | done | omega)) only [Tk.cells_E,rzG,Qag,Qah,Qac,Qbn,Qal,Qap,QaB,QaG]; first | done | omega | decide)):p:=h
theorem jfv {p:Prop}(h:p:=by first | assumption | decide | omega | (simp only [Tk.cells_E,zz,rzN,Qal,Qap]; first | done | omega) | (apply JU <;> first | omega | ((simp (disch:=first | assumption | omega | (simp only [Tk.cells_E,zz,rzN,Qal,Qap]; first | done | omega)) only [rzL,Qal,Qap,QaL,Qab,Tk.cells_E,zz ]) <;> first | done | omega)) | (simp (disch:=first | assumption | omega | (simp only [Tk.cells_E,zz,rzN,Qal,Qap]; first | done | omega)) only [Tk.cells_E,zz,rzG,Qag,Qah,Qac,Qbn,Qal,Qap,QaB,QaG]; first | done | omega | decide)):p:=h
def zm (q:Nat×Nat×Nat):List AV:=[.int .i64 (q.1:Int),.int .i64 (q.2.1:Int),.int .i64 (q.2.2:Int)]
theorem je6 {r:List Nat}{p:Nat×Nat}{e n:Nat}{t:Tk}(h:qL r p=(e,t,n)):t.line=p.1∧t.col=p.2:=by
 cases r with
 | nil=>simp [qL] at h; rw [←h.2.1]; exact ⟨rfl,rfl⟩
 | cons x r'=>
  unfold qL at h;simp only at h;split at h
  ·split at h <;> (simp only [Prod.mk.injEq] at h; rw [←h.2.1]; exact ⟨rfl,rfl⟩)
  ·split at h
   ·split at h <;> (simp only [Prod.mk.injEq] at h; rw [←h.2.1]; exact ⟨rfl,rfl⟩)
   ·split at h <;> (simp only [Prod.mk.injEq] at h; rw [←h.2.1]; exact ⟨rfl,rfl⟩)
theorem jgU (hb:NB base)(hP:PI base)(l:List Nat)(hl:l.length≤9223372036854775807):Tot base 35 [.str l] (.tup [.lst (j7 l).1.length (fl Tk.cells (j7 l).1),.agg (zm (j7 l).2)]):=by
 refine hb.tot ?_ rfl rfl;refine jz x35 (by rfl) (hb.pur 35 1 (by decide)) ?_;simp only [y35,jj,Qai,Qam,Qag,Qah];unfold z35;try dsimp only [oo,oO,ot,oT,os,og,oh,oc,on,oN,oP]
 repeat' (first | (apply jc <;> intro _) | simp (disch:=first | exact dzC | fail) only [Tk.cells_R,rzZ,Qab,Qac,Qad,Qaa,Qae])
 ·rw [show j7 l=([],(132,1,1)) from if_pos (by omega)];exact FzD.tup (.cons .nils (.cons (.agg (.pc (by rfl))) .nil))
 ·have hl:l.length≤65536:=by omega
  rw [show j7 l=yr l (1,1) from if_neg (by omega)];refine zG (λmm L s=>∃ (a:Nat) (p:Nat×Nat) (acc:List Tk) (v:AV),a≤l.length∧mm=l.length - a∧p.1+(l.length - a)≤l.length+1∧p.2+(l.length - a)≤l.length+1∧1≤p.2∧acc.length≤a∧ahead acc (yr (l.drop a) p)=yr l (1,1)∧2≤s.nx∧Cl s 0 [.int .i64 0,.int .i64 0,.int .i64 0]∧Cl s 1 (cC l a p)∧Lv 2 s.nx s v acc.length (fl Tk.cells acc) 5∧Has L 3 (.ptr 0 0)∧Has L 4 (.ptr 1 0)∧Has L 5 v) ?_ l.length ?_
  ·rintro mm L s ⟨a,p,acc,v,ha,rfl,h1,h2,h3,h4,h5,h6,C0,C1,V,i3,i4,i5⟩;obtain ⟨m,hm⟩:∃ m,m=s.nx:=⟨_,rfl⟩;rw [←hm] at V;have hm':m≤s.nx:=QbY hm;have hgl:=Y8 (l.drop a);rw [QaQ] at hgl;have W:=w9 ((l.drop a).take (jB (l.drop a))) p h3;have hlt:((l.drop a).take (jB (l.drop a))).length=jB (l.drop a):=by rw [QaP,QaQ]; omega
   rw [hlt] at W;have B:=λst q=>@jfB base hb l a p ha (by omega) (by omega) h3 (by omega) st q;rcases hx:qL ((l.drop a).drop (jB (l.drop a))) (jC p ((l.drop a).take (jB (l.drop a)))) with ⟨e,t,n⟩
   have hN:=hx;rw [QbC] at hN;have hnl:=WY hN;rw [QaQ] at hnl;have N:=λst q=>@jjz base hb hP l (a+jB (l.drop a)) e n t (jC p ((l.drop a).take (jB (l.drop a)))) (by omega) (by omega) (by omega) (by omega) W.2.2 hN st q;have B1:=λK Kp=>B s 1 C1 K Kp;have N1:=λK Kp=>N (wr s 1 0 (cC l (a+jB (l.drop a)) (jC p ((l.drop a).take (jB (l.drop a)))))) 1 (C1.wr0 rfl) K Kp;clear B N;have hT:t.line=(jC p ((l.drop a).take (jB (l.drop a)))).1∧t.col=(jC p ((l.drop a).take (jB (l.drop a)))).2:=je6 hN;generalize hq:jC p ((l.drop a).take (jB (l.drop a)))=q at *;generalize hg:jB (l.drop a)=g at *;have aE:=λ(he:e≠0)=>jd8 (acc:=acc) (by rw [hg,hq]; exact hx) he;have W2:=w9 ((l.drop (a+g)).take n) q W.2.2;have hlt2:((l.drop (a+g)).take n).length=n:=by rw [QaP,QaQ]; omega
   rw [hlt2] at W2;have A:=λst bv xc xx K h hv=>@vU 2 m acc.length 5 st v (fl Tk.cells acc) K 48 bv xc xx h (by decide) (by omega) (by omega) hv;have V2:∀ st m',Lv 2 m st v acc.length (fl Tk.cells acc) 5->2≤st.nx->m'=st.nx+1->Lv 2 m' (aps v st t.cells) (apv 5 v st) (acc ++ [t]).length (fl Tk.cells (acc ++ [t])) 5:=λst m' h h2 h3=>by
    rw [Qak,wR,Yo];exact h.put (Tk.cells_l t) h2 h3
   unfold cC at *;by_cases he:e=0
   ·subst he;have hk:=VI hN;by_cases hn:n=0
    ·subst hn;have k5:t.kind=5:=hk.1.2 rfl
     (have zz:=aI V.ln (aI @jP (aI @jQ (aI @V (aI C0.r C1.r)))); (repeat' (first | (apply jc <;> intro _) | simp (disch:=first | exact jfv | fail) only [ja i3,ja i4,ja i5,B1,N1,A,V.at,C0.q,C1.q,V.ln,jP,jQ,V,C0.r,C1.r,Tk.cells_R,rzZ,Qab,Qac,Qad,Qaa,Qae])); (all_goals (clear zz)))
     rw [←h5,jd9 (by rw [hg,hq]; exact hx)];refine FzD.tup (.cons ((?_:Lv 2 (s.nx+3) _ _ _ _ 5).fz (QaT _) (YL Tk.cells_p _)) (.cons (.agg (.pc (by rfl))) .nil));simp (disch:=first | decide | omega) only [j6,jP];refine V2 _ _ ?_ (by simp only [jg,jh]; omega) (by simp only [jg,jh]);simp (disch:=first | decide | omega | (simp only [jg,jh]; omega)) only [j6,jP,jQ];exact V
    ·have k5:¬ (t.kind:Int)=5:=λh=>hn (hk.1.1 (by omega))
     (have zz:=aI V.ln (aI @jP (aI @jQ (aI @V (aI C0.r C1.r)))); (repeat' (first | (apply jc <;> intro _) | simp (disch:=first | exact jfv | fail) only [ja i3,ja i4,ja i5,B1,N1,A,V.at,C0.q,C1.q,V.ln,jP,jQ,V,C0.r,C1.r,Tk.cells_R,rzZ,Qab,Qac,Qad,Qaa,Qae])); (all_goals (clear zz)))
     have hA:=Ur (acc:=acc) (show qL ((l.drop a).drop (jB (l.drop a))) (jC p ((l.drop a).take (jB (l.drop a))))=(0,t,n) by rw [hg,hq]; exact hx) hn;rw [hg,hq] at hA;simp only [QbC,←QbB] at hA;refine ⟨l.length - (a+g+n),by omega,a+g+n,jC q ((l.drop (a+g)).take n),acc ++ [t],?_,by omega,rfl,by omega,by omega,W2.2.2,by rw [Qak,List.length_singleton]; omega,by rw [←h5,hA],by omega,?_,?_,?_,?_,?_,?_⟩;rotate_left
     ·simp (disch:=first | decide | omega | (simp only [jg,jh]; omega)) only [V.cl,jE,jG];exact C0
     ·simp (disch:=first | decide | omega | (simp only [jg,jh]; omega)) only [V.cl,jE,jG];exact (C1.wr0 (by rfl)).wr0 (by rfl)
     ·refine V2 _ _ ?_ ?_ ?_;all_goals first | (simp only [jg,jh]; done) | (simp only [jg,jh]; omega) | (simp (disch:=first | decide | omega | (simp only [jg,jh]; omega)) only [j6,jP,jQ]; exact V)
     ·simp (disch:=decide) only [Qaj,Qan,z0,z1,jd,jb,and_true,true_and,i3]
     ·simp (disch:=decide) only [Qaj,Qan,z0,z1,jd,jb,and_true,true_and,i4]
     ·simp (disch:=decide) only [Qaj,Qan,z0,z1,jd,jb,and_true,true_and]
   ·(have zz:=aI V.ln (aI @jP (aI @jQ (aI @V (aI C0.r C1.r)))); (repeat' (first | (apply jc <;> intro _) | simp (disch:=first | exact jfv | fail) only [ja i3,ja i4,ja i5,B1,N1,A,V.at,C0.q,C1.q,V.ln,jP,jQ,V,C0.r,C1.r,Tk.cells_R,rzZ,Qab,Qac,Qad,Qaa,Qae])); (all_goals (clear zz)))
    rw [←h5,aE he];exact FzD.tup (.cons .nils (.cons (.agg (.pc (by rfl))) .nil))
  ·refine ⟨0,(1,1),[],.nils,by omega,rfl,by omega,by omega,Qaq _,QaT _,Kl _ _,Qaq _,?_,?_,Lv.nil,?_⟩
   ·simp (disch:=first | assumption | decide | omega | (simp only [jg,jh,jo,jk,jm,qT,Qal,Qap]; first | done | omega)) only [jE,jG,jD]; exact Cl.new st0 _
   ·exact Cl.new (nw st0 _) _
   ·simp (disch:=decide) only [Qaj,Qan,z0,z1,jd,jb,and_true,true_and]
end Go.Sy
end
noncomputable section
set_option maxRecDepth 100000
namespace Go.Sy
open Go.Ev Go.Proofs
def jic:XC:=(.seq (.ops [(oO 2 (.box (.t 0))),(oO 4 (.mv (.c (.bool false))))]) (.seq (.ops [(oo 5 (.fad 0 (.t 2))),(oo 6 (.ld1 (.t 5))),(oo 7 (.bin .eql (.t 6) (.c (.int .i64 3)))),(ot 8 7),(oh 9 8 (.fad 0 (.t 2))),(oh 10 8 (.ld1 (.t 9))),(oh 11 8 (.bin .eql (.t 10) (.c (.int .i64 4)))),(oo 12 (.pick (.t 8) (.c (.bool true)) (.t 11))),(ot 13 12),(og 14 13 (.mv (.t 1))),(og 15 13 (.fad 1 (.t 2))),(og 16 13 (.ld1 (.t 15))),⟨(some 17),false,(some (13,true)),(.call (.c (.fn 154 [])) [(.t 14),(.t 16)])⟩,(oo 18 (.pick (.t 13) (.t 17) (.c (.bool false)))),(oT 4 18)]) .ret))
def jiC:XF:=⟨[0,1],jic,[(.t 4)]⟩
theorem jlt:ju Qaf 125=some jiC:=by kernel_rfl
def jh9:XC:=(.seq (.ops [(oO 3 (.box (.t 0))),(oO 4 (.box (.t 1))),(oO 5 (.box (.t 2))),(oO 6 (.alloc [(.int .i64 0),(.int .i64 0),(.str []),.nils,(.int .i64 0),(.int .i64 0)]))]) (.seq (.seq (.ops [(oO 7 (.mv (.c (.int .i64 14))))]) (.block 0 (.loop (.seq (.seq (.ops [(ot 8 7),(oO 9 (.bin .lss (.t 8) (.c (.int .i64 31))))]) (.cond (.t 9) .skip (.exit 0))) (.seq (.block 1 (.seq (.dops [(oP (ot 12 7)),(⟨(oc 13 160 [(.t 12)]),(some none),0,[]⟩,(some [(on 13),⟨(oo 14 (.fad 1 (.t 3))),none,0,[]⟩,⟨(oo 15 (.ld1 (.t 14))),(some (some (.t 14))),9,[(1,0)]⟩,⟨(oO 16 (.mv (.c (.tup [])))),none,0,[]⟩])),(oP (oo 14 (.fad 1 (.t 3)))),(⟨(oo 15 (.ld1 (.t 14))),(some (some (.t 14))),9,[(1,0)]⟩,none),(oP (oO 16 (.strb .eql (.t 13) (.t 15))))]) (.cond (.t 16) (.seq (.ops [(ot 17 7),(oo 18 (.ldA 6 (.t 4))),(oo 19 (.ldA 6 (.t 5))),(oo 20 (.buildS 2 6 [(.int .i64 0),(.int .i64 0),(.str []),.nils,(.int .i64 0),(.int .i64 0)] [((0,6),(.t 18)),((6,6),(.t 19))])),(oo 21 (.fad 3 (.t 3))),(oo 22 (.ld1 (.t 21))),(oo 23 (.fad 4 (.t 3))),(oo 24 (.ld1 (.t 23))),(oo 25 (.build [(.int .i64 0),(.int .i64 0),(.str []),.nils,(.int .i64 0),(.int .i64 0)] [((0,1),(.t 17)),((3,1),(.t 20)),((4,1),(.t 22)),((5,1),(.t 24))])),(os (.st 6 (.t 6) (.t 25)))]) .ret) .skip))) (.ops [(ot 10 7),(oo 11 (.bin .add (.t 10) (.c (.int .i64 1)))),(oT 7 11)])))))) (.seq (.ops [(oo 26 (.build [(.int .i64 0),(.int .i64 0),(.str []),.nils,(.int .i64 0),(.int .i64 0)] [])),(os (.st 6 (.t 6) (.t 26)))]) .ret)))
def jiz:XF:=⟨[0,1,2],jh9,[(.cA 6 6)]⟩
theorem jlq:ju Qaf 134=some jiz:=by kernel_rfl
def z94:XC:=(.seq (.ops [(oO 0 (.mv (.c .nils)))]) (.seq (.ops [(oo 1 (.buildS 1 1 [(.str [])] [((0,1),(.c (.str [60,45,62])))])),(oo 2 (.build [.nils,(.int .i64 0)] [((0,1),(.t 1)),((1,1),(.c (.int .i64 0)))])),(oo 3 (.buildS 1 1 [(.str [])] [((0,1),(.c (.str [45,62])))])),(oo 4 (.build [.nils,(.int .i64 0)] [((0,1),(.t 3)),((1,1),(.c (.int .i64 1)))])),(oo 5 (.buildS 1 1 [(.str [])] [((0,1),(.c (.str [124])))])),(oo 6 (.build [.nils,(.int .i64 0)] [((0,1),(.t 5)),((1,1),(.c (.int .i64 0)))])),(oo 7 (.buildS 1 1 [(.str [])] [((0,1),(.c (.str [38])))])),(oo 8 (.build [.nils,(.int .i64 0)] [((0,1),(.t 7)),((1,1),(.c (.int .i64 0)))])),(oo 9 (.buildS 4 1 [(.str [])] [((0,1),(.c (.str [85]))),((1,1),(.c (.str [82]))),((2,1),(.c (.str [83]))),((3,1),(.c (.str [84])))])),(oo 10 (.build [.nils,(.int .i64 0)] [((0,1),(.t 9)),((1,1),(.c (.int .i64 1)))])),(oo 11 (.buildS 6 1 [(.str [])] [((0,1),(.c (.str [61]))),((1,1),(.c (.str [33,61]))),((2,1),(.c (.str [60]))),((3,1),(.c (.str [60,61]))),((4,1),(.c (.str [62]))),((5,1),(.c (.str [62,61])))])),(oo 12 (.build [.nils,(.int .i64 0)] [((0,1),(.t 11)),((1,1),(.c (.int .i64 2)))])),(oo 13 (.buildS 2 1 [(.str [])] [((0,1),(.c (.str [43]))),((1,1),(.c (.str [45])))])),(oo 14 (.build [.nils,(.int .i64 0)] [((0,1),(.t 13)),((1,1),(.c (.int .i64 0)))])),(oo 15 (.buildS 1 1 [(.str [])] [((0,1),(.c (.str [42])))])),(oo 16 (.build [.nils,(.int .i64 0)] [((0,1),(.t 15)),((1,1),(.c (.int .i64 0)))])),(oo 17 (.buildS 8 2 [.nils,(.int .i64 0)] [((0,2),(.t 2)),((2,2),(.t 4)),((4,2),(.t 6)),((6,2),(.t 8)),((8,2),(.t 10)),((10,2),(.t 12)),((12,2),(.t 14)),((14,2),(.t 16))])),(oT 0 17)]) .ret))
def y94:XF:=⟨[],z94,[(.t 0)]⟩
theorem x94:ju Qaf 94=some y94:=by kernel_rfl
def z77:XC:=(.seq (.ops [(oO 3 (.box (.t 1)))]) (.seq (.ops [(ot 4 0),(oO 5 (.bin .geq (.t 4) (.c (.int .i64 32))))]) (.cond (.t 5) (.ops [(oo 6 (.ldA 5 (.t 3))),(oc 7 50 [(.t 6)])]) .skip)))
def y77:XF:=⟨[0,1],z77,[]⟩
theorem x77:ju Qaf 77=some y77:=by kernel_rfl
def z50:XC:=(.seq (.ops [(oO 1 (.box (.t 0)))]) (.ops [(oo 2 (.fad 3 (.t 1))),(oo 3 (.ld1 (.t 2))),(oo 4 (.fad 4 (.t 1))),(oo 5 (.ld1 (.t 4))),(oo 6 (.build [(.int .i64 0),(.int .i64 0),(.int .i64 0)] [((0,1),(.c (.int .i64 151))),((1,1),(.t 3)),((2,1),(.t 5))])),(oo 7 (.iface 30 (.t 6))),⟨none,false,none,(.pan (.t 7))⟩]))
def y50:XF:=⟨[0],z50,[]⟩
theorem x50:ju Qaf 50=some y50:=by kernel_rfl
def z49:XC:=(.seq (.ops [(oO 2 (.alloc [(.int .i64 0),(.str []),(.int .i64 0),(.int .i64 0),(.int .i64 0)]))]) (.seq (.cops [((ot 3 0),none),((oo 4 (.nilc (.t 3))),none),((oo 5 (.fad 0 (.t 4))),none),((oo 6 (.ld1 (.t 5))),none),((ot 7 0),none),((oo 8 (.nilc (.t 7))),none),((oo 9 (.fad 1 (.t 8))),none),((oo 10 (.ld1 (.t 9))),none),((oo 11 (.idxS 5 (.t 6) (.t 10))),none),((oo 12 (.ldA 5 (.t 11))),none),((os (.st 5 (.t 2) (.t 12))),none)]) .ret))
def y49:XF:=⟨[0],z49,[(.cA 2 5)]⟩
theorem x49:ju Qaf 49=some y49:=by kernel_rfl
def z76:XC:=(.seq (.ops [(oO 4 (.alloc [(.int .i64 0),(.str []),(.int .i64 0),(.int .i64 0),(.int .i64 0)])),(oO 5 (.mv (.c (.bool false))))]) (.seq (.ops [(ot 7 0),(oc 8 49 [(.t 7)]),(oO 6 (.alloc [(.int .i64 0),(.str []),(.int .i64 0),(.int .i64 0),(.int .i64 0)])),(os (.st 5 (.t 6) (.t 8)))]) (.seq (.seq (.ops [(oo 9 (.ldA 5 (.t 6))),(ot 10 1),(oc 11 125 [(.t 9),(.t 10)]),(oO 12 (.un .not (.t 11)))]) (.cond (.t 12) (.seq (.ops [(oo 13 (.ldA 5 (.t 6))),(os (.st 5 (.t 4) (.t 13))),(oO 5 (.mv (.c (.bool false))))]) .ret) .skip)) (.seq (.ops [(ot 14 0),(oo 15 (.nilc (.t 14))),(oo 16 (.fad 1 (.t 15))),(oo 17 (.ld1 (.t 16))),(oo 18 (.bin .add (.t 17) (.c (.int .i64 1)))),(oo 19 (.nilc (.t 14))),(oo 20 (.fad 1 (.t 19))),(os (.st 1 (.t 20) (.t 18)))]) (.seq (.ops [(oo 21 (.ldA 5 (.t 6))),(os (.st 5 (.t 4) (.t 21))),(oO 5 (.mv (.c (.bool true))))]) .ret)))))
def y76:XF:=⟨[0,1],z76,[(.cA 4 5),(.t 5)]⟩
theorem x76:ju Qaf 76=some y76:=by kernel_rfl
def jaH:XC:=(.seq (.ops [(ot 7 0),(ot 8 1),(oo 9 (.buildS 1 1 [(.str [])] [((0,1),(.t 8))])),(oc 10 76 [(.t 7),(.t 9)]),(ot 6 10),(oo 11 (.ext (.t 6) 0)),(oo 12 (.ext (.t 6) 1)),(oO 4 (.alloc [(.int .i64 0),(.str []),(.int .i64 0),(.int .i64 0),(.int .i64 0)])),(os (.st 5 (.t 4) (.t 11))),(oT 5 12)]) (.seq (.ops [(ot 13 5),(oO 14 (.un .not (.t 13)))]) (.cond (.t 14) (.ops [(oo 15 (.ldA 5 (.t 4))),(oc 16 50 [(.t 15)])]) .skip)))
def jeu:XF:=⟨[0,1],jaH,[]⟩
theorem jiQ:ju Qaf 127=some jeu:=by kernel_rfl
def jeq:XC:=(.seq (.ops [(oO 2 (.alloc [(.int .i64 0),(.str []),(.int .i64 0),(.int .i64 0),(.int .i64 0)]))]) (.seq (.ops [(ot 4 0),(oc 5 49 [(.t 4)]),(oO 3 (.alloc [(.int .i64 0),(.str []),(.int .i64 0),(.int .i64 0),(.int .i64 0)])),(os (.st 5 (.t 3) (.t 5)))]) (.seq (.seq (.ops [(oo 6 (.fad 0 (.t 3))),(oo 7 (.ld1 (.t 6))),(oO 8 (.bin .neq (.t 7) (.c (.int .i64 1))))]) (.cond (.t 8) (.ops [(oo 9 (.ldA 5 (.t 3))),(oc 10 50 [(.t 9)])]) .skip)) (.seq (.ops [(ot 11 0),(oo 12 (.nilc (.t 11))),(oo 13 (.fad 1 (.t 12))),(oo 14 (.ld1 (.t 13))),(oo 15 (.bin .add (.t 14) (.c (.int .i64 1)))),(oo 16 (.nilc (.t 11))),(oo 17 (.fad 1 (.t 16))),(os (.st 1 (.t 17) (.t 15)))]) (.seq (.ops [(oo 18 (.ldA 5 (.t 3))),(os (.st 5 (.t 2) (.t 18)))]) .ret)))))
def jev:XF:=⟨[0],jeq,[(.cA 2 5)]⟩
theorem jiR:ju Qaf 126=some jev:=by kernel_rfl
def gi:XC:=(.seq (.ops [(oO 2 (.mv (.c (.int .i64 0))))]) (.seq (.ops [(ot 7 0),(oo 8 (.buildS 1 1 [(.str [])] [((0,1),(.c (.str [45])))])),(oc 9 76 [(.t 7),(.t 8)]),(ot 6 9),(oo 10 (.ext (.t 6) 0)),(oo 11 (.ext (.t 6) 1)),(oo 3 (.alloc [(.int .i64 0),(.str []),(.int .i64 0),(.int .i64 0),(.int .i64 0)])),(os (.st 5 (.t 3) (.t 10))),(oT 4 11)]) (.seq (.ops [(ot 12 0),(oc 13 49 [(.t 12)]),(oO 5 (.alloc [(.int .i64 0),(.str []),(.int .i64 0),(.int .i64 0),(.int .i64 0)])),(os (.st 5 (.t 5) (.t 13)))]) (.seq (.seq (.ops [(oo 14 (.fad 0 (.t 5))),(oo 15 (.ld1 (.t 14))),(oO 16 (.bin .neq (.t 15) (.c (.int .i64 2))))]) (.cond (.t 16) (.ops [(oo 17 (.ldA 5 (.t 5))),(oc 18 50 [(.t 17)])]) .skip)) (.seq (.ops [(ot 19 0),(oo 20 (.nilc (.t 19))),(oo 21 (.fad 1 (.t 20))),(oo 22 (.ld1 (.t 21))),(oo 23 (.bin .add (.t 22) (.c (.int .i64 1)))),(oo 24 (.nilc (.t 19))),(oo 25 (.fad 1 (.t 24))),(os (.st 1 (.t 25) (.t 23)))]) (.seq (.seq (.ops [(oT 26 4)]) (.cond (.t 26) (.seq (.ops [(oo 27 (.fad 2 (.t 5))),(oo 28 (.ld1 (.t 27))),(oo 29 (.un .neg (.t 28))),(oT 2 29)]) .ret) .skip)) (.seq (.ops [(oo 30 (.fad 2 (.t 5))),(oo 31 (.ld1 (.t 30))),(oT 2 31)]) .ret)))))))
def gj:XF:=⟨[0],gi,[(.t 2)]⟩
theorem jaM:ju Qaf 128=some gj:=by kernel_rfl
def jeo:XC:=(.seq (.ops [(ot 2 0),(oo 3 (.nilc (.t 2))),(oo 4 (.fad 2 (.t 3))),(oo 5 (.ld1 (.t 4))),(oo 6 (.bin .add (.t 5) (.c (.int .i64 1)))),(oo 7 (.nilc (.t 2))),(oo 8 (.fad 2 (.t 7))),(os (.st 1 (.t 8) (.t 6)))]) (.seq (.ops [(ot 9 0),(oo 10 (.nilc (.t 9))),(oo 11 (.fad 2 (.t 10))),(oo 12 (.ld1 (.t 11))),(oO 13 (.bin .gtr (.t 12) (.c (.int .i64 60))))]) (.cond (.t 13) (.ops [(ot 14 0),(oc 15 49 [(.t 14)]),(oc 16 50 [(.t 15)])]) .skip)))
def jes:XF:=⟨[0],jeo,[]⟩
theorem jiO:ju Qaf 159=some jes:=by kernel_rfl
def Z7:XC:=(.seq (.ops [(oO 2 (.alloc [(.int .i64 0),(.int .i64 0),(.str []),.nils,(.int .i64 0),(.int .i64 0)]))]) (.seq (.ops [(ot 5 0),(oc 6 49 [(.t 5)]),(oO 3 (.alloc [(.int .i64 0),(.str []),(.int .i64 0),(.int .i64 0),(.int .i64 0)])),(os (.st 5 (.t 3) (.t 6)))]) (.seq (.ops [(oo 7 (.fad 3 (.t 3))),(oo 8 (.ld1 (.t 7))),(oo 9 (.fad 4 (.t 3))),(oo 10 (.ld1 (.t 9))),(oo 11 (.build [(.int .i64 0),(.int .i64 0),(.str []),.nils,(.int .i64 0),(.int .i64 0)] [((4,1),(.t 8)),((5,1),(.t 10))])),(oO 4 (.alloc [(.int .i64 0),(.int .i64 0),(.str []),.nils,(.int .i64 0),(.int .i64 0)])),(os (.st 6 (.t 4) (.t 11)))]) (.seq (.block 0 (.seq (.ops [(oo 15 (.fad 0 (.t 3))),(oo 16 (.ld1 (.t 15))),(oo 17 (.bin .eql (.t 16) (.c (.int .i64 2)))),(oT 14 17)]) (.cond (.t 14) (.dops [(oP (oo 18 (.fad 2 (.t 3)))),(⟨(oo 19 (.ld1 (.t 18))),(some (some (.t 18))),2,[]⟩,none),(oP (oo 20 (.fad 0 (.t 4)))),(⟨(os (.st 1 (.t 20) (.c (.int .i64 1)))),(some none),0,[(1,2)]⟩,none),(oP (oo 21 (.fad 1 (.t 4)))),(⟨(os (.st 1 (.t 21) (.t 19))),(some none),0,[]⟩,none)]) (.seq (.ops [(oo 23 (.fad 0 (.t 3))),(oo 24 (.ld1 (.t 23))),(oo 25 (.bin .eql (.t 24) (.c (.int .i64 1)))),(oT 22 25)]) (.cond (.t 22) (.dops [(oP (oo 26 (.fad 1 (.t 3)))),(⟨(oo 27 (.ld1 (.t 26))),(some (some (.t 26))),9,[]⟩,none),(oP (oo 28 (.fad 0 (.t 4)))),(⟨(os (.st 1 (.t 28) (.c (.int .i64 3)))),(some none),0,[(1,9)]⟩,none),(oP (oo 29 (.fad 2 (.t 4)))),(⟨(os (.st 1 (.t 29) (.t 27))),(some none),0,[]⟩,none)]) (.seq (.ops [(oo 31 (.ldA 5 (.t 3))),(oo 32 (.buildS 1 1 [(.str [])] [((0,1),(.c (.str [116,114,117,101])))])),(oc 33 125 [(.t 31),(.t 32)]),(oT 30 33)]) (.cond (.t 30) (.ops [(oo 34 (.fad 0 (.t 4))),(os (.st 1 (.t 34) (.c (.int .i64 2)))),(oo 35 (.fad 1 (.t 4))),(os (.st 1 (.t 35) (.c (.int .i64 1))))]) (.seq (.ops [(oo 37 (.ldA 5 (.t 3))),(oo 38 (.buildS 1 1 [(.str [])] [((0,1),(.c (.str [102,97,108,115,101])))])),(oc 39 125 [(.t 37),(.t 38)]),(oT 36 39)]) (.cond (.t 36) (.ops [(oo 40 (.fad 0 (.t 4))),(os (.st 1 (.t 40) (.c (.int .i64 2))))]) (.seq (.ops [(oo 42 (.ldA 5 (.t 3))),(oo 43 (.buildS 1 1 [(.str [])] [((0,1),(.c (.str [40])))])),(oc 44 125 [(.t 42),(.t 43)]),(oT 41 44)]) (.cond (.t 41) (.seq (.ops [(ot 45 0),(oo 46 (.nilc (.t 45))),(oo 47 (.fad 1 (.t 46))),(oo 48 (.ld1 (.t 47))),(oo 49 (.bin .add (.t 48) (.c (.int .i64 1)))),(oo 50 (.nilc (.t 45))),(oo 51 (.fad 1 (.t 50))),(os (.st 1 (.t 51) (.t 49)))]) (.seq (.ops [(ot 52 0),(oc 53 159 [(.t 52)])]) (.seq (.ops [(ot 54 0),(oc 55 94 []),(oc 56 93 [(.t 54),(.t 55)]),(os (.st 6 (.t 4) (.t 56)))]) (.seq (.ops [(ot 57 0),(oo 58 (.nilc (.t 57))),(oo 59 (.fad 2 (.t 58))),(oo 60 (.ld1 (.t 59))),(oo 61 (.bin .sub (.t 60) (.c (.int .i64 1)))),(oo 62 (.nilc (.t 57))),(oo 63 (.fad 2 (.t 62))),(os (.st 1 (.t 63) (.t 61)))]) (.seq (.ops [(ot 64 0),(oc 65 127 [(.t 64),(.c (.str [41]))])]) (.seq (.ops [(oo 66 (.ldA 6 (.t 4))),(os (.st 6 (.t 2) (.t 66)))]) .ret)))))) (.ops [(oo 12 (.ldA 5 (.t 3))),(oc 13 50 [(.t 12)])])))))))))))) (.seq (.ops [(ot 67 0),(oo 68 (.nilc (.t 67))),(oo 69 (.fad 1 (.t 68))),(oo 70 (.ld1 (.t 69))),(oo 71 (.bin .add (.t 70) (.c (.int .i64 1)))),(oo 72 (.nilc (.t 67))),(oo 73 (.fad 1 (.t 72))),(os (.st 1 (.t 73) (.t 71)))]) (.seq (.ops [(oo 74 (.ldA 6 (.t 4))),(os (.st 6 (.t 2) (.t 74)))]) .ret))))))
def Z8:XF:=⟨[0],Z7,[(.cA 2 6)]⟩
theorem w6:ju Qaf 158=some Z8:=by kernel_rfl
def Ut:XC:=(.seq (.ops [(oO 2 (.alloc [(.int .i64 0),(.int .i64 0),(.str []),.nils,(.int .i64 0),(.int .i64 0)]))]) (.seq (.ops [(ot 8 0),(oo 9 (.buildS 9 1 [(.str [])] [((0,1),(.c (.str [45]))),((1,1),(.c (.str [33]))),((2,1),(.c (.str [88]))),((3,1),(.c (.str [70]))),((4,1),(.c (.str [71]))),((5,1),(.c (.str [89]))),((6,1),(.c (.str [90]))),((7,1),(.c (.str [79]))),((8,1),(.c (.str [72])))])),(oc 10 76 [(.t 8),(.t 9)]),(ot 7 10),(oo 11 (.ext (.t 7) 0)),(oo 12 (.ext (.t 7) 1)),(oO 3 (.alloc [(.int .i64 0),(.str []),(.int .i64 0),(.int .i64 0),(.int .i64 0)])),(os (.st 5 (.t 3) (.t 11))),(oT 4 12)]) (.seq (.seq (.ops [(ot 13 4),(oO 14 (.un .not (.t 13)))]) (.cond (.t 14) (.seq (.ops [(ot 15 0),(oc 16 158 [(.t 15)]),(os (.st 6 (.t 2) (.t 16)))]) .ret) .skip)) (.seq (.ops [(ot 17 0),(oc 18 159 [(.t 17)])]) (.seq (.ops [(ot 19 0),(oc 20 133 [(.t 19)]),(oO 5 (.alloc [(.int .i64 0),(.int .i64 0),(.str []),.nils,(.int .i64 0),(.int .i64 0)])),(os (.st 6 (.t 5) (.t 20)))]) (.seq (.ops [(ot 21 0),(oo 22 (.nilc (.t 21))),(oo 23 (.fad 2 (.t 22))),(oo 24 (.ld1 (.t 23))),(oo 25 (.bin .sub (.t 24) (.c (.int .i64 1)))),(oo 26 (.nilc (.t 21))),(oo 27 (.fad 2 (.t 26))),(os (.st 1 (.t 27) (.t 25)))]) (.seq (.ops [(oO 6 (.mv (.c (.int .i64 5))))]) (.seq (.block 0 (.loop (.seq (.seq (.dops [(oP (ot 28 6)),(⟨(oc 29 160 [(.t 28)]),(some none),0,[]⟩,(some [(on 29),⟨(oo 30 (.fad 1 (.t 3))),none,0,[]⟩,⟨(oo 31 (.ld1 (.t 30))),(some (some (.t 30))),9,[(1,0)]⟩,⟨(oO 32 (.mv (.c (.tup [])))),none,0,[]⟩])),(oP (oo 30 (.fad 1 (.t 3)))),(⟨(oo 31 (.ld1 (.t 30))),(some (some (.t 30))),9,[(1,0)]⟩,none),(oP (oO 32 (.strb .neq (.t 29) (.t 31))))]) (.cond (.t 32) .skip (.exit 0))) (.block 1 (.ops [(ot 33 6),(oo 34 (.bin .add (.t 33) (.c (.int .i64 1)))),(oT 6 34)]))))) (.seq (.ops [(ot 35 6),(oo 36 (.ldA 6 (.t 5))),(oo 37 (.buildS 1 6 [(.int .i64 0),(.int .i64 0),(.str []),.nils,(.int .i64 0),(.int .i64 0)] [((0,6),(.t 36))])),(oo 38 (.fad 3 (.t 3))),(oo 39 (.ld1 (.t 38))),(oo 40 (.fad 4 (.t 3))),(oo 41 (.ld1 (.t 40))),(oo 42 (.build [(.int .i64 0),(.int .i64 0),(.str []),.nils,(.int .i64 0),(.int .i64 0)] [((0,1),(.t 35)),((3,1),(.t 37)),((4,1),(.t 39)),((5,1),(.t 41))])),(os (.st 6 (.t 2) (.t 42)))]) .ret)))))))))
def Uu:XF:=⟨[0],Ut,[(.cA 2 6)]⟩
theorem gz:ju Qaf 133=some Uu:=by kernel_rfl
def z93:XC:=(.seq (.ops [(oO 4 (.alloc [(.int .i64 0),(.int .i64 0),(.str []),.nils,(.int .i64 0),(.int .i64 0)]))]) (.seq (.seq (.ops [(ot 8 1),(oo 9 (.len (.t 8))),(oO 10 (.bin .eql (.t 9) (.c (.int .i64 0))))]) (.cond (.t 10) (.seq (.ops [(ot 11 0),(oc 12 133 [(.t 11)]),(os (.st 6 (.t 4) (.t 12)))]) .ret) .skip)) (.seq (.ops [(ot 13 0),(ot 14 1),(oo 15 (.slS 2 (.t 14) (some (.c (.int .i64 1))) none)),(oc 16 93 [(.t 13),(.t 15)]),(oO 5 (.alloc [(.int .i64 0),(.int .i64 0),(.str []),.nils,(.int .i64 0),(.int .i64 0)])),(os (.st 6 (.t 5) (.t 16)))]) (.block 0 (.loop (.block 1 (.seq (.ops [(ot 18 0),(ot 19 1),(oo 20 (.idxS 2 (.t 19) (.c (.int .i64 0)))),(oo 21 (.fad 0 (.t 20))),(oo 22 (.ld1 (.t 21))),(oc 23 76 [(.t 18),(.t 22)]),(ot 17 23),(oo 24 (.ext (.t 17) 0)),(oo 25 (.ext (.t 17) 1)),(oO 6 (.alloc [(.int .i64 0),(.str []),(.int .i64 0),(.int .i64 0),(.int .i64 0)])),(os (.st 5 (.t 6) (.t 24))),(oT 7 25)]) (.seq (.seq (.ops [(ot 26 7),(oO 27 (.un .not (.t 26)))]) (.cond (.t 27) (.seq (.ops [(oo 28 (.ldA 6 (.t 5))),(os (.st 6 (.t 4) (.t 28)))]) .ret) .skip)) (.seq (.seq (.ops [(ot 29 1),(oo 30 (.idxS 2 (.t 29) (.c (.int .i64 0)))),(oo 31 (.fad 1 (.t 30))),(oo 32 (.ld1 (.t 31))),(oO 33 (.bin .eql (.t 32) (.c (.int .i64 1))))]) (.cond (.t 33) (.seq (.dops [(⟨(oo 34 (.ldA 5 (.t 6))),(some (some (.t 6))),88,[]⟩,none),(⟨(oo 35 (.ldA 6 (.t 5))),(some (some (.t 5))),37,[]⟩,none),(oP (ot 36 0)),(oP (ot 37 1)),(⟨(oc 38 93 [(.t 36),(.t 37)]),(some none),0,[(2,37),(3,88)]⟩,(some [])),(⟨(oc 39 134 [(.t 34),(.t 35),(.t 38)]),(some none),0,[]⟩,(some [])),(⟨(os (.st 6 (.t 4) (.t 39))),(some none),0,[]⟩,none)]) .ret) .skip)) (.seq (.dops [(⟨(oo 40 (.ldA 5 (.t 6))),(some (some (.t 6))),88,[]⟩,none),(⟨(oo 41 (.ldA 6 (.t 5))),(some (some (.t 5))),37,[]⟩,none),(oP (ot 42 0)),(oP (ot 43 1)),(oP (oo 44 (.slS 2 (.t 43) (some (.c (.int .i64 1))) none))),(⟨(oc 45 93 [(.t 42),(.t 44)]),(some none),0,[(3,37),(4,88)]⟩,(some [])),(⟨(oc 46 134 [(.t 40),(.t 41),(.t 45)]),(some none),0,[]⟩,(some [])),(⟨(os (.st 6 (.t 5) (.t 46))),(some none),0,[]⟩,none)]) (.seq (.ops [(ot 47 1),(oo 48 (.idxS 2 (.t 47) (.c (.int .i64 0)))),(oo 49 (.fad 1 (.t 48))),(oo 50 (.ld1 (.t 49))),(oO 51 (.bin .eql (.t 50) (.c (.int .i64 2))))]) (.cond (.t 51) (.seq (.ops [(oo 52 (.ldA 6 (.t 5))),(os (.st 6 (.t 4) (.t 52)))]) .ret) .skip))))))))))))
def y93:XF:=⟨[0,1],z93,[(.cA 4 6)]⟩
theorem x93:ju Qaf 93=some y93:=by kernel_rfl
def z48:XC:=(.seq (.ops [(oO 2 (.alloc [(.int .i64 0),(.int .i64 0),(.str []),.nils,(.int .i64 0),(.int .i64 0)]))]) (.seq (.ops [(ot 5 0),(oc 6 49 [(.t 5)]),(oO 3 (.alloc [(.int .i64 0),(.str []),(.int .i64 0),(.int .i64 0),(.int .i64 0)])),(os (.st 5 (.t 3) (.t 6)))]) (.seq (.ops [(ot 7 0),(oc 8 94 []),(oc 9 93 [(.t 7),(.t 8)]),(oO 4 (.alloc [(.int .i64 0),(.int .i64 0),(.str []),.nils,(.int .i64 0),(.int .i64 0)])),(os (.st 6 (.t 4) (.t 9)))]) (.seq (.seq (.ops [(oo 10 (.ldA 6 (.t 4))),(oc 11 95 [(.t 10)]),(oO 12 (.un .not (.t 11)))]) (.cond (.t 12) (.ops [(oo 13 (.ldA 5 (.t 3))),(oc 14 50 [(.t 13)])]) .skip)) (.seq (.ops [(oo 15 (.ldA 6 (.t 4))),(os (.st 6 (.t 2) (.t 15)))]) .ret)))))
def y48:XF:=⟨[0],z48,[(.cA 2 6)]⟩
theorem x48:ju Qaf 48=some y48:=by kernel_rfl
def jh4:XC:=(.seq (.ops [(oO 2 (.mv (.c (.str []))))]) (.seq (.ops [(oo 4 (.build [(.str []),(.str []),(.str []),(.str []),(.str []),(.str []),(.str []),(.str []),(.str []),(.str []),(.str []),(.str []),(.str []),(.str []),(.str []),(.str []),(.str []),(.str []),(.str []),(.str []),(.str []),(.str []),(.str []),(.str []),(.str []),(.str [])] [((0,1),(.c (.str [45]))),((1,1),(.c (.str [33]))),((2,1),(.c (.str [88]))),((3,1),(.c (.str [70]))),((4,1),(.c (.str [71]))),((5,1),(.c (.str [89]))),((6,1),(.c (.str [90]))),((7,1),(.c (.str [79]))),((8,1),(.c (.str [72]))),((9,1),(.c (.str [42]))),((10,1),(.c (.str [43]))),((11,1),(.c (.str [45]))),((12,1),(.c (.str [61]))),((13,1),(.c (.str [33,61]))),((14,1),(.c (.str [60]))),((15,1),(.c (.str [60,61]))),((16,1),(.c (.str [62]))),((17,1),(.c (.str [62,61]))),((18,1),(.c (.str [85]))),((19,1),(.c (.str [82]))),((20,1),(.c (.str [83]))),((21,1),(.c (.str [84]))),((22,1),(.c (.str [38]))),((23,1),(.c (.str [124]))),((24,1),(.c (.str [45,62]))),((25,1),(.c (.str [60,45,62])))])),(oO 3 (.alloc [(.str []),(.str []),(.str []),(.str []),(.str []),(.str []),(.str []),(.str []),(.str []),(.str []),(.str []),(.str []),(.str []),(.str []),(.str []),(.str []),(.str []),(.str []),(.str []),(.str []),(.str []),(.str []),(.str []),(.str []),(.str []),(.str [])])),(os (.st 26 (.t 3) (.t 4)))]) (.seq (.seq (.ops [(ot 5 0),(oo 6 (.bin .lss (.t 5) (.c (.int .i64 5)))),(ot 7 6),(oh 8 7 (.mv (.t 0))),(oh 9 7 (.bin .geq (.t 8) (.c (.int .i64 31)))),(oO 10 (.pick (.t 7) (.c (.bool true)) (.t 9)))]) (.cond (.t 10) (.seq (.ops [(oO 2 (.mv (.c (.str []))))]) .ret) .skip)) (.seq (.ops [(ot 11 0),(oo 12 (.bin .sub (.t 11) (.c (.int .i64 5)))),(oo 13 (.idxA 26 1 (.t 3) (.t 12))),(oo 14 (.ld1 (.t 13))),(oT 2 14)]) .ret))))
def jiu:XF:=⟨[0],jh4,[(.t 2)]⟩
theorem jll:ju Qaf 160=some jiu:=by kernel_rfl
def jh3:XC:=(.seq (.ops [(oO 2 (.mv (.c (.int .i64 0))))]) (.seq (.block 0 (.seq (.ops [(ot 4 0),(oo 5 (.bin .geq (.t 4) (.c (.int .i64 5)))),(ot 6 5),(og 7 6 (.mv (.t 0))),(og 8 6 (.bin .leq (.t 7) (.c (.int .i64 13)))),(oo 9 (.pick (.t 6) (.t 8) (.c (.bool false)))),(oT 3 9)]) (.cond (.t 3) (.seq (.ops [(oO 2 (.mv (.c (.int .i64 1))))]) .ret) (.seq (.ops [(ot 11 0),(oo 12 (.bin .geq (.t 11) (.c (.int .i64 14)))),(ot 13 12),(og 14 13 (.mv (.t 0))),(og 15 13 (.bin .lss (.t 14) (.c (.int .i64 31)))),(oo 16 (.pick (.t 13) (.t 15) (.c (.bool false)))),(oT 10 16)]) (.cond (.t 10) (.seq (.ops [(oO 2 (.mv (.c (.int .i64 2))))]) .ret) .skip))))) (.seq (.ops [(oO 2 (.mv (.c (.int .i64 0))))]) .ret)))
def jit:XF:=⟨[0],jh3,[(.t 2)]⟩
theorem jlk:ju Qaf 161=some jit:=by kernel_rfl
def jh2:XC:=(.seq (.ops [(oO 1 (.box (.t 0))),(oO 2 (.mv (.c (.bool false))))]) (.seq (.seq (.ops [(oo 3 (.fad 0 (.t 1))),(oO 4 (.ld1 (.t 3)))]) (.block 0 (.seq (.ops [(oo 6 (.bin .eql (.t 4) (.c (.int .i64 1)))),(oT 5 6)]) (.cond (.t 5) (.seq (.ops [(oo 7 (.fad 1 (.t 1))),(oo 8 (.ld1 (.t 7))),(oo 9 (.bin .geq (.t 8) (.c (.int .i64 0)))),(ot 10 9),(og 11 10 (.fad 1 (.t 1))),(og 12 10 (.ld1 (.t 11))),(og 13 10 (.bin .leq (.t 12) (.c (.int .i64 1000000)))),(oo 14 (.pick (.t 10) (.t 13) (.c (.bool false)))),(ot 15 14),(og 16 15 (.fad 2 (.t 1))),(og 17 15 (.ld1 (.t 16))),(og 18 15 (.strb .eql (.t 17) (.c (.str [])))),(oo 19 (.pick (.t 15) (.t 18) (.c (.bool false)))),(oT 2 19)]) .ret) (.seq (.ops [(oo 21 (.bin .eql (.t 4) (.c (.int .i64 2)))),(oT 20 21)]) (.cond (.t 20) (.seq (.ops [(oo 22 (.fad 1 (.t 1))),(oo 23 (.ld1 (.t 22))),(oo 24 (.bin .eql (.t 23) (.c (.int .i64 0)))),(ot 25 24),(oh 26 25 (.fad 1 (.t 1))),(oh 27 25 (.ld1 (.t 26))),(oh 28 25 (.bin .eql (.t 27) (.c (.int .i64 1)))),(oo 29 (.pick (.t 25) (.c (.bool true)) (.t 28))),(ot 30 29),(og 31 30 (.fad 2 (.t 1))),(og 32 30 (.ld1 (.t 31))),(og 33 30 (.strb .eql (.t 32) (.c (.str [])))),(oo 34 (.pick (.t 30) (.t 33) (.c (.bool false)))),(oT 2 34)]) .ret) (.seq (.ops [(oo 36 (.bin .eql (.t 4) (.c (.int .i64 3)))),(oT 35 36)]) (.cond (.t 35) (.seq (.ops [(oo 37 (.fad 1 (.t 1))),(oo 38 (.ld1 (.t 37))),(oo 39 (.bin .eql (.t 38) (.c (.int .i64 0)))),(ot 40 39),(og 41 40 (.fad 2 (.t 1))),(og 42 40 (.ld1 (.t 41))),⟨(some 43),false,(some (40,true)),(.call (.c (.fn 179 [])) [(.t 42)])⟩,(oo 44 (.pick (.t 40) (.t 43) (.c (.bool false)))),(oT 2 44)]) .ret) (.seq (.ops [(oo 46 (.bin .eql (.t 4) (.c (.int .i64 4)))),(oT 45 46)]) (.cond (.t 45) (.seq (.ops [(oo 47 (.fad 2 (.t 1))),(oo 48 (.ld1 (.t 47))),(oo 49 (.strb .eql (.t 48) (.c (.str [])))),(oT 2 49)]) .ret) .skip)))))))))) (.seq (.ops [(oo 50 (.fad 1 (.t 1))),(oo 51 (.ld1 (.t 50))),(oo 52 (.bin .eql (.t 51) (.c (.int .i64 0)))),(ot 53 52),(og 54 53 (.fad 2 (.t 1))),(og 55 53 (.ld1 (.t 54))),(og 56 53 (.strb .eql (.t 55) (.c (.str [])))),(oo 57 (.pick (.t 53) (.t 56) (.c (.bool false)))),(oT 2 57)]) .ret)))
def jis:XF:=⟨[0],jh2,[(.t 2)]⟩
theorem jlj:ju Qaf 162=some jis:=by kernel_rfl
def z95:XC:=(.seq (.ops [(oO 1 (.box (.t 0))),(oO 2 (.mv (.c (.bool false))))]) (.seq (.ops [(oo 3 (.ldA 6 (.t 1))),(oc 4 135 [(.t 3),(.c (.int .i64 60))]),(oT 2 4)]) .ret))
def y95:XF:=⟨[0],z95,[(.t 2)]⟩
theorem x95:ju Qaf 95=some y95:=by kernel_rfl
def jep:XC:=(.seq (.ops [(oO 2 (.box (.t 0))),(oO 3 (.box (.t 1))),(oO 4 (.mv (.c (.bool false))))]) (.seq (.seq (.dops [(oP (oo 5 (.fad 0 (.t 2)))),(⟨(oo 6 (.ld1 (.t 5))),(some (some (.t 5))),3,[]⟩,none),(oP (oo 7 (.bin .lss (.t 6) (.c (.int .i64 1))))),(oP (ot 8 7)),(oP (oh 9 8 (.fad 0 (.t 2)))),(⟨(oh 10 8 (.ld1 (.t 9))),(some (some (.t 9))),3,[]⟩,none),(oP (oh 11 8 (.bin .geq (.t 10) (.c (.int .i64 31))))),(oP (oo 12 (.pick (.t 8) (.c (.bool true)) (.t 11)))),(oP (ot 13 12)),(⟨(oh 14 13 (.ld1 (.t 3))),(some (some (.t 3))),3,[]⟩,none),(oP (oh 15 13 (.bin .lss (.t 14) (.c (.int .i64 1))))),(oP (oo 16 (.pick (.t 13) (.c (.bool true)) (.t 15)))),(oP (ot 17 16)),(oP (oh 18 17 (.fad 3 (.t 2)))),(⟨(oh 19 17 (.ld1 (.t 18))),(some (some (.t 18))),35,[]⟩,none),(oP (oh 20 17 (.len (.t 19)))),(oP (oh 21 17 (.fad 0 (.t 2)))),(⟨(oh 22 17 (.ld1 (.t 21))),(some (some (.t 21))),3,[]⟩,none),(⟨⟨(some 23),false,(some (17,false)),(.call (.c (.fn 161 [])) [(.t 22)])⟩,(some none),0,[(3,35)]⟩,(some [])),(oP (oh 24 17 (.bin .neq (.t 20) (.t 23)))),(oP (oo 25 (.pick (.t 17) (.c (.bool true)) (.t 24)))),(oP (ot 26 25)),(⟨(oh 27 26 (.ldA 6 (.t 2))),(some (some (.t 2))),37,[]⟩,none),(⟨⟨(some 28),false,(some (26,false)),(.call (.c (.fn 162 [])) [(.t 27)])⟩,(some none),0,[]⟩,(some [])),(oP (oh 29 26 (.un .not (.t 28)))),(oP (oO 30 (.pick (.t 26) (.c (.bool true)) (.t 29))))]) (.cond (.t 30) (.seq (.ops [(oO 4 (.mv (.c (.bool false))))]) .ret) .skip)) (.seq (.ops [(oo 31 (.fad 3 (.t 2))),(oo 32 (.ld1 (.t 31))),(oo 33 (.fn 164 [(.t 3)])),(oc 34 163 [(.t 32),(.t 33)]),(oo 35 (.un .not (.t 34))),(oT 4 35)]) .ret)))
def jet:XF:=⟨[0,1],jep,[(.t 4)]⟩
theorem jiP:ju Qaf 135=some jet:=by kernel_rfl
def jh0:XC:=(.seq (.ops [(oO 2 (.box (.t 0))),(oO 3 (.mv (.c (.bool false))))]) (.seq (.ops [(oo 4 (.ldA 6 (.t 2))),(oo 5 (.ld1 (.t 1))),(oo 6 (.bin .sub (.t 5) (.c (.int .i64 1)))),(oc 7 135 [(.t 4),(.t 6)]),(oo 8 (.un .not (.t 7))),(oT 3 8)]) .ret))
def jiq:XF:=⟨[0,1],jh0,[(.t 3)]⟩
theorem jlh:ju Qaf 164=some jiq:=by kernel_rfl
def jh1:XC:=(.seq (.ops [(oO 4 (.mv (.c (.bool false))))]) (.seq (.ops [(ot 5 0),(ot 6 1),(oc 7 180 [(.t 5),(.t 6)]),(oo 8 (.bin .geq (.t 7) (.c (.int .i64 0)))),(oT 4 8)]) .ret))
def jir:XF:=⟨[0,1],jh1,[(.t 4)]⟩
theorem jli:ju Qaf 163=some jir:=by kernel_rfl
def jhX:XC:=(.seq (.ops [(oO 4 (.mv (.c (.int .i64 0))))]) (.seq (.seq (.ops [(ot 6 0),(oO 7 (.len (.t 6))),(oO 8 (.mv (.c (.int .i64 0))))]) (.block 0 (.loop (.seq (.ops [(oO 9 (.bin .lss (.t 8) (.t 7)))]) (.seq (.cond (.t 9) .skip (.exit 0)) (.seq (.block 1 (.seq (.ops [(ot 10 8),(oT 5 10)]) (.seq (.ops [(ot 11 1),(ot 12 0),(ot 13 5),(oo 14 (.idxS 6 (.t 12) (.t 13))),(oo 15 (.ldA 6 (.t 14))),⟨(some 16),true,none,(.call (.t 11) [(.t 15)])⟩]) (.cond (.t 16) (.seq (.ops [(ot 17 5),(oT 4 17)]) .ret) .skip)))) (.ops [(oo 18 (.bin .add (.t 8) (.c (.int .i64 1)))),(oT 8 18)]))))))) (.seq (.ops [(oO 4 (.mv (.c (.int .i64 (-(0+1))))))]) .ret)))
def jin:XF:=⟨[0,1],jhX,[(.t 4)]⟩
theorem jle:ju Qaf 180=some jin:=by kernel_rfl
def jh5:XC:=(.seq (.ops [(oO 4 (.mv (.c (.bool false))))]) (.seq (.ops [(ot 5 0),(ot 6 1),(oc 7 177 [(.t 5),(.t 6)]),(oo 8 (.bin .geq (.t 7) (.c (.int .i64 0)))),(oT 4 8)]) .ret))
def jiv:XF:=⟨[0,1],jh5,[(.t 4)]⟩
theorem jlm:ju Qaf 154=some jiv:=by kernel_rfl
def jhZ:XC:=(.seq (.ops [(oO 4 (.mv (.c (.int .i64 0))))]) (.seq (.seq (.ops [(ot 6 0),(oO 7 (.len (.t 6))),(oO 8 (.mv (.c (.int .i64 0))))]) (.block 0 (.loop (.seq (.ops [(oO 9 (.bin .lss (.t 8) (.t 7)))]) (.seq (.cond (.t 9) .skip (.exit 0)) (.seq (.block 1 (.seq (.ops [(ot 10 8),(oT 5 10)]) (.seq (.ops [(ot 11 1),(ot 12 0),(ot 13 5),(oo 14 (.idxS 1 (.t 12) (.t 13))),(oo 15 (.ld1 (.t 14))),(oO 16 (.strb .eql (.t 11) (.t 15)))]) (.cond (.t 16) (.seq (.ops [(ot 17 5),(oT 4 17)]) .ret) .skip)))) (.ops [(oo 18 (.bin .add (.t 8) (.c (.int .i64 1)))),(oT 8 18)]))))))) (.seq (.ops [(oO 4 (.mv (.c (.int .i64 (-(0+1))))))]) .ret)))
def jip:XF:=⟨[0,1],jhZ,[(.t 4)]⟩
theorem jlg:ju Qaf 177=some jip:=by kernel_rfl
def jhY:XC:=(.seq (.ops [(oO 2 (.mv (.c (.bool false))))]) (.seq (.seq (.ops [(ot 3 0),(oo 4 (.strb .eql (.t 3) (.c (.str [])))),(ot 5 4),(oh 6 5 (.mv (.t 0))),(oh 7 5 (.lenS (.t 6))),(oh 8 5 (.bin .gtr (.t 7) (.c (.int .i64 32)))),(oo 9 (.pick (.t 5) (.c (.bool true)) (.t 8))),(ot 10 9),(oh 11 10 (.mv (.t 0))),(oh 12 10 (.ixStr (.t 11) (.c (.int .i64 0)))),⟨(some 13),false,(some (10,false)),(.call (.c (.fn 119 [])) [(.t 12)])⟩,(oh 14 10 (.un .not (.t 13))),(oo 15 (.pick (.t 10) (.c (.bool true)) (.t 14))),(ot 16 15),(oh 17 16 (.mv (.t 0))),⟨(some 18),false,(some (16,false)),(.call (.c (.fn 121 [])) [(.t 17)])⟩,(oO 19 (.pick (.t 16) (.c (.bool true)) (.t 18)))]) (.cond (.t 19) (.seq (.ops [(oO 2 (.mv (.c (.bool false))))]) .ret) .skip)) (.seq (.ops [(ot 20 0),(oc 21 114 [(.t 20),(.c (.fn 120 []))]),(ot 22 0),(oo 23 (.lenS (.t 22))),(oo 24 (.bin .eql (.t 21) (.t 23))),(oT 2 24)]) .ret)))
def jio:XF:=⟨[0],jhY,[(.t 2)]⟩
theorem jlf:ju Qaf 179=some jio:=by kernel_rfl
end Go.Sy
end
noncomputable section
set_option maxRecDepth 100000
namespace Go.Sy
open Go.Ev Go.Proofs
variable {base:Bs}
theorem dzD {p:Prop}(h:p:=by first | assumption | decide | omega | (simp only [qV,Tk.cells_E,rzN,Qal,Qap]; first | done | omega) | (apply JU <;> first | omega | ((simp (disch:=first | assumption | omega | (simp only [qV,Tk.cells_E,rzN,Qal,Qap]; first | done | omega)) only [rzL,Qal,Qap,QaL,Qab,qV,Tk.cells_E ]) <;> first | done | omega)) | (simp (disch:=first | assumption | omega | (simp only [qV,Tk.cells_E,rzN,Qal,Qap]; first | done | omega)) only [qV,Tk.cells_E,rzG,Qag,Qah,Qac,Qbn,Qal,Qap,QaB,QaG]; first | done | omega | decide)):p:=h
theorem cyD {p:Prop}(h:p:=by apply JU <;> first | omega | ((simp (disch:=first | assumption | omega | (simp only [qV,Tk.cells_E,rzN,Qal,Qap]; first | done | omega)) only [rzL,Qal,Qap,QaL,Qab,qV,Tk.cells_E]) <;> first | done | rfl | omega | (simp; done) | (simp; omega))):p:=h
theorem qz {p:Prop}(h:p:=by first | assumption | decide | omega | (simp only [qV,Tk.cells_E,zz,rzN,Qal,Qap]; first | done | omega) | (apply JU <;> first | omega | ((simp (disch:=first | assumption | omega | (simp only [qV,Tk.cells_E,zz,rzN,Qal,Qap]; first | done | omega)) only [rzL,Qal,Qap,QaL,Qab,qV,Tk.cells_E,zz ]) <;> first | done | omega)) | (simp (disch:=first | assumption | omega | (simp only [qV,Tk.cells_E,zz,rzN,Qal,Qap]; first | done | omega)) only [qV,Tk.cells_E,zz,rzG,Qag,Qah,Qac,Qbn,Qal,Qap,QaB,QaG]; first | done | omega | decide)):p:=h
theorem j4 {p:Prop}(h:p:=by apply JU <;> first | omega | ((simp (disch:=first | assumption | omega | (simp only [qV,Tk.cells_E,zz,rzN,Qal,Qap]; first | done | omega)) only [rzL,Qal,Qap,QaL,Qab,qV,Tk.cells_E,zz]) <;> first | done | rfl | omega | (simp; done) | (simp; omega))):p:=h
theorem vyD {p:Prop}(h:p:=by first | exact FzD.u | exact FzD.pa (by rfl) | exact FzD.agg (.pc (by rfl)) | exact FzD.tup (.cons (FzD.agg (.pc (by rfl))) (.pc (by rfl))) | exact FzD.iface (FzD.agg (.pc (by rfl))) | exact W0 | (rw [←qH]; exact FzD.agg (.pc (zn _))) | exact FzD.agg (.pc (by simp only [zn,Tk.cells_p]))):p:=h
theorem v7 {S:List (List Nat)}{k:Nat}(h:k<S.length):(S.map AV.str).getD k .bad=.str S[k]:=by simp [QaO,h]
theorem jlc (hb:NB base)(S:List (List Nat))(hn:S.length≤1000000)(x:List Nat):Tot base 177 [.lst S.length (S.map .str),.str x] (.int .i64 (fi (λy=>decide (x=y)) S)):=by
 refine hb.tot ?_ rfl rfl;refine jz jlg (by rfl) (hb.pur 177 1 (by decide)) ?_;simp only [jip,jj,Qai,Qam,Qag,Qah];unfold jhZ;try dsimp only [oo,oO,ot,oT,os,og,oh,oc,on,oN,oP]
 repeat' (first | (apply jc <;> intro _) | simp (disch:=first | exact dzD | fail) only [je,Tk.cells_R,rzZ,Qab,Qac,Qad,Qaa,Qae])
 refine qn S.length (λk L s=>(∀ j (h1:j<S.length),j<k->decide (x=S[j])=false)∧Has L 0 (.lst S.length (S.map .str))∧Has L 1 (.str x)) (by first | assumption | omega) (by decide) (by simp (disch:=decide) only [jd,jb]) (by simp (disch:=decide) only [jd,jb]) ?_ (λk L s v h=>by simp (disch:=decide) only [jb]; exact h) (λk L s v h=>by simp (disch:=decide) only [jb]; exact h) (λk L s hk hI hi hn=>?_) (λL s hI=>?_)
 ·refine ⟨λj _ hj=>absurd hj (Qbw _),?_⟩;simp (disch:=decide) only [Qaj,Qan,z0,z1,jd,jb,and_true,true_and]
 ·obtain ⟨h0,i0,i1⟩:=hI;have hl:(S.map AV.str).length=S.length:=QaN ..;have e:=v7 hk
  (have zz:=@hl; (repeat' (first | (apply jc <;> intro _) | simp (disch:=first | exact qz | fail) only [ja i0,ja i1,ja hi,wx,e,hl,je,Tk.cells_R,rzZ,Qab,Qac,Qad,Qaa,Qae])); (all_goals (clear zz)))
  ·exact G0.v (by rw [K7 hk (λj hj=>h0 j (by omega) hj) (by simpa using ‹x=S[k]›)]) rfl
  ·refine ⟨⟨λj h1 hj=>?_,?_⟩,?_⟩
   ·rcases QaX j k with h | h
    ·simpa using h0 j h1 h
    ·have:j=k:=by omega
     subst this; simpa using ‹¬ x=S[j]›
   ·simp (disch:=decide) only [Qaj,Qan,z0,z1,jd,jb,and_true,true_and,i0,i1]
   ·simp (disch:=decide) only [Qaj,Qan,z0,z1,jd,jb,and_true,true_and,hi,hn]
 ·obtain ⟨h0,i0,i1⟩:=hI;repeat' (first | (apply jc <;> intro _) | simp (disch:=first | exact dzD | fail) only [je,Tk.cells_R,rzZ,Qab,Qac,Qad,Qaa,Qae])
  exact G0.v (by rw [K6 λj hj=>h0 j hj hj]; rfl) rfl
theorem jbn {α:Type}(q:α->Bool):∀ xs:List α,decide (0≤fi q xs)=xs.any q
 | []=>rfl
 | x :: xs=>by
  have ih:=jbn q xs;by_cases h:q x=true
  ·simp [fi,h]
  ·rw [List.any_cons,←ih];simp only [fi,h,if_false,Bool.false_or];by_cases h2:fi q xs<0
   ·rw [if_pos h2]; simp; omega
   ·rw [if_neg h2]; simp; omega
theorem jhL (x:List Nat)(S:List (List Nat)):(S.any λy=>decide (x=y))=decide (x∈S):=by
 induction S with
 | nil=>rfl
 | cons y S ih=>rw [List.any_cons,ih]; simp
theorem jkz (hb:NB base)(S:List (List Nat))(hn:S.length≤1000000)(x:List Nat):Tot base 154 [.lst S.length (S.map .str),.str x] (.bool (decide (x∈S))):=by
 refine hb.tot ?_ rfl rfl;refine jz jlm (by rfl) (hb.pur 154 1 (by decide)) ?_;simp only [jiv,jj,Qai,Qam,Qag,Qah];unfold jh5;try dsimp only [oo,oO,ot,oT,os,og,oh,oc,on,oN,oP]
 repeat' (first | (apply jc <;> intro _) | simp (disch:=first | exact dzD | fail) only [jlc hb S hn x,je,Tk.cells_R,rzZ,Qab,Qac,Qad,Qaa,Qae])
 exact G0.v (by rw [jbn,jhL]) rfl
def isM (t:Tk)(S:List (List Nat)):Bool:=decide (t.kind=3∨t.kind=4) && decide (t.text∈S)
theorem jkw (hb:NB base)(t:Tk)(S:List (List Nat))(hn:S.length≤1000000):PX Qaf base 125 [.agg t.cells,.lst S.length (S.map .str)] (.ok (.bool (isM t S))):=by
 refine jz jlt (by rfl) (hb.pur 125 1 (by decide)) ?_;simp only [jiC,jj,Qai,Qam,Qag,Qah];unfold jic;try dsimp only [oo,oO,ot,oT,os,og,oh,oc,on,oN,oP]
 repeat' (first | (apply jc <;> intro _) | simp (disch:=first | exact dzD | fail) only [jkz hb S hn,je,Tk.cells_R,rzZ,Qab,Qac,Qad,Qaa,Qae])
 all_goals (refine G0.v ?_ rfl; unfold isM; simp; try omega)
theorem jkv (hb:NB base)(t:Tk)(S:List (List Nat))(hn:S.length≤1000000):Tot base 125 [.agg t.cells,.lst S.length (S.map .str)] (.bool (isM t S)):=hb.tot (jkw hb t S hn) rfl rfl
def er (t:Tk):AV:=.iface 30 (.agg [.int .i64 151,.int .i64 (t.line:Int),.int .i64 (t.col:Int)])
theorem G0.er (t:Tk){s:St}:G0 (er t) (.iface 30 (.agg [.int .i64 151,.int .i64 (t.line:Int),.int .i64 (t.col:Int)])) s:=FzD.iface (FzD.agg (.pc rfl))
theorem Jr (hb:NB base)(t:Tk):Ret base 50 [.agg t.cells] (.pn (er t)):=by
 refine hb.ret ?_ rfl rfl;refine jz x50 (by rfl) (hb.pur 50 1 (by decide)) ?_;simp only [y50,jj,Qai,Qam,Qag,Qah];unfold z50;try dsimp only [oo,oO,ot,oT,os,og,oh,oc,on,oN,oP]
 repeat' (first | (apply jc <;> intro _) | simp (disch:=first | exact dzD | fail) only [je,Tk.cells_R,rzZ,Qab,Qac,Qad,Qaa,Qae])
 exact G0.er t
theorem jjH (hb:NB base)(op:Int):Tot base 161 [.int .i64 op] (.int .i64 (if 5≤op∧op≤13 then 1 else if 14≤op∧op<31 then 2 else 0)):=by
 refine hb.tot ?_ rfl rfl;refine jz jlk (by rfl) (hb.pur 161 1 (by decide)) ?_;simp only [jit,jj,Qai,Qam,Qag,Qah];unfold jh3;try dsimp only [oo,oO,ot,oT,os,og,oh,oc,on,oN,oP]
 repeat' (first | (apply jc <;> intro _) | simp (disch:=first | exact dzD | fail) only [je,Tk.cells_R,rzZ,Qab,Qac,Qad,Qaa,Qae])
 all_goals (refine G0.v ?_ rfl; repeat' split) <;> first | rfl | (exfalso; omega) | (simp_all; done) | (simp; omega) | (simp_all; omega)
def za:List (List Nat):=[[45],[33],[88],[70],[71],[89],[90],[79],[72],[42],[43],[45],[61],[33,61],[60],[60,61],[62],[62,61],[85],[82],[83],[84],[38],[124],[45,62],[60,45,62]]
def sgn (op:Int):List Nat:=if 5≤op∧op<31 then za.getD (op - 5).toNat [] else []
theorem jed (hb:NB base)(op:Int):Tot base 160 [.int .i64 op] (.str (sgn op)):=by
 refine hb.tot ?_ rfl rfl;refine jz jll (by rfl) (hb.pur 160 1 (by decide)) ?_;simp only [jiu,jj,Qai,Qam,Qag,Qah];unfold jh4;try dsimp only [oo,oO,ot,oT,os,og,oh,oc,on,oN,oP]
 repeat' (first | (apply jc <;> intro _) | simp (disch:=first | exact dzD | fail) only [je,Tk.cells_R,rzZ,Qab,Qac,Qad,Qaa,Qae])
 ·exact G0.v (by rw [sgn,if_neg (by omega)]) rfl
 ·exact G0.v (by rw [sgn,if_neg (by omega)]) rfl
 ·have h26:(op - 5).toNat<za.length:=by show (op - 5).toNat<26; omega
  show G0 _ ((za.map AV.str).getD _ _) _;rw [Qbn,v7 h26];exact G0.v (by rw [sgn,if_pos (by omega),QaF,Qay h26]; rfl) rfl
def nm (l:List Nat):Bool:=decide (l≠[]) && decide (l.length≤32) && jV (l.getD 0 0) && !wh l && decide (jY qO l=l.length)
theorem jkt (hb:NB base)(l:List Nat)(hl:l.length≤4611686018427387904):Tot base 179 [.str l] (.bool (nm l)):=by
 refine hb.tot ?_ rfl rfl;have e0:¬ l=[]->0<l.length:=λh=>by cases l <;> simp_all
 refine jz jlf (by rfl) (hb.pur 179 1 (by decide)) ?_;simp only [jio,jj,Qai,Qam,Qag,Qah];unfold jhY;try dsimp only [oo,oO,ot,oT,os,og,oh,oc,on,oN,oP]
 by_cases h:l=[]
 ·subst h;repeat' (first | (apply jc <;> intro _) | simp (disch:=first | exact dzD | fail) only [je,Tk.cells_R,rzZ,Qab,Qac,Qad,Qaa,Qae])
  exact G0.v rfl rfl
 ·have e1:(0:Int)<(l.length:Int):=by have:=e0 h; omega
  repeat' (first | (apply jc <;> intro _) | simp (disch:=first | exact dzD | fail) only [WZ hb,jeg hb,Vr hb l hl (jae hb),h,e1,je,Tk.cells_R,rzZ,Qab,Qac,Qad,Qaa,Qae])
  all_goals (refine G0.v (congrArg AV.bool ?_) rfl; rw [QaW]; unfold nm; simp_all <;> omega)
def ZQ (x:Ex):Bool:=
 if x.op=1 then decide (0≤x.num) && decide (x.num≤1000000) && decide (x.name=[])
 else if x.op=2 then (decide (x.num=0) || decide (x.num=1)) && decide (x.name=[])
 else if x.op=3 then decide (x.num=0) && nm x.name
 else if x.op=4 then decide (x.name=[])
 else decide (x.num=0) && decide (x.name=[])
theorem jjG (hb:NB base)(x:Ex)(hl:x.name.length≤4611686018427387904):Tot base 162 [.agg (eE x)] (.bool (ZQ x)):=by
 refine hb.tot ?_ (by first | rfl | simp [pa,pc,zn,Tk.cells_p]) rfl;refine jz jlj (by rfl) (hb.pur 162 1 (by decide)) ?_;simp only [jis,jj,Qai,Qam,Qag,Qah];unfold jh2;try dsimp only [oo,oO,ot,oT,os,og,oh,oc,on,oN,oP]
 repeat' (first | (apply jc <;> intro _) | simp (disch:=first | exact dzD | fail) only [jkt hb _ hl,je,Tk.cells_R,rzZ,Qab,Qac,Qad,Qaa,Qae])
 all_goals (refine G0.v ?_ rfl; simp only [ZQ]; simp [*]; try omega)
theorem jcS (hb:NB base)(n:Nat)(t:Tk):Ret base 77 [.int .i64 (n:Int),.agg t.cells] (if 32≤n then .pn (er t) else .ok (.tup [])):=by
 refine hb.ret ?_ rfl rfl;refine jz x77 (by rfl) (hb.pur 77 1 (by decide)) ?_;simp only [y77,jj,Qai,Qam,Qag,Qah];unfold z77;try dsimp only [oo,oO,ot,oT,os,og,oh,oc,on,oN,oP]
 repeat' (first | (apply jc <;> intro _) | simp (disch:=first | exact dzD | fail) only [Jr hb,je,Tk.cells_R,rzZ,Qab,Qac,Qad,Qaa,Qae])
 ·rw [if_pos (by omega)];exact FzD.iface (FzD.agg (.pc rfl))
 ·rw [if_neg (by omega)];exact FzD.u
def J8 (v:List (List Nat)×Nat):List AV:=[.lst v.1.length (v.1.map .str),.int .i64 (v.2:Int)]
def q8:List (List (List Nat)×Nat):=[([[60,45,62]],0),([[45,62]],1),([[124]],0),([[38]],0),([[85],[82],[83],[84]],1),([[61],[33,61],[60],[60,61],[62],[62,61]],2),([[43],[45]],0),([[42]],0)]
theorem Gb (hb:NB base):Tot base 94 [] (.lst 8 (fl J8 q8)):=by
 refine hb.tot ?_ rfl rfl;refine jz x94 (by rfl) (hb.pur 94 1 (by decide)) ?_;simp only [y94,jj,Qai,Qam,Qag,Qah];unfold z94;try dsimp only [oo,oO,ot,oT,os,og,oh,oc,on,oN,oP]
 repeat' (first | (apply jc <;> intro _) | simp (disch:=first | exact dzD | fail) only [je,Tk.cells_R,rzZ,Qab,Qac,Qad,Qaa,Qae])
 exact ⟨[8,0,1,2,3,4,5,6,7],by kernel_rfl,λb _=>QaT _⟩
end Go.Sy
end
noncomputable section
set_option maxRecDepth 100000
namespace Go.Sy
open Go.Ev Go.Proofs
variable {base:Bs}
theorem H6 {m d b cap:Nat}{s:St}{ks:List Ex}{op num l c:Int}{nm:List Nat}{ex:Bool}{cs:List AV}(C:Cl s b cs)(hc:cs=fl eE ks)(hm:m≤b) :
  FzD m (d+4) s (.agg [.int .i64 op,.int .i64 num,.str nm,.slice b 0 ks.length cap 6 ex,.int .i64 l,.int .i64 c]) (.agg (eE (.mk op num nm ks l c))):=by
 subst hc;rw [qH];have hl:=Xq JD ks;refine FzD.agg (.cons (.pc rfl) (.cons (.pc rfl) (.cons (.pc rfl) (.cons (FzD.slice C.rw_ (QbY hl.symm) hm ?_) (.pc rfl)))));rw [←hl,QaK];exact .pc (YL zn ks)
theorem W0 {m d:Nat}{s:St}{op num l c:Int}{nm:List Nat}:FzD m (d+2) s (.agg [.int .i64 op,.int .i64 num,.str nm,.nils,.int .i64 l,.int .i64 c]) (.agg (eE (.mk op num nm [] l c))):=by
 rw [qH];exact FzD.agg (.cons (.pc rfl) (.cons (.pc rfl) (.cons (.pc rfl) (.cons .nils (.pc rfl)))))
theorem jeC:Go.Ev.isAgg Qaf 9=some false:=by kernel_rfl
theorem jeB:Go.Ev.sizeOf Qaf 9=some 1:=by kernel_rfl
theorem Vp {t:TypeId}{b i:Nat}{cs:List AV}{v:AV}{s:St}(h1:Go.Ev.isAgg Qaf t=some false)(h2:Go.Ev.sizeOf Qaf t=some 1)(C:Cl s b cs)(hi:i<cs.length)(hv:cs.getD i .bad=v)(hc:eqs v=true):jX Qaf t (.ptr b i) v s.h=true:=
 J4 h1 h2 (by rw [C.len]; exact hi) ((C.cell i hi).trans hv) hc
section
variable {st:St} {K:AV->St->Prop}
theorem jiZ {z vs:List AV}{o:Nat}{a:List AV}(ha:z.take o=a)(h:o+vs.length=z.length):upd z o vs=a ++ vs:=by
 rw [←wz z o vs (by omega),ha,h];simp
theorem jkr {cx cy:List AV}{z0 z1 z2 z3 z4 z5:AV}(hx:cx.length=6)(hy:cy.length=6)(hlx:lall AV.cell cx=true)(hly:lall AV.cell cy=true) :
  jf (U6 2 6 [z0,z1,z2,z3,z4,z5] [((0,6),.agg cx),((6,6),.agg cy)] st) K=K (.slice st.nx 0 2 2 6 true) (nw st (cx ++ cy)):=by
 have e1:upd ([z0,z1,z2,z3,z4,z5] ++ [z0,z1,z2,z3,z4,z5]) 0 cx=cx ++ [z0,z1,z2,z3,z4,z5]:=by
  rw [←wz _ 0 cx (by rw [hx]; exact Nat.le_add_left _ _),hx]; rfl
 have e2:upd (cx ++ [z0,z1,z2,z3,z4,z5]) 6 cy=cx ++ cy:=jiZ (by rw [←hx,List.take_left]) (by rw [Qak,hx,hy]; rfl);rw [jfI,Wb,Wb,Vw,Qba,ge (v:=.agg cx) rfl hx (Nat.le_add_left 6 6),Xa,e1,ge (v:=.agg cy) rfl hy (by rw [Qak,hx]; exact Qaq 12),Xa,e2,jbV (by rw [jfd _ _ hlx,hly])]
end
def Yc (text:List Nat):Option Nat:=(QaS 17).find? λi=>decide (sgn ((14+i:Nat):Int)=text)
def yF (t:Tk)(x y:Ex):Ex:=match Yc t.text with
 | some i=>.mk ((14+i:Nat):Int) 0 [] [x,y] t.line t.col
 | none=>.mk 0 0 [] [] 0 0
theorem je3 {text:List Nat}{i:Nat}(hi:i<17)(h:sgn ((14+i:Nat):Int)=text)(hj:∀ j,j<i->sgn ((14+j:Nat):Int)≠text):Yc text=some i:=by
 unfold Yc;rw [List.find?_range_eq_some];exact ⟨by simpa using h,by simpa using hi,λj hj'=>by simpa using hj j hj'⟩
theorem je2 {text:List Nat}(hj:∀ j,j<17->sgn ((14+j:Nat):Int)≠text):Yc text=none:=by
 unfold Yc;rw [List.find?_range_eq_none];exact λj hj'=>by simpa using hj j hj'
def zE:List AV:=[.int .i64 0,.int .i64 0,.str [],.nils,.int .i64 0,.int .i64 0]
theorem jkU (hb:NB base)(t:Tk)(x y:Ex):Tot base 134 [.agg t.cells,.agg (eE x),.agg (eE y)] (.agg (eE (yF t x y))):=by
 refine hb.tot ?_ (by first | rfl | simp [pa,pc,zn,Tk.cells_p]) rfl;refine jz jlq (by rfl) (hb.pur 134 1 (by decide)) ?_;simp only [jiz,jj,Qai,Qam,Qag,Qah];unfold jh9;try dsimp only [oo,oO,ot,oT,os,og,oh,oc,on,oN,oP]
 repeat' (first | (apply jc <;> intro _) | simp (disch:=first | exact dzD | fail) only [je,Tk.cells_R,rzZ,Qab,Qac,Qad,Qaa,Qae])
 have hC:=Cl.new st0 t.cells;have hs:jX Qaf 9 (.ptr 0 1) (.str t.text) (nw (nw (nw (nw st0 t.cells) (eE x)) (eE y)) zE).h=true:=Vp jeC jeB (((hC.nw _).nw _).nw _) (QbG (Qbo 3)) rfl rfl;unfold zE at hs;refine zG (λmm L s=>∃ i:Nat,i≤17∧mm=17 - i∧s=nw (nw (nw (nw st0 t.cells) (eE x)) (eE y)) zE∧(∀ j,j<i->sgn ((14+j:Nat):Int)≠t.text)∧Has L 3 (.ptr 0 0)∧Has L 4 (.ptr 1 0)∧Has L 5 (.ptr 2 0)∧Has L 6 (.ptr 3 0)∧Has L 7 (.int .i64 ((14+i:Nat):Int))) ?_ 17 ?_
 ·rintro mm L s ⟨i,hi,rfl,rfl,hj,i3,i4,i5,i6,i7⟩;unfold zE;have hS:=jed hb ((14+i:Nat):Int);repeat' (first | (apply jc <;> intro _) | simp (disch:=first | exact dzD | fail) only [ja i3,ja i4,ja i5,ja i6,ja i7,hS,hs,↓jkr,je,Tk.cells_R,rzZ,Qab,Qac,Qad,Qaa,Qae])
  ·have e:yF t x y=.mk ((14+i:Nat):Int) 0 [] [x,y] t.line t.col:=by unfold yF; rw [je3 (by omega) ‹_› hj]
   rw [e];refine H6 (ks:=[x,y]) (cs:=eE x ++ eE y) ?_ (by simp [fl]) (QaT _);simp (disch:=first | assumption | decide | omega | (simp only [jg,jh,jo,jk,jm,qT,Qal,Qap]; first | done | omega)) only [jE,jG,jD];exact Cl.new _ _
  ·refine ⟨17 - (i+1),by omega,i+1,by omega,rfl,λj hj'=>?_,?_⟩
   ·by_cases h:j=i
    ·rw [h]; assumption
    ·exact hj j (by omega)
   ·rw [show ((14+(i+1):Nat):Int)=((14+i:Nat):Int)+1 by omega];simp (disch:=decide) only [Qaj,Qan,z0,z1,jd,jb,and_true,true_and,i3,i4,i5,i6]
  ·have e:yF t x y=.mk 0 0 [] [] 0 0:=by unfold yF; rw [je2 λj hj'=>hj j (by omega)]
   rw [e];exact W0
 ·refine ⟨0,by omega,rfl,rfl,λj hj=>absurd hj (Qbw _),?_⟩;rw [show ((14+0:Nat):Int)=14 from rfl];simp (disch:=decide) only [Qaj,Qan,z0,z1,jd,jb,and_true,true_and]
end Go.Sy
end
noncomputable section
set_option maxRecDepth 100000
namespace Go.Sy
open Go.Ev Go.Proofs
variable {base:Bs}
theorem jfQ {P:Program}{f:FuncId}{xs:List AV}{st:St}{v:AV}{R:St->Prop}(h:∀ K Kp:AV->St->Prop,(∀ s,R s->K v s)->XB P base f xs st K Kp):∃ s,R s∧∀ K Kp:AV->St->Prop,XB P base f xs st K Kp=K v s:=by
 obtain ⟨r,⟨N,D,h1⟩,h4⟩:=h (λv' s'=>v'=v∧R s') (λ_ _=>False) λs hs=>⟨rfl,hs⟩;cases r with
 | no=>exact h4.elim
 | pn v s=>exact h4.elim
 | ok v' s'=>
  obtain ⟨rfl,hR⟩:=h4;exact ⟨_,hR,λK Kp=>propext ⟨λ⟨r2,⟨N2,D2,h2⟩,h3⟩=>by
   have e1:=h1 (max N N2) (QaI ..) (max D D2) (QaI ..);have e2:=h2 (max N N2) (QaE ..) (max D D2) (QaE ..);rw [e1] at e2;subst e2;exact h3,λh=>⟨_,⟨N,D,h1⟩,h⟩⟩⟩
theorem jhy (hb:NB base)(xs:List Ex)(hn:xs.length≤4611686018427387904)(f:FuncId)(caps:List AV)(q:Ex->Bool){R:St->Prop}(hR:∀ s t:St,R s->R (bk t s))(hR2:∀ s:St,R s->R s.bare)
  (hq:∀ y∈xs,∀ s:St,R s->∃ s',R s'∧∀ K Kp:AV->St->Prop,XB Qaf base f (.agg (eE y) :: caps) s K Kp=K (.bool (q y)) s') {st:St} (h0:R st) :
  ∃ s',R s'∧∀ K Kp:AV->St->Prop,XB Qaf base 180 [.lst xs.length (fl eE xs),.fn f caps] st K Kp=K (.int .i64 (fi q xs)) s':=by
 refine jfQ λK Kp hK=>?_;refine Q7 jle (by rfl) (hb.at0 180 (by decide) (by decide) _ _) ?_;simp only [jin,jj,Qai,Qam,Qag,Qah];unfold jhX;try dsimp only [oo,oO,ot,oT,os,og,oh,oc,on,oN,oP]
 have h0:=hR2 _ h0;have hK:∀ s,R s->K (.int .i64 (fi q xs)) (bk st s):=λs h=>hK _ (hR _ _ h);have hbk:bk st st.bare=st:=rfl;have hbc:back st st.bare=st:=rfl;have hbb:st.bare.bare=st.bare:=rfl;generalize st.bare=s0 at *;repeat' (first | (apply jc <;> intro _) | simp (disch:=first | exact dzD | fail) only [je,Tk.cells_R,rzZ,Qab,Qac,Qad,Qaa,Qae])
 refine qn xs.length (λk L s=>R s∧(∀ j (h1:j<xs.length),j<k->q xs[j]=false)∧Has L 0 (.lst xs.length (fl eE xs))∧Has L 1 (.fn f caps)) (by first | assumption | omega) (by decide) (by simp (disch:=decide) only [jd,jb]) (by simp (disch:=decide) only [jd,jb]) ?_ (λk L s v h=>by simp (disch:=decide) only [jb]; exact h) (λk L s v h=>by simp (disch:=decide) only [jb]; exact h) (λk L s hk hI hi hn=>?_) (λL s hI=>?_)
 ·refine ⟨h0,λj _ hj=>absurd hj (Qbw _),?_⟩;simp (disch:=decide) only [Qaj,Qan,z0,z1,jd,jb,and_true,true_and]
 ·obtain ⟨hs,h0,i0,i1⟩:=hI;obtain ⟨s',hs',e⟩:=hq xs[k] (Qau hk) s hs;repeat' (first | (apply jc <;> intro _) | simp (disch:=first | exact dzD | fail) only [ja i0,ja i1,ja hi,e,je,Tk.cells_R,rzZ,Qab,Qac,Qad,Qaa,Qae])
  ·have:=hK _ (hR2 _ hs');rw [K7 hk (λj hj=>h0 j (by omega) hj) ‹_›] at this; exact this
  ·refine ⟨⟨hs',λj h1 hj=>?_,?_⟩,?_⟩
   ·rcases QaX j k with h | h
    ·exact h0 j h1 h
    ·have:j=k:=by omega
     subst this; simpa using ‹¬ q xs[j]=true›
   ·simp (disch:=decide) only [Qaj,Qan,z0,z1,jd,jb,and_true,true_and,i0,i1]
   ·simp (disch:=decide) only [Qaj,Qan,z0,z1,jd,jb,and_true,true_and,hi,hn]
 ·obtain ⟨hs,h0,i0,i1⟩:=hI;repeat' (first | (apply jc <;> intro _) | simp (disch:=first | exact dzD | fail) only [je,Tk.cells_R,rzZ,Qab,Qac,Qad,Qaa,Qae])
  have:=hK _ (hR2 _ hs);rw [K6 λj hj=>h0 j hj hj] at this;exact this
theorem jkn (hb:NB base)(xs:List Ex)(hn:xs.length≤4611686018427387904)(f:FuncId)(caps:List AV)(q:Ex->Bool){R:St->Prop}(hR:∀ s t:St,R s->R (bk t s))(hR2:∀ s:St,R s->R s.bare)
  (hq:∀ y∈xs,∀ s:St,R s->∃ s',R s'∧∀ K Kp:AV->St->Prop,XB Qaf base f (.agg (eE y) :: caps) s K Kp=K (.bool (q y)) s') {st:St} (h0:R st) :
  ∃ s',R s'∧∀ K Kp:AV->St->Prop,XB Qaf base 163 [.lst xs.length (fl eE xs),.fn f caps] st K Kp=K (.bool (xs.any q)) s':=by
 refine jfQ λK Kp hK=>?_;refine Q7 jli (by rfl) (hb.at0 163 (by decide) (by decide) _ _) ?_;simp only [jir,jj,Qai,Qam,Qag,Qah];unfold jh1;try dsimp only [oo,oO,ot,oT,os,og,oh,oc,on,oN,oP]
 have h0:=hR2 _ h0;have hK:∀ s,R s->K (.bool (xs.any q)) (bk st s):=λs h=>hK _ (hR _ _ h);have hbk:bk st st.bare=st:=rfl;have hbc:back st st.bare=st:=rfl;have hbb:st.bare.bare=st.bare:=rfl;generalize st.bare=s0 at *;obtain ⟨s',hs',e⟩:=jhy hb xs hn f caps q hR hR2 hq h0;repeat' (first | (apply jc <;> intro _) | simp (disch:=first | exact dzD | fail) only [e,je,Tk.cells_R,rzZ,Qab,Qac,Qad,Qaa,Qae])
 rw [jbn];exact hK _ hs'
def yc:Nat->Ex->Bool
 | 0,_=>false
 | d+1,x=>decide (1≤x.op) && decide (x.op<31) && decide ((x.kids.length:Int)=if 5≤x.op∧x.op≤13 then 1 else if 14≤x.op∧x.op<31 then 2 else 0) && ZQ x && x.kids.all (yc d)
theorem ji3:Go.Ev.isAgg Qaf 3=some false:=by kernel_rfl
theorem ji2:Go.Ev.sizeOf Qaf 3=some 1:=by kernel_rfl
theorem jf8:Go.Ev.isAgg Qaf 35=some false:=by kernel_rfl
theorem jf7:Go.Ev.sizeOf Qaf 35=some 1:=by kernel_rfl
theorem Kz:Go.Ev.isAgg Qaf 37=some true:=by kernel_rfl
theorem Ky:Go.Ev.sizeOf Qaf 37=some 6:=by kernel_rfl
theorem jjn {t:TypeId}{b k:Nat}{cs:List AV}{s:St}(h1:Go.Ev.isAgg Qaf t=some true)(h2:Go.Ev.sizeOf Qaf t=some k)(C:Cl s b cs)(hi:cs.length=k)(hk:0<k)(hc:cs.all eqs=true):jX Qaf t (.ptr b 0) (.agg cs) s.h=true:=
 Zj h1 h2 hk (by rw [C.len]; omega) (by rw [C.ratsP k 0 (by omega),QbF,←hi,QaK]) hc
theorem jlK (hb:NB base){y:Ex}{d b:Nat}{v:Bool}(hd:d≤60)(ih:Tot base 135 [.agg (eE y),.int .i64 (d:Int)] (.bool v)){st:St}(C:Cl st b [.int .i64 ((d+1:Nat):Int)])(K Kp:AV->St->Prop) :
  XB Qaf base 164 [.agg (eE y),.ptr b 0] st K Kp=K (.bool (!v)) (nw st (eE y)):=by
 refine jaJ (λK Kp hK=>?_) K Kp;refine Q7 jlh (by rfl) (hb.at0 164 (by decide) (by decide) _ _) ?_;simp only [jiq,jj,Qai,Qam,Qag,Qah];unfold jh0;try dsimp only [oo,oO,ot,oT,os,og,oh,oc,on,oN,oP]
 have hK:K (.bool (!v)) (bk st (nw st.bare (eE y))):=hK;have C:=C.bar;have hbk:bk st st.bare=st:=rfl;have hbc:back st st.bare=st:=rfl;have hbb:st.bare.bare=st.bare:=rfl;generalize st.bare=s0 at *;have L0:=C.lt;have e:((d+1:Nat):Int) - 1=(d:Int):=by omega
 (have zz:=C.r; (repeat' (first | (apply jc <;> intro _) | simp (disch:=first | exact qz | fail) only [ih,e,C.q,C.r,je,Tk.cells_R,rzZ,Qab,Qac,Qad,Qaa,Qae])); (all_goals (clear zz)))
 exact hK
theorem vn (d:Nat)(x:Ex):yc (d+1) x=(decide (1≤x.op) && decide (x.op<31) && decide ((x.kids.length:Int)=if 5≤x.op∧x.op≤13 then 1 else if 14≤x.op∧x.op<31 then 2 else 0) && ZQ x && x.kids.all (yc d)):=rfl
theorem jaD {α:Type}(p:α->Bool):∀ xs:List α,xs.all p = !(xs.any λx=>!p x)
 | []=>rfl
 | x :: xs=>by rw [Qbf,List.any_cons,jaD p xs]; cases p x <;> simp
theorem jg9 (hb:NB base):∀ (d:Nat),d≤60->∀ x:Ex,szE x≤BIG->Tot base 135 [.agg (eE x),.int .i64 (d:Int)] (.bool (yc d x)):=by
 intro d;induction d with
 | zero=>
  intro _ x hx;refine hb.tot ?_ (by first | rfl | simp [pa,pc,zn,Tk.cells_p]) rfl;refine jz jiP (by rfl) (hb.pur 135 1 (by decide)) ?_;simp only [jet,jj,Qai,Qam,Qag,Qah];unfold jep;try dsimp only [oo,oO,ot,oT,os,og,oh,oc,on,oN,oP]
  repeat' (first | (apply jc <;> intro _) | simp (disch:=first | exact dzD | fail) only [je,Tk.cells_R,rzZ,Qab,Qac,Qad,Qaa,Qae])
  all_goals exact G0.v rfl rfl
 | succ d ih=>
  intro hd x hx;refine hb.tot ?_ (by first | rfl | simp [pa,pc,zn,Tk.cells_p]) rfl;refine jz jiP (by rfl) (hb.pur 135 1 (by decide)) ?_;simp only [jet,jj,Qai,Qam,Qag,Qah];unfold jep;try dsimp only [oo,oO,ot,oT,os,og,oh,oc,on,oN,oP]
  have hs1:∀ k v,k<6->(eE x).getD k .bad=v->eqs v=true->jX Qaf 3 (.ptr 0 k) v (nw (nw st0 (eE x)) [.int .i64 ((d+1:Nat):Int)]).h=true:=λk v hk hv hc=>Vp ji3 ji2 ((Cl.new st0 (eE x)).nw _) (by rw [JD]; exact hk) hv hc;have hs2:jX Qaf 35 (.ptr 0 3) (.lst x.kids.length (fl eE x.kids)) (nw (nw st0 (eE x)) [.int .i64 ((d+1:Nat):Int)]).h=true:=Vp jf8 jf7 ((Cl.new st0 (eE x)).nw _) (by rw [JD]; decide) (GN x 3) rfl;have hs3:jX Qaf 37 (.ptr 0 0) (.agg (eE x)) (nw (nw st0 (eE x)) [.int .i64 ((d+1:Nat):Int)]).h=true:=jjn Kz Ky ((Cl.new st0 (eE x)).nw _) (JD x) (by decide) (by rw [qH]; rfl);have hkl:=JW x.kids;have hsz:=JX x;have hB:BIG=1099511627776:=rfl;have hs:=vn d x;obtain ⟨s',_,e⟩:=jkn hb x.kids (by omega) 164 [.ptr 1 0] (λy=>!yc d y) (R:=λs=>Cl s 1 [.int .i64 ((d+1:Nat):Int)]) (λs t h=>⟨h.lt,h.row,h.len,h.cell⟩) (λs h=>h.bar)
   (λy hy s C=>⟨nw s (eE y),C.nw _,λK Kp=>jlK hb (by omega) (ih (by omega) y (by
    obtain ⟨k,hk,rfl⟩:=List.getElem_of_mem hy;have:=Qk hk;omega)) C K Kp⟩) (Cl.new (nw st0 (eE x)) [.int .i64 ((d+1:Nat):Int)])
  repeat' (first | (apply jc <;> intro _) | simp (disch:=first | exact dzD | fail) only [jjH hb,jjG hb x (by omega),hs1,hs2,hs3,e,je,Tk.cells_R,rzZ,Qab,Qac,Qad,Qaa,Qae])
  ·refine G0.v ?_ rfl; rw [hs]; simp; omega
  ·refine G0.v ?_ rfl; rw [hs]; simp; omega
  ·refine G0.v ?_ rfl; rw [hs]; simp [*]
  ·refine G0.v ?_ rfl; rw [hs]; simp [*]
  ·refine G0.v ?_ rfl; rw [hs,jaD]; first | (simp [*]; done) | (simp [*]; omega) | (simp; intro _; refine ⟨⟨⟨by omega,by omega⟩,by simp_all⟩,by simp_all⟩)
theorem jhQ (hb:NB base)(x:Ex)(hx:szE x≤BIG):Tot base 95 [.agg (eE x)] (.bool (yc 60 x)):=by
 refine hb.tot ?_ (by first | rfl | simp [pa,pc,zn,Tk.cells_p]) rfl;refine jz x95 (by rfl) (hb.pur 95 1 (by decide)) ?_;simp only [y95,jj,Qai,Qam,Qag,Qah];unfold z95;try dsimp only [oo,oO,ot,oT,os,og,oh,oc,on,oN,oP]
 have:Tot base 135 [.agg (eE x),.int .i64 60] (.bool (yc 60 x)):=jg9 hb 60 (Qaq _) x hx;repeat' (first | (apply jc <;> intro _) | simp (disch:=first | exact dzD | fail) only [this,je,Tk.cells_R,rzZ,Qab,Qac,Qad,Qaa,Qae])
 exact G0.v rfl rfl
end Go.Sy
end
noncomputable section
set_option maxRecDepth 100000
namespace Go.Sy
open Go.Ev Go.Proofs
variable {base:Bs}
def tk (ts:List Tk)(i:Nat):Tk:=ts.getD i ⟨0,[],0,0,0⟩
theorem jga {ts:List Tk}{i:Nat}(h:i<ts.length):ts[i]=tk ts i:=by simp [tk,QaO,h]
def pC (ts:List Tk)(i d:Nat):List AV:=[.lst ts.length (fl Tk.cells ts),.int .i64 (i:Int),.int .i64 (d:Int)]
theorem Xn (hb:NB base){ts:List Tk}{i d:Nat}(hi:i<ts.length):Met Qaf base 49 (pC ts i d) [] (.ok (.agg (tk ts i).cells)) (pC ts i d):=by
 refine PM.met ?_ rfl λp st=>hb.no 49 (by decide) _ _;refine jW x49 (by rfl) (hb.pur 49 3 (by decide)) rfl ?_;simp only [y49,jj,Qai,Qam,Qag,Qah];unfold z49;try dsimp only [oo,oO,ot,oT,os,og,oh,oc,on,oN,oP]
 unfold pC;repeat' (first | (apply jc <;> intro _) | simp (disch:=first | exact dzD | fail) only [hi,je,Tk.cells_R,rzZ,Qab,Qac,Qad,Qaa,Qae])
 rw [jga hi];refine G1.done ?_ rfl rfl (FzD.agg (.pc (by rfl)));simp (disch:=first | assumption | decide | omega | (simp only [jg,jh,jo,jk,jm,qT,Qal,Qap]; first | done | omega)) only [jE,jG,jD];exact Cl.new _ _
theorem wB (S:List (List Nat)):(S.map AV.str).all pc=true:=by induction S with | nil=>rfl | cons x S ih=>simp [pc]
theorem jcC (hb:NB base){ts:List Tk}{i d:Nat}(hi:i<ts.length)(h2:i≤1000000)(S:List (List Nat))(hS:S.length≤1000000) :
  (isM (tk ts i) S=true->PM Qaf base 76 (pC ts i d) [.lst S.length (S.map .str)] (.ok (.tup [.agg (tk ts i).cells,.bool true])) (pC ts (i+1) d)) ∧
  (isM (tk ts i) S=false->PM Qaf base 76 (pC ts i d) [.lst S.length (S.map .str)] (.ok (.tup [.agg (tk ts i).cells,.bool false])) (pC ts i d)):=by
 have N:=λst p=>@Xn base hb ts i d hi st p;unfold pC at *;constructor <;> intro h
 ·refine jW x76 (by rfl) (hb.pur 76 3 (by decide)) rfl ?_;simp only [y76,jj,Qai,Qam,Qag,Qah];unfold z76;try dsimp only [oo,oO,ot,oT,os,og,oh,oc,on,oN,oP]
  repeat' (first | (apply jc <;> intro _) | simp (disch:=first | exact dzD | fail) only [N,jkv hb (tk ts i) S hS,h,je,Tk.cells_R,rzZ,Qab,Qac,Qad,Qaa,Qae])
  (refine G1.done ?_ (by rfl) (by rfl) ?_; (· (first | exact cyD | fail)); (· first | exact vyD | skip))
 ·refine jW x76 (by rfl) (hb.pur 76 3 (by decide)) rfl ?_;simp only [y76,jj,Qai,Qam,Qag,Qah];unfold z76;try dsimp only [oo,oO,ot,oT,os,og,oh,oc,on,oN,oP]
  repeat' (first | (apply jc <;> intro _) | simp (disch:=first | exact dzD | fail) only [N,jkv hb (tk ts i) S hS,h,je,Tk.cells_R,rzZ,Qab,Qac,Qad,Qaa,Qae])
  (refine G1.done ?_ (by rfl) (by rfl) ?_; (· (first | exact cyD | fail)); (· first | exact vyD | skip))
theorem ji9 (hb:NB base){ts:List Tk}{i d:Nat}(hi:i<ts.length)(h2:i≤1000000)(S:List (List Nat))(hS:S.length≤1000000){st:St}{p:Nat}(C:Cl st p (pC ts i d))(K Kp:AV->St->Prop) :
  XB Qaf base 76 [.ptr p 0,.lst S.length (S.map .str)] st K Kp=ifW (isM (tk ts i) S=true) (K (.tup [.agg (tk ts i).cells,.bool true]) (wr st p 0 (pC ts (i+1) d))) (K (.tup [.agg (tk ts i).cells,.bool false]) (wr st p 0 (pC ts i d))):=by
 have T:=jcC hb hi h2 (d:=d) S hS;cases h:isM (tk ts i) S with
 | true=>rw [VW rfl]; exact (T.1 h).xb C rfl (λst=>hb.no 76 (by decide) _ _) K Kp
 | false=>rw [VX (by decide)]; exact (T.2 h).xb C rfl (λst=>hb.no 76 (by decide) _ _) K Kp
theorem Xf (hb:NB base){ts:List Tk}{i d:Nat}(hi:i<ts.length)(h2:i≤1000000)(S:List (List Nat)){cs:List AV}{n:Nat}(hc:S.map .str=cs)(hn:S.length=n)(hS:n≤1000000)(st:St)(p b m:Nat)(x:Bool)(C:Cl st p (pC ts i d))(D:Cl st b cs)(hne:p≠b)(K Kp:AV->St->Prop) :
  XB Qaf base 76 [.ptr p 0,.slice b 0 n m 1 x] st K Kp=ifW (isM (tk ts i) S=true) (K (.tup [.agg (tk ts i).cells,.bool true]) (wr (kl b st) p 0 (pC ts (i+1) d))) (K (.tup [.agg (tk ts i).cells,.bool false]) (wr (kl b st) p 0 (pC ts i d))):=by
 subst hc hn;have T:=jcC hb hi h2 (d:=d) S hS;have F:Fza st [.slice b 0 S.length m 1 x] [.lst S.length (S.map .str)] [b]:=Fza.sl D (by simp) (wB S) .nil;have C':Cl (qG [b] st) p (pC ts i d):=(qv hne).symm▸C;cases h:isM (tk ts i) S with
 | true=>rw [VW rfl]; exact (T.1 h).xbk C' F rfl (λst=>hb.no 76 (by decide) _ _) K Kp
 | false=>rw [VX (by decide)]; exact (T.2 h).xbk C' F rfl (λst=>hb.no 76 (by decide) _ _) K Kp
theorem jfg (hb:NB base)(t:Tk)(S:List (List Nat)){cs:List AV}{n:Nat}(hc:S.map .str=cs)(hn:S.length=n)(hS:n≤1000000)(st:St)(b m:Nat)(x:Bool)(D:Cl st b cs)(K Kp:AV->St->Prop) :
  XB Qaf base 125 [.agg t.cells,.slice b 0 n m 1 x] st K Kp=K (.bool (isM t S)) (kl b st):=by
 subst hc hn;have F:Fza st [.agg t.cells,.slice b 0 S.length m 1 x] [.agg t.cells,.lst S.length (S.map .str)] [b]:=Fza.pa (by rfl) (Fza.sl D (by simp) (wB S) .nil);exact (jkw hb t S hS).xf F (λst=>hb.no 125 (by decide) _ _) K Kp
theorem jjB (hb:NB base){ts:List Tk}{i d:Nat}(hi:i<ts.length)(h2:i≤1000000)(c:List Nat) :
  (isM (tk ts i) [c]=true->PM Qaf base 127 (pC ts i d) [.str c] (.ok (.tup [])) (pC ts (i+1) d)) ∧
  (isM (tk ts i) [c]=false->PM Qaf base 127 (pC ts i d) [.str c] (.pn (er (tk ts i))) (pC ts i d)):=by
 have T:=Xf hb hi h2 (d:=d) [c] (cs:=[.str c]) (n:=1) rfl rfl (by decide);unfold pC at *;constructor <;> intro h
 ·refine jW jiQ (by rfl) (hb.pur 127 3 (by decide)) rfl ?_;simp only [jeu,jj,Qai,Qam,Qag,Qah];unfold jaH;try dsimp only [oo,oO,ot,oT,os,og,oh,oc,on,oN,oP]
  repeat' (first | (apply jc <;> intro _) | simp (disch:=first | exact dzD | fail) only [T,h,Jr hb,je,Tk.cells_R,rzZ,Qab,Qac,Qad,Qaa,Qae])
  (refine G1.done ?_ (by rfl) (by rfl) ?_; (· (first | exact cyD | fail)); (· first | exact vyD | skip))
 ·refine jW jiQ (by rfl) (hb.pur 127 3 (by decide)) rfl ?_;simp only [jeu,jj,Qai,Qam,Qag,Qah];unfold jaH;try dsimp only [oo,oO,ot,oT,os,og,oh,oc,on,oN,oP]
  repeat' (first | (apply jc <;> intro _) | simp (disch:=first | exact dzD | fail) only [T,h,Jr hb,je,Tk.cells_R,rzZ,Qab,Qac,Qad,Qaa,Qae])
  (refine G1.done ?_ (by rfl) (by rfl) ?_; (· (first | exact cyD | fail)); (· first | exact vyD | skip))
theorem PM.two {P:Program}{f:FuncId}{cs xs c1 c2:List AV}{o1 o2:Oc}{q:Bool}(h:(q=true->PM P base f cs xs o1 c1)∧(q=false->PM P base f cs xs o2 c2))(hp:xs.all pa=true)(hb:∀ p st,base.run f (.ptr p 0 :: xs) st=.no){st:St}{p:Nat}(C:Cl st p cs)(K Kp:AV->St->Prop) :
  XB P base f (.ptr p 0 :: xs) st K Kp=ifW (q=true) (Yr o1 K Kp (wr st p 0 c1)) (Yr o2 K Kp (wr st p 0 c2)):=by
 cases hq:q with
 | true=>rw [VW rfl]; exact (h.1 hq).xb C hp (hb p) K Kp
 | false=>rw [VX (by decide)]; exact (h.2 hq).xb C hp (hb p) K Kp
theorem JI (hb:NB base){ts:List Tk}{i d:Nat}(hi:i<ts.length)(h2:i≤1000000)(c:List Nat){st:St}{p:Nat}(C:Cl st p (pC ts i d))(K Kp:AV->St->Prop) :
  XB Qaf base 127 [.ptr p 0,.str c] st K Kp=ifW (isM (tk ts i) [c]=true) (K (.tup []) (wr st p 0 (pC ts (i+1) d))) (Kp (er (tk ts i)) (wr st p 0 (pC ts i d))):=
 PM.two (o1:=.ok _) (o2:=.pn _) (jjB hb hi h2 c) rfl (λ_ _=>hb.no 127 (by decide) _ _) C K Kp
theorem wJ (hb:NB base){ts:List Tk}{i d:Nat}(hi:i<ts.length)(h2:i≤1000000){st:St}{p:Nat}(C:Cl st p (pC ts i d))(K Kp:AV->St->Prop) :
  XB Qaf base 126 [.ptr p 0] st K Kp=ifW (decide ((tk ts i).kind=1)=true) (K (.agg (tk ts i).cells) (wr st p 0 (pC ts (i+1) d))) (Kp (er (tk ts i)) (wr st p 0 (pC ts i d))):=by
 refine PM.two (o1:=.ok _) (o2:=.pn _) ?_ rfl (λ_ _=>hb.no 126 (by decide) _ _) C K Kp;have N:=λst p=>@Xn base hb ts i d hi st p;unfold pC at *;clear C;constructor <;> intro h
 ·have h':((tk ts i).kind:Int)=1:=by simp at h; omega
  refine jW jiR (by rfl) (hb.pur 126 3 (by decide)) rfl ?_;simp only [jev,jj,Qai,Qam,Qag,Qah];unfold jeq;try dsimp only [oo,oO,ot,oT,os,og,oh,oc,on,oN,oP]
  repeat' (first | (apply jc <;> intro _) | simp (disch:=first | exact dzD | fail) only [N,h',Jr hb,je,Tk.cells_R,rzZ,Qab,Qac,Qad,Qaa,Qae])
  (refine G1.done ?_ (by rfl) (by rfl) ?_; (· (first | exact cyD | fail)); (· first | exact vyD | skip))
 ·have h':¬ ((tk ts i).kind:Int)=1:=by simp at h; omega
  refine jW jiR (by rfl) (hb.pur 126 3 (by decide)) rfl ?_;simp only [jev,jj,Qai,Qam,Qag,Qah];unfold jeq;try dsimp only [oo,oO,ot,oT,os,og,oh,oc,on,oN,oP]
  repeat' (first | (apply jc <;> intro _) | simp (disch:=first | exact dzD | fail) only [N,h',Jr hb,je,Tk.cells_R,rzZ,Qab,Qac,Qad,Qaa,Qae])
  (refine G1.done ?_ (by rfl) (by rfl) ?_; (· (first | exact cyD | fail)); (· first | exact vyD | skip))
theorem jc9 (hb:NB base){ts:List Tk}{i d:Nat}(hi:i<ts.length)(h2:d≤1000000){st:St}{p:Nat}(C:Cl st p (pC ts i d))(K Kp:AV->St->Prop) :
  XB Qaf base 159 [.ptr p 0] st K Kp=ifW (decide (60<d+1)=true) (Kp (er (tk ts i)) (wr st p 0 (pC ts i (d+1)))) (K (.tup []) (wr st p 0 (pC ts i (d+1)))):=by
 refine PM.two (o1:=.pn _) (o2:=.ok _) ?_ rfl (λ_ _=>hb.no 159 (by decide) _ _) C K Kp;have N:=λst p=>@Xn base hb ts i (d+1) hi st p;have e:((d:Int)+1)=((d+1:Nat):Int):=by omega
 unfold pC at *;clear C;constructor <;> intro h
 ·have h':(60:Int)<((d+1:Nat):Int):=by simp at h; omega
  refine jW jiO (by rfl) (hb.pur 159 3 (by decide)) rfl ?_;simp only [jes,jj,Qai,Qam,Qag,Qah];unfold jeo;try dsimp only [oo,oO,ot,oT,os,og,oh,oc,on,oN,oP]
  repeat' (first | (apply jc <;> intro _) | simp (disch:=first | exact dzD | fail) only [N,h',Jr hb,e,je,Tk.cells_R,rzZ,Qab,Qac,Qad,Qaa,Qae])
  (refine G1.done ?_ (by rfl) (by rfl) ?_; (· (first | exact cyD | fail)); (· first | exact vyD | skip))
 ·have h':¬ (60:Int)<((d+1:Nat):Int):=by simp at h; omega
  refine jW jiO (by rfl) (hb.pur 159 3 (by decide)) rfl ?_;simp only [jes,jj,Qai,Qam,Qag,Qah];unfold jeo;try dsimp only [oo,oO,ot,oT,os,og,oh,oc,on,oN,oP]
  repeat' (first | (apply jc <;> intro _) | simp (disch:=first | exact dzD | fail) only [N,h',Jr hb,e,je,Tk.cells_R,rzZ,Qab,Qac,Qad,Qaa,Qae])
  (refine G1.done ?_ (by rfl) (by rfl) ?_; (· (first | exact cyD | fail)); (· first | exact vyD | skip))
end Go.Sy
end
noncomputable section
set_option maxRecDepth 100000
namespace Go.Sy
open Go.Ev Go.Proofs
abbrev Lev:=List (List Nat)×Nat
def yh:List (List Nat):=[[45],[33],[88],[70],[71],[89],[90],[79],[72]]
def YG (text:List Nat):Nat:=5+yh.idxOf text
inductive PR where
 | ok (x:Ex) (j:Nat)
 | er (t:Tk)
mutual
def qx (ts:List Tk):Nat->List Lev->Nat->Nat->Option PR
 | 0,_,_,_=>none
 | n+1,[],i,d=>yH ts n i d
 | n+1,v :: l,i,d=>match qx ts n l i d with
  | some (.ok x j)=>yv ts n v l x j d
  | r=>r
def yv (ts:List Tk):Nat->Lev->List Lev->Ex->Nat->Nat->Option PR
 | 0,_,_,_,_,_=>none
 | n+1,v,l,x,i,d=>
  if isM (tk ts i) v.1=true then
   (if v.2=1 then (match qx ts n (v :: l) (i+1) d with
    | some (.ok y j)=>some (.ok (yF (tk ts i) x y) j)
    | r=>r)
   else (match qx ts n l (i+1) d with
    | some (.ok y j)=>if v.2=2 then some (.ok (yF (tk ts i) x y) j) else yv ts n v l (yF (tk ts i) x y) j d
    | r=>r))
  else some (.ok x i)
def yH (ts:List Tk):Nat->Nat->Nat->Option PR
 | 0,_,_=>none
 | n+1,i,d=>
  if isM (tk ts i) yh=true then
   (if 60<d+1 then some (.er (tk ts (i+1))) else (match yH ts n (i+1) (d+1) with
    | some (.ok x j)=>some (.ok (.mk (YG (tk ts i).text:Nat) 0 [] [x] (tk ts i).line (tk ts i).col) j)
    | r=>r))
  else yT ts n i d
def yT (ts:List Tk):Nat->Nat->Nat->Option PR
 | 0,_,_=>none
 | n+1,i,d=>
  if (tk ts i).kind=2 then some (.ok (.mk 1 (tk ts i).num [] [] (tk ts i).line (tk ts i).col) (i+1))
  else if (tk ts i).kind=1 then some (.ok (.mk 3 0 (tk ts i).text [] (tk ts i).line (tk ts i).col) (i+1))
  else if isM (tk ts i) [[116,114,117,101]]=true then some (.ok (.mk 2 1 [] [] (tk ts i).line (tk ts i).col) (i+1))
  else if isM (tk ts i) [[102,97,108,115,101]]=true then some (.ok (.mk 2 0 [] [] (tk ts i).line (tk ts i).col) (i+1))
  else if isM (tk ts i) [[40]]=true then
   (if 60<d+1 then some (.er (tk ts (i+1))) else (match qx ts n q8 (i+1) (d+1) with
    | some (.ok x j)=>if isM (tk ts j) [[41]]=true then some (.ok x (j+1)) else some (.er (tk ts j))
    | r=>r))
  else some (.er (tk ts i))
end
structure Wds (ts:List Tk):Prop where
 len:ts.length≤1000000
 next:∀ i,i<ts.length->(tk ts i).kind≠5->i+1<ts.length
 txt:∀ i,(tk ts i).text.length≤65536
theorem vF {t:Tk}{S:List (List Nat)}(h:isM t S=true):(t.kind=3∨t.kind=4)∧t.text∈S:=by
 simpa [isM] using h
theorem Wds.isM {ts:List Tk}(W:Wds ts){i:Nat}(hi:i<ts.length){S:List (List Nat)}(h:isM (tk ts i) S=true):i+1<ts.length:=W.next i hi (by have:=(vF h).1; omega)
def Sz (ts:List Tk)(i:Nat)(a:Nat)(r:PR):Prop:=match r with | .ok x j=>i≤j∧j<ts.length∧szE x≤a+(j - i) * 65537 | .er _=>True
theorem Zh (op num:Int)(nm:List Nat)(ks:List Ex)(l c:Int):szE (.mk op num nm ks l c)=ya ks+nm.length+1:=rfl
theorem jg4 (t:Tk)(x y:Ex):szE (yF t x y)≤szE x+szE y+1:=by
 unfold yF;split
 ·rw [Zh]; simp [ya]
 ·rw [Zh]; simp [ya]
theorem Vn {ts:List Tk}(W:Wds ts):∀ n,(∀ lv i d r,qx ts n lv i d=some r->i<ts.length->Sz ts i 0 r)∧(∀ v l x i d r,yv ts n v l x i d=some r->i<ts.length->Sz ts i (szE x) r)∧(∀ i d r,yH ts n i d=some r->i<ts.length->Sz ts i 0 r)∧(∀ i d r,yT ts n i d=some r->i<ts.length->Sz ts i 0 r):=by
 intro n;induction n with
 | zero=>exact ⟨λ_ _ _ _ h=>(by simp [qx] at h),λ_ _ _ _ _ _ h=>(by simp [yv] at h),λ_ _ _ h=>(by simp [yH] at h),λ_ _ _ h=>(by simp [yT] at h)⟩
 | succ n ih=>
  obtain ⟨iE,iL,iP,iV⟩:=ih;refine ⟨λlv i d r h hi=>?_,λv l x i d r h hi=>?_,λi d r h hi=>?_,λi d r h hi=>?_⟩
  ·cases lv with
   | nil=>unfold qx at h; exact iP i d r h hi
   | cons v l=>
    unfold qx at h;cases hx:qx ts n l i d with
    | none=>rw [hx] at h; cases h
    | some q=>cases q with
     | er t=>rw [hx] at h; cases h; trivial
     | ok x j=>
      rw [hx] at h;have h1:=iE l i d _ hx hi;have h2:=iL v l x j d r h h1.2.1;cases r with
      | er t=>trivial
      | ok y k=>
       simp only [Sz] at h1 h2 ⊢;obtain ⟨a1,a2,a3⟩:=h1;obtain ⟨b1,b2,b3⟩:=h2;refine ⟨by omega,b2,?_⟩;have:(k - i) * 65537=(k - j) * 65537+(j - i) * 65537:=by rw [←Qbp]; congr 1; omega
       omega
  ·unfold yv at h;by_cases c:isM (tk ts i) v.1=true
   ·rw [if_pos c] at h;have hi1:=W.isM hi c;have key:∀ lv y j,qx ts n lv (i+1) d=some (.ok y j)->i≤j∧j<ts.length∧szE (yF (tk ts i) x y)≤szE x+(j - i) * 65537:=λlv y j he=>by
     have h1:=iE lv (i+1) d _ he hi1;simp only [Sz] at h1;obtain ⟨a1,a2,a3⟩:=h1;have:=jg4 (tk ts i) x y;have:(j - i) * 65537=(j - (i+1)) * 65537+65537:=by rw [←Qbr]; congr 1; omega
     exact ⟨by omega,a2,by omega⟩
    by_cases w1:v.2=1
    ·rw [if_pos w1] at h;cases he:qx ts n (v :: l) (i+1) d with
     | none=>rw [he] at h; cases h
     | some q=>cases q with
      | er t=>rw [he] at h; cases h; trivial
      | ok y j=>rw [he] at h; cases h; exact key _ y j he
    ·rw [if_neg w1] at h;cases he:qx ts n l (i+1) d with
     | none=>rw [he] at h; cases h
     | some q=>cases q with
      | er t=>rw [he] at h; cases h; trivial
      | ok y j=>
       rw [he] at h;have hk:=key _ y j he;by_cases w2:v.2=2
       ·simp only [w2,if_true] at h; cases h; exact hk
       ·simp only [w2,if_false] at h;have h2:=iL v l _ j d r h hk.2.1;cases r with
        | er t=>trivial
        | ok z k=>
         simp only [Sz] at h2 ⊢;obtain ⟨b1,b2,b3⟩:=h2;refine ⟨by omega,b2,?_⟩;have:(k - i) * 65537=(k - j) * 65537+(j - i) * 65537:=by rw [←Qbp]; congr 1; omega
         omega
   ·rw [if_neg c] at h; cases h; exact ⟨Qaq _,hi,by omega⟩
  ·unfold yH at h;by_cases c:isM (tk ts i) yh=true
   ·rw [if_pos c] at h;have hi1:=W.isM hi c;by_cases hd:60<d+1
    ·rw [if_pos hd] at h; cases h; trivial
    ·rw [if_neg hd] at h;cases he:yH ts n (i+1) (d+1) with
     | none=>rw [he] at h; cases h
     | some q=>cases q with
      | er t=>rw [he] at h; cases h; trivial
      | ok y j=>
       rw [he] at h; cases h;have h1:=iP (i+1) (d+1) _ he hi1;simp only [Sz] at h1 ⊢;obtain ⟨a1,a2,a3⟩:=h1;have:(j - i) * 65537=(j - (i+1)) * 65537+65537:=by rw [←Qbr]; congr 1; omega
       refine ⟨by omega,a2,?_⟩;rw [Zh]; simp [ya]; omega
   ·rw [if_neg c] at h; exact iV i d r h hi
  ·unfold yT at h;have ht:=W.txt i;have leaf:∀ (x:Ex),szE x≤65537->i+1<ts.length->Sz ts i 0 (.ok x (i+1)):=λx hx h1=>⟨by omega,h1,by omega⟩;by_cases k2:(tk ts i).kind=2
   ·rw [if_pos k2] at h; cases h;exact leaf _ (by rw [Zh]; simp [ya]) (W.next i hi (by omega))
   rw [if_neg k2] at h;by_cases k1:(tk ts i).kind=1
   ·rw [if_pos k1] at h; cases h;exact leaf _ (by rw [Zh]; simp [ya]; omega) (W.next i hi (by omega))
   rw [if_neg k1] at h;split at h
   ·cases h; exact leaf _ (by rw [Zh]; simp [ya]) (W.isM hi ‹_›)
   split at h
   ·cases h; exact leaf _ (by rw [Zh]; simp [ya]) (W.isM hi ‹_›)
   split at h
   ·rename_i c;have hi1:=W.isM hi c;by_cases hd:60<d+1
    ·rw [if_pos hd] at h; cases h; trivial
    ·rw [if_neg hd] at h;cases he:qx ts n q8 (i+1) (d+1) with
     | none=>rw [he] at h; cases h
     | some q=>cases q with
      | er t=>rw [he] at h; cases h; trivial
      | ok y j=>
       rw [he] at h;have h1:=iE q8 (i+1) (d+1) _ he hi1;simp only [Sz] at h1;obtain ⟨a1,a2,a3⟩:=h1;dsimp only at h;by_cases c2:isM (tk ts j) [[41]]=true
       ·rw [if_pos c2] at h; cases h;have:=W.isM a2 c2;simp only [Sz];exact ⟨by omega,this,Qav a3 (Nat.add_le_add_left (QaJ _ (by omega)) _)⟩
       ·rw [if_neg c2] at h; cases h; trivial
   ·cases h; trivial
end Go.Sy
end
noncomputable section
set_option maxRecDepth 100000
namespace Go.Sy
open Go.Ev Go.Proofs
variable {base:Bs}
def Ans (base:Bs)(f:FuncId)(c xs:List AV)(ts:List Tk)(d:Nat):PR->Prop
 | .ok x j=>PM Qaf base f c xs (.ok (.agg (eE x))) (pC ts j d)
 | .er t=>∃ i' d',PM Qaf base f c xs (.pn (er t)) (pC ts i' d')
def okL (lv:List Lev):Prop:=lv.length≤8∧∀ v∈lv,v.1.length≤6
def IsE (base:Bs)(ts:List Tk)(n:Nat):Prop:=∀ lv i d r,qx ts n lv i d=some r->i<ts.length->d≤60->okL lv->Ans base 93 (pC ts i d) [.lst lv.length (fl J8 lv)] ts d r
def IsP (base:Bs)(ts:List Tk)(n:Nat):Prop:=∀ i d r,yH ts n i d=some r->i<ts.length->d≤60->Ans base 133 (pC ts i d) [] ts d r
def IsV (base:Bs)(ts:List Tk)(n:Nat):Prop:=∀ i d r,yT ts n i d=some r->i<ts.length->d≤60->Ans base 158 (pC ts i d) [] ts d r
theorem jlH:Go.Ev.isAgg Qaf 2=some false:=by kernel_rfl
theorem jlG:Go.Ev.sizeOf Qaf 2=some 1:=by kernel_rfl
theorem jkJ:Go.Ev.isAgg Qaf 88=some true:=by kernel_rfl
theorem jkI:Go.Ev.sizeOf Qaf 88=some 5:=by kernel_rfl
theorem sm2 {b o:Nat}{v:AV}{h:T AO}(ho:o<qq h b)(hv:rat h b o=v)(hc:eqs v=true):(jX Qaf 2 (.ptr b o) v h=true)=True:=eq_true (J4 jlH jlG ho hv hc)
theorem sm9 {b o:Nat}{v:AV}{h:T AO}(ho:o<qq h b)(hv:rat h b o=v)(hc:eqs v=true):(jX Qaf 9 (.ptr b o) v h=true)=True:=eq_true (J4 jeC jeB ho hv hc)
theorem yQ (k:IntKind)(n:Int):eqs (.int k n)=true:=nr rfl
theorem yP (l:List Nat):eqs (.str l)=true:=nr rfl
set_option maxHeartbeats 4000000 in
theorem jgW (hb:NB base){ts:List Tk}(W:Wds ts){n:Nat}(ihE:IsE base ts n):IsV base ts (n+1):=by
 intro i d r h hi hd;have hN:=λst p=>@Xn base hb ts i d hi st p;have wl:=W.len;have hx:(i:Int)+1=((i+1:Nat):Int):=by omega
 unfold yT at h;by_cases k2:(tk ts i).kind=2
 ·rw [if_pos k2] at h; cases h;have k2':((tk ts i).kind:Int)=2:=by omega
  show PM _ _ _ _ _ _ _;unfold pC at *;refine jW w6 (by rfl) (hb.pur 158 3 (by decide)) rfl ?_;simp only [Z8,jj,Qai,Qam,Qag,Qah];unfold Z7;try dsimp only [oo,oO,ot,oT,os,og,oh,oc,on,oN,oP]
  (have zz:=aI @yQ @yP; (repeat' (first | (apply jc <;> intro _) | simp (disch:=first | exact qz | fail) only [hN,k2',sm2,yQ,yP,je,Tk.cells_R,rzZ,Qab,Qac,Qad,Qaa,Qae])); (all_goals (clear zz)))
  (refine G1.done ?_ (by rfl) (by rfl) ?_; (· (first | exact cyD | fail)); (· first | exact vyD | skip))
 rw [if_neg k2] at h;have k2':¬ ((tk ts i).kind:Int)=2:=by omega
 by_cases k1:(tk ts i).kind=1
 ·rw [if_pos k1] at h; cases h;have k1':((tk ts i).kind:Int)=1:=by omega
  show PM _ _ _ _ _ _ _;unfold pC at *;refine jW w6 (by rfl) (hb.pur 158 3 (by decide)) rfl ?_;simp only [Z8,jj,Qai,Qam,Qag,Qah];unfold Z7;try dsimp only [oo,oO,ot,oT,os,og,oh,oc,on,oN,oP]
  (have zz:=aI @yQ @yP; (repeat' (first | (apply jc <;> intro _) | simp (disch:=first | exact qz | fail) only [hN,k2',k1',sm9,yQ,yP,je,Tk.cells_R,rzZ,Qab,Qac,Qad,Qaa,Qae])); (all_goals (clear zz)))
  (refine G1.done ?_ (by rfl) (by rfl) ?_; (· (first | exact cyD | fail)); (· first | exact vyD | skip))
 rw [if_neg k1] at h;have k1':¬ ((tk ts i).kind:Int)=1:=by omega
 have T:=jfg hb (tk ts i) [[116,114,117,101]] (cs:=[.str [116,114,117,101]]) (n:=1) rfl rfl (by decide);have F:=jfg hb (tk ts i) [[102,97,108,115,101]] (cs:=[.str [102,97,108,115,101]]) (n:=1) rfl rfl (by decide);have B:=jfg hb (tk ts i) [[40]] (cs:=[.str [40]]) (n:=1) rfl rfl (by decide);by_cases c1:isM (tk ts i) [[116,114,117,101]]=true
 ·rw [if_pos c1] at h; cases h;show PM _ _ _ _ _ _ _;unfold pC at *;refine jW w6 (by rfl) (hb.pur 158 3 (by decide)) rfl ?_;simp only [Z8,jj,Qai,Qam,Qag,Qah];unfold Z7;try dsimp only [oo,oO,ot,oT,os,og,oh,oc,on,oN,oP]
  repeat' (first | (apply jc <;> intro _) | simp (disch:=first | exact dzD | fail) only [hN,k2',k1',T,c1,je,Tk.cells_R,rzZ,Qab,Qac,Qad,Qaa,Qae])
  (refine G1.done ?_ (by rfl) (by rfl) ?_; (· (first | exact cyD | fail)); (· first | exact vyD | skip))
 rw [if_neg c1] at h;by_cases c2:isM (tk ts i) [[102,97,108,115,101]]=true
 ·rw [if_pos c2] at h; cases h;show PM _ _ _ _ _ _ _;unfold pC at *;refine jW w6 (by rfl) (hb.pur 158 3 (by decide)) rfl ?_;simp only [Z8,jj,Qai,Qam,Qag,Qah];unfold Z7;try dsimp only [oo,oO,ot,oT,os,og,oh,oc,on,oN,oP]
  repeat' (first | (apply jc <;> intro _) | simp (disch:=first | exact dzD | fail) only [hN,k2',k1',T,F,c1,c2,je,Tk.cells_R,rzZ,Qab,Qac,Qad,Qaa,Qae])
  (refine G1.done ?_ (by rfl) (by rfl) ?_; (· (first | exact cyD | fail)); (· first | exact vyD | skip))
 rw [if_neg c2] at h;by_cases c3:isM (tk ts i) [[40]]=true
 ·rw [if_pos c3] at h;have hi1:=W.isM hi c3;have O:=λst p=>@jc9 base hb ts (i+1) d hi1 (by omega) st p;by_cases hd2:60<d+1
  ·rw [if_pos hd2] at h; cases h;refine ⟨i+1,d+1,?_⟩;unfold pC at *;refine jW w6 (by rfl) (hb.pur 158 3 (by decide)) rfl ?_;simp only [Z8,jj,Qai,Qam,Qag,Qah];unfold Z7;try dsimp only [oo,oO,ot,oT,os,og,oh,oc,on,oN,oP]
   repeat' (first | (apply jc <;> intro _) | simp (disch:=first | exact dzD | fail) only [hN,k2',k1',T,F,B,c1,c2,c3,O,hx,hd2,je,Tk.cells_R,rzZ,Qab,Qac,Qad,Qaa,Qae])
   (refine G1.done ?_ (by rfl) (by rfl) ?_; (· (first | exact cyD | fail)); (· first | exact vyD | skip))
  ·rw [if_neg hd2] at h;cases he:qx ts n q8 (i+1) (d+1) with
   | none=>rw [he] at h; cases h
   | some q=>
    have A:=ihE _ _ _ _ he hi1 (by omega) ⟨by decide,by decide⟩;have hL:=Gb hb;have hz:=(Vn W n).1 _ _ _ _ he hi1;cases q with
    | er t=>
     rw [he] at h; cases h;obtain ⟨i',d',A⟩:=A;have E:∀ st p,Cl st p (pC ts (i+1) (d+1))->∀ K Kp,XB Qaf base 93 [.ptr p 0,.lst 8 (fl J8 q8)] st K Kp=_:=λst p C K Kp=>A.xb C rfl (λst=>hb.no 93 (by decide) _ _) K Kp;refine ⟨i',d',?_⟩;unfold pC at *;refine jW w6 (by rfl) (hb.pur 158 3 (by decide)) rfl ?_;simp only [Z8,jj,Qai,Qam,Qag,Qah];unfold Z7;try dsimp only [oo,oO,ot,oT,os,og,oh,oc,on,oN,oP]
     repeat' (first | (apply jc <;> intro _) | simp (disch:=first | exact dzD | fail) only [hN,k2',k1',T,F,B,c1,c2,c3,O,hx,hd2,hL,E,je,Tk.cells_R,rzZ,Qab,Qac,Qad,Qaa,Qae])
     (refine G1.done ?_ (by rfl) (by rfl) ?_; (· (first | exact cyD | fail)); (· first | exact vyD | skip))
    | ok x j=>
     rw [he] at h;dsimp only at h;have A:PM _ _ _ _ _ _ _:=A;have E:∀ st p,Cl st p (pC ts (i+1) (d+1))->∀ K Kp,XB Qaf base 93 [.ptr p 0,.lst 8 (fl J8 q8)] st K Kp=_:=λst p C K Kp=>A.xb C rfl (λst=>hb.no 93 (by decide) _ _) K Kp;have hj:j<ts.length:=hz.2.1;have M:=λst p=>@JI base hb ts j d hj (by omega) [41] st p;have e1:((d+1:Nat):Int) - 1=(d:Int):=by omega
     by_cases c4:isM (tk ts j) [[41]]=true
     ·rw [if_pos c4] at h; cases h;show PM _ _ _ _ _ _ _;unfold pC at *;refine jW w6 (by rfl) (hb.pur 158 3 (by decide)) rfl ?_;simp only [Z8,jj,Qai,Qam,Qag,Qah];unfold Z7;try dsimp only [oo,oO,ot,oT,os,og,oh,oc,on,oN,oP]
      repeat' (first | (apply jc <;> intro _) | simp (disch:=first | exact dzD | fail) only [hN,k2',k1',T,F,B,c1,c2,c3,O,hx,hd2,hL,E,e1,M,c4,je,Tk.cells_R,rzZ,Qab,Qac,Qad,Qaa,Qae])
      (refine G1.done ?_ (by rfl) (by rfl) ?_; (· (first | exact cyD | fail)); (· first | exact vyD | skip))
     ·rw [if_neg c4] at h; cases h;refine ⟨j,d,?_⟩;unfold pC at *;refine jW w6 (by rfl) (hb.pur 158 3 (by decide)) rfl ?_;simp only [Z8,jj,Qai,Qam,Qag,Qah];unfold Z7;try dsimp only [oo,oO,ot,oT,os,og,oh,oc,on,oN,oP]
      repeat' (first | (apply jc <;> intro _) | simp (disch:=first | exact dzD | fail) only [hN,k2',k1',T,F,B,c1,c2,c3,O,hx,hd2,hL,E,e1,M,c4,je,Tk.cells_R,rzZ,Qab,Qac,Qad,Qaa,Qae])
      (refine G1.done ?_ (by rfl) (by rfl) ?_; (· (first | exact cyD | fail)); (· first | exact vyD | skip))
 ·rw [if_neg c3] at h; cases h;refine ⟨i,d,?_⟩;unfold pC at *;refine jW w6 (by rfl) (hb.pur 158 3 (by decide)) rfl ?_;simp only [Z8,jj,Qai,Qam,Qag,Qah];unfold Z7;try dsimp only [oo,oO,ot,oT,os,og,oh,oc,on,oN,oP]
  repeat' (first | (apply jc <;> intro _) | simp (disch:=first | exact dzD | fail) only [hN,k2',k1',T,F,B,c1,c2,c3,Jr hb,je,Tk.cells_R,rzZ,Qab,Qac,Qad,Qaa,Qae])
  (refine G1.done ?_ (by rfl) (by rfl) ?_; (· (first | exact cyD | fail)); (· first | exact vyD | skip))
end Go.Sy
end
noncomputable section
set_option maxRecDepth 100000
namespace Go.Sy
open Go.Ev Go.Proofs
variable {base:Bs}
theorem HS:∀ k:Nat,k<9->sgn ((5+k:Nat):Int)=yh.getD k []:=by decide
theorem jhw {x:List Nat}(h:x∈yh):yh.idxOf x<9∧sgn ((5+yh.idxOf x:Nat):Int)=x∧∀ j,j<yh.idxOf x->sgn ((5+j:Nat):Int)≠x:=by
 have h9:yh.idxOf x<9:=List.idxOf_lt_length_of_mem h;refine ⟨h9,?_,λj hj=>?_⟩
 ·rw [HS _ h9,QaF,Qay (show yh.idxOf x<yh.length from h9)];simp
 ·rw [HS _ (by omega),QaF,Qay (show j<yh.length by show j<9; omega)];intro he;have hlt:j<yh.findIdx (· == x):=hj;have hno:=List.not_of_lt_findIdx hlt;have he':yh[j]'(show j<yh.length by show j<9; omega)=x:=he;rw [he'] at hno;simp at hno
set_option maxHeartbeats 4000000 in
theorem je1 (hb:NB base){ts:List Tk}(W:Wds ts){n:Nat}(ihP:IsP base ts n)(ihV:IsV base ts n):IsP base ts (n+1):=by
 intro i d r h hi hd;have wl:=W.len;have hx:(i:Int)+1=((i+1:Nat):Int):=by omega
 have T:=Xf hb hi (d:=d) (by omega) yh (cs:=[.str [45],.str [33],.str [88],.str [70],.str [71],.str [89],.str [90],.str [79],.str [72]]) (n:=9) rfl rfl (by decide);unfold yH at h;by_cases c1:isM (tk ts i) yh=true
 ·rw [if_pos c1] at h;have hi1:=W.isM hi c1;have O:=λst p=>@jc9 base hb ts (i+1) d hi1 (by omega) st p;by_cases hd2:60<d+1
  ·rw [if_pos hd2] at h; cases h;refine ⟨i+1,d+1,?_⟩;unfold pC at *;refine jW gz (by rfl) (hb.pur 133 3 (by decide)) rfl ?_;simp only [Uu,jj,Qai,Qam,Qag,Qah];unfold Ut;try dsimp only [oo,oO,ot,oT,os,og,oh,oc,on,oN,oP]
   repeat' (first | (apply jc <;> intro _) | simp (disch:=first | exact dzD | fail) only [T,c1,O,hd2,je,Tk.cells_R,rzZ,Qab,Qac,Qad,Qaa,Qae])
   (refine G1.done ?_ (by rfl) (by rfl) ?_; (· (first | exact cyD | fail)); (· first | exact vyD | skip))
  ·rw [if_neg hd2] at h;cases he:yH ts n (i+1) (d+1) with
   | none=>rw [he] at h; cases h
   | some q=>
    have A:=ihP _ _ _ he hi1 (by omega);have hz:=(Vn W n).2.2.1 _ _ _ he hi1;cases q with
    | er t=>
     rw [he] at h; cases h;obtain ⟨i',d',A⟩:=A;have E:∀ st p,Cl st p (pC ts (i+1) (d+1))->∀ K Kp,XB Qaf base 133 [.ptr p 0] st K Kp=_:=λst p C K Kp=>A.xb C rfl (λst=>hb.no 133 (by decide) _ _) K Kp;refine ⟨i',d',?_⟩;unfold pC at *;refine jW gz (by rfl) (hb.pur 133 3 (by decide)) rfl ?_;simp only [Uu,jj,Qai,Qam,Qag,Qah];unfold Ut;try dsimp only [oo,oO,ot,oT,os,og,oh,oc,on,oN,oP]
     repeat' (first | (apply jc <;> intro _) | simp (disch:=first | exact dzD | fail) only [T,c1,O,hd2,E,je,Tk.cells_R,rzZ,Qab,Qac,Qad,Qaa,Qae])
     (refine G1.done ?_ (by rfl) (by rfl) ?_; (· (first | exact cyD | fail)); (· first | exact vyD | skip))
    | ok x j=>
     rw [he] at h; cases h;have A:PM _ _ _ _ _ _ _:=A;have E:∀ st p,Cl st p (pC ts (i+1) (d+1))->∀ K Kp,XB Qaf base 133 [.ptr p 0] st K Kp=_:=λst p C K Kp=>A.xb C rfl (λst=>hb.no 133 (by decide) _ _) K Kp;have hj:j<ts.length:=hz.2.1;have e1:((d+1:Nat):Int) - 1=(d:Int):=by omega
     show PM _ _ _ _ _ _ _;unfold pC at *;refine jW gz (by rfl) (hb.pur 133 3 (by decide)) rfl ?_;simp only [Uu,jj,Qai,Qam,Qag,Qah];unfold Ut;try dsimp only [oo,oO,ot,oT,os,og,oh,oc,on,oN,oP]
     repeat' (first | (apply jc <;> intro _) | simp (disch:=first | exact dzD | fail) only [T,c1,O,hd2,E,e1,je,Tk.cells_R,rzZ,Qab,Qac,Qad,Qaa,Qae])
     obtain ⟨x1,x2,x3⟩:=jhw (vF c1).2;refine ww λu hu=>?_;have n0:u.nx=5:=by rw [hu]; rfl
     have C0:Cl u 0 [.lst ts.length (fl Tk.cells ts),.int .i64 (j:Int),.int .i64 (d:Int)]:=by
      rw [hu]
      (first | exact cyD | fail)
     have C1:Cl u 1 [.int .i64 0,.int .i64 0,.str [],.nils,.int .i64 0,.int .i64 0]:=by
      rw [hu]
      (first | exact cyD | fail)
     have C3:Cl u 3 (tk ts i).cells:=by
      rw [hu]
      (first | exact cyD | fail)
     have C4:Cl u 4 (eE x):=by
      rw [hu]
      (first | exact cyD | fail)
     clear hu;have hs:jX Qaf 9 (.ptr 3 1) (.str (tk ts i).text) u.h=true:=Vp jeC jeB C3 (QbG (Qbo 3)) rfl rfl;refine zG (λmm L s=>∃ k:Nat,k≤yh.idxOf (tk ts i).text∧mm=yh.idxOf (tk ts i).text - k∧s=u∧Has L 0 (.ptr 0 0)∧Has L 2 (.ptr 1 0)∧Has L 3 (.ptr 3 0)∧Has L 5 (.ptr 4 0)∧Has L 6 (.int .i64 ((5+k:Nat):Int))) ?_ (yh.idxOf (tk ts i).text) ?_
     ·rintro mm L s ⟨k,hk,rfl,rfl,i0,i2,i3,i5,i6⟩;have hS:=jed hb ((5+k:Nat):Int);by_cases hk2:k=yh.idxOf (tk ts i).text
      ·rw [←hk2] at x2
       (have zz:=aI @n0 (aI C0.r (aI C1.r (aI C3.r C4.r))); (repeat' (first | (apply jc <;> intro _) | simp (disch:=first | exact qz | fail) only [ja i0,ja i2,ja i3,ja i5,ja i6,hS,hs,x2,C0.q,C1.q,C3.q,C4.q,n0,C0.r,C1.r,C3.r,C4.r,je,Tk.cells_R,rzZ,Qab,Qac,Qad,Qaa,Qae])); (all_goals (clear zz)))
       rw [show YG (tk ts i).text=5+k by unfold YG; rw [←hk2],←qH];refine G1.done ?_ (by rfl) (by rfl) (H6 (ks:=[x]) (b:=5) (cs:=eE x) ?_ (by rw [Yo]) (by decide))
       ·(have zz:=aI C0.q (aI @n0 C0.r); first | exact j4 | fail)
       ·rw [jD,jE (by decide),←n0];exact Cl.new s _
      ·have x3':=x3 k (by omega)
       (have zz:=aI @n0 (aI C0.r (aI C1.r (aI C3.r C4.r))); (repeat' (first | (apply jc <;> intro _) | simp (disch:=first | exact qz | fail) only [ja i0,ja i2,ja i3,ja i5,ja i6,hS,hs,x3',C0.q,C1.q,C3.q,C4.q,n0,C0.r,C1.r,C3.r,C4.r,je,Tk.cells_R,rzZ,Qab,Qac,Qad,Qaa,Qae])); (all_goals (clear zz)))
       refine ⟨yh.idxOf (tk ts i).text - (k+1),by omega,k+1,by omega,rfl,?_⟩;rw [show ((5+(k+1):Nat):Int)=((5+k:Nat):Int)+1 by omega];simp (disch:=decide) only [Qaj,Qan,z0,z1,jd,jb,and_true,true_and,i0,i2,i3,i5]
     ·refine ⟨0,by omega,rfl,rfl,?_⟩;rw [show ((5+0:Nat):Int)=5 from rfl];simp (disch:=decide) only [Qaj,Qan,z0,z1,jd,jb,and_true,true_and]
 ·rw [if_neg c1] at h;have A:=ihV _ _ _ h hi hd;cases r with
  | er t=>
   obtain ⟨i',d',A⟩:=A;have E:∀ st p,Cl st p (pC ts i d)->∀ K Kp,XB Qaf base 158 [.ptr p 0] st K Kp=_:=λst p C K Kp=>A.xb C rfl (λst=>hb.no 158 (by decide) _ _) K Kp;refine ⟨i',d',?_⟩;unfold pC at *;refine jW gz (by rfl) (hb.pur 133 3 (by decide)) rfl ?_;simp only [Uu,jj,Qai,Qam,Qag,Qah];unfold Ut;try dsimp only [oo,oO,ot,oT,os,og,oh,oc,on,oN,oP]
   repeat' (first | (apply jc <;> intro _) | simp (disch:=first | exact dzD | fail) only [T,c1,E,je,Tk.cells_R,rzZ,Qab,Qac,Qad,Qaa,Qae])
   (refine G1.done ?_ (by rfl) (by rfl) ?_; (· (first | exact cyD | fail)); (· first | exact vyD | skip))
  | ok x j=>
   have A:PM _ _ _ _ _ _ _:=A;have E:∀ st p,Cl st p (pC ts i d)->∀ K Kp,XB Qaf base 158 [.ptr p 0] st K Kp=_:=λst p C K Kp=>A.xb C rfl (λst=>hb.no 158 (by decide) _ _) K Kp;show PM _ _ _ _ _ _ _;unfold pC at *;refine jW gz (by rfl) (hb.pur 133 3 (by decide)) rfl ?_;simp only [Uu,jj,Qai,Qam,Qag,Qah];unfold Ut;try dsimp only [oo,oO,ot,oT,os,og,oh,oc,on,oN,oP]
   repeat' (first | (apply jc <;> intro _) | simp (disch:=first | exact dzD | fail) only [T,c1,E,je,Tk.cells_R,rzZ,Qab,Qac,Qad,Qaa,Qae])
   (refine G1.done ?_ (by rfl) (by rfl) ?_; (· (first | exact cyD | fail)); (· first | exact vyD | skip))
end Go.Sy
end
noncomputable section
set_option maxRecDepth 100000
namespace Go.Sy
open Go.Ev Go.Proofs
variable {base:Bs}
theorem Vh {α:Type}{enc:α->List AV}{z:Nat}(hz:∀ x,(enc x).length=z)(x:α)(xs:List α){k:IntKind}{n:Nat}(hn:n=xs.length+1){st:St}{K:AV->St->Prop}:jf (v8 z (.lst n (fl enc (x :: xs))) (some (.int k 1)) none st) K=K (.lst xs.length (fl enc xs)) st:=by
 subst hn;have e1:Qao 1 (xs.length+1)=true:=y7 (by omega);have e2:Qao (xs.length+1) (xs.length+1)=true:=y7 (Qaq _);have e3:Qao (Qat (xs.length+1) z) (jH (fl enc (x :: xs)))=true:=y7 (by rw [jL,Xq hz]; exact Qaq _);have e4:(AV.int k 1)=.int k ((1:Nat):Int):=rfl;have e5:yn (yL (fl enc (x :: xs)) (Qat 1 z)) (Qat (Qbc (xs.length+1) 1) z)=fl enc xs:=by
  rw [yf,yK];show ((fl enc (x :: xs)).drop (1 * z)).take ((xs.length+1 - 1) * z)=_;rw [UW hz,Nat.add_sub_cancel];show (fl enc xs).take _=_;rw [←Xq hz,QaK]
 rw [e4];simp only [v8,optA,H4,e1,e2,e3,cond_true,jf];rw [e5];rfl
theorem Zq (v:Lev):(J8 v).length=2:=nr rfl
theorem Wj (v:Lev)(l:List Lev){st:St}{K:AV->St->Prop}:jf (ze (.lptr (fl J8 (v :: l)) 0) st) K=K (.lst v.1.length (v.1.map .str)) st:=wx (by rw [Q8,Qak,Zq]; omega)
theorem VN (v:Lev)(l:List Lev){st:St}{K:AV->St->Prop}:jf (ze (.lptr (fl J8 (v :: l)) 1) st) K=K (.int .i64 (v.2:Int)) st:=wx (by rw [Q8,Qak,Zq]; omega)
theorem gI {b:Nat}{cs:List AV}{h:T AO}(ho:0+5≤qq h b)(hv:rats h b 0 5=cs)(hc:cs.all eqs=true):(jX Qaf 88 (.ptr b 0) (.agg cs) h=true)=True:=eq_true (Zj jkJ jkI (by decide) ho hv hc)
theorem Z9 {b:Nat}{cs:List AV}{h:T AO}(ho:0+6≤qq h b)(hv:rats h b 0 6=cs)(hc:cs.all eqs=true):(jX Qaf 37 (.ptr b 0) (.agg cs) h=true)=True:=eq_true (Zj Kz Ky (by decide) ho hv hc)
theorem Yw (x:Ex):(eE x).all eqs=true:=nr (by rw [qH]; rfl)
theorem wu (t:Tk):t.cells.all eqs=true:=nr rfl
def EK (ts:List Tk)(d:Nat)(r:PR)(v:AV)(s:St):Prop:=match r with | .ok y j=>G1 3 (pC ts j d) (.agg (eE y)) v s | .er _=>False
def EP (ts:List Tk)(r:PR)(v:AV)(s:St):Prop:=match r with | .ok _ _=>False | .er t=>∃ i' d',G1 3 (pC ts i' d') (er t) v s
theorem jbC (ts:List Tk)(d:Nat)(y:Ex)(j:Nat)(v:AV)(s:St):EK ts d (.ok y j) v s=G1 3 (pC ts j d) (.agg (eE y)) v s:=nr rfl
theorem jgF (ts:List Tk)(t:Tk)(v:AV)(s:St):EP ts (.er t) v s = ∃ i' d',G1 3 (pC ts i' d') (er t) v s:=nr rfl
theorem jfH {f:FuncId}{F:XF}(hl:ju Qaf f=some F)(hnd:F.body.nd=true)(hm:base.pur f=3){xs:List AV}{ts:List Tk}{i d:Nat}{r:PR}
  (h:xC Qaf base F.body (jj F.ps (.ptr 0 0 :: xs)) (nw st0 (pC ts i d)) (Yv Qaf F.res (EK ts d r)) λv _ s=>EP ts r v s.bare):Ans base f (pC ts i d) xs ts d r:=by
 rw [←UN] at h;obtain ⟨q,he,hq⟩:=ZD (st:=XX (pC ts i d)) (K:=EK ts d r) (Kp:=EP ts r) hl hnd h;cases r with
 | ok y j=>
  refine PM.of hm rfl ⟨q,he,?_⟩;cases q <;> first | exact hq | exact hq.elim
 | er t=>
  cases q with
  | no=>exact hq.elim
  | ok v s=>exact (hq:False).elim
  | pn v s=>
   obtain ⟨i',d',hq⟩:=(hq:∃ i' d',G1 3 (pC ts i' d') (er t) v s);exact ⟨i',d',PM.of hm rfl ⟨_,he,hq⟩⟩
set_option maxHeartbeats 4000000 in
theorem jjX (hb:NB base){ts:List Tk}(W:Wds ts){n:Nat}(ihE:∀ m,m≤n->IsE base ts m)(ihP:IsP base ts n):IsE base ts (n+1):=by
 intro lv i d r h hi hd ok;have wl:=W.len;unfold qx at h;cases lv with
 | nil=>
  dsimp only at h;have A:=ihP _ _ _ h hi hd;cases r with
  | er t=>
   obtain ⟨i',d',A⟩:=A;have E:∀ st p,Cl st p (pC ts i d)->∀ K Kp,XB Qaf base 133 [.ptr p 0] st K Kp=_:=λst p C K Kp=>A.xb C rfl (λst=>hb.no 133 (by decide) _ _) K Kp;refine ⟨i',d',?_⟩;unfold pC at *;refine jW x93 (by rfl) (hb.pur 93 3 (by decide)) rfl ?_;simp only [y93,jj,Qai,Qam,Qag,Qah];unfold z93;try dsimp only [oo,oO,ot,oT,os,og,oh,oc,on,oN,oP]
   repeat' (first | (apply jc <;> intro _) | simp (disch:=first | exact dzD | fail) only [E,je,Tk.cells_R,rzZ,Qab,Qac,Qad,Qaa,Qae])
   (refine G1.done ?_ (by rfl) (by rfl) ?_; (· (first | exact cyD | fail)); (· first | exact vyD | skip))
  | ok x j=>
   have A:PM _ _ _ _ _ _ _:=A;have E:∀ st p,Cl st p (pC ts i d)->∀ K Kp,XB Qaf base 133 [.ptr p 0] st K Kp=_:=λst p C K Kp=>A.xb C rfl (λst=>hb.no 133 (by decide) _ _) K Kp;show PM _ _ _ _ _ _ _;unfold pC at *;refine jW x93 (by rfl) (hb.pur 93 3 (by decide)) rfl ?_;simp only [y93,jj,Qai,Qam,Qag,Qah];unfold z93;try dsimp only [oo,oO,ot,oT,os,og,oh,oc,on,oN,oP]
   repeat' (first | (apply jc <;> intro _) | simp (disch:=first | exact dzD | fail) only [E,je,Tk.cells_R,rzZ,Qab,Qac,Qad,Qaa,Qae])
   (refine G1.done ?_ (by rfl) (by rfl) ?_; (· (first | exact cyD | fail)); (· first | exact vyD | skip))
 | cons v l=>
  dsimp only at h;have hlen:(0:Int)<((l.length+1:Nat):Int):=by omega
  have hlen2:¬ ((l.length+1:Nat):Int)=0:=by omega
  cases he:qx ts n l i d with
  | none=>rw [he] at h; cases h
  | some q=>
   have A:=ihE n (Qaq _) _ _ _ _ he hi hd ⟨by have:=ok.1; simp at this; omega,λw hw=>ok.2 w (QbU _ hw)⟩;have hz:=(Vn W n).1 _ _ _ _ he hi;cases q with
   | er t=>
    rw [he] at h; cases h;obtain ⟨i',d',A⟩:=A;have E:∀ st p,Cl st p (pC ts i d)->∀ K Kp,XB Qaf base 93 [.ptr p 0,.lst l.length (fl J8 l)] st K Kp=_:=λst p C K Kp=>A.xb C rfl (λst=>hb.no 93 (by decide) _ _) K Kp;refine ⟨i',d',?_⟩;unfold pC at *;refine jW x93 (by rfl) (hb.pur 93 3 (by decide)) rfl ?_;simp only [y93,jj,Qai,Qam,Qag,Qah];unfold z93;try dsimp only [oo,oO,ot,oT,os,og,oh,oc,on,oN,oP]
    repeat' (first | (apply jc <;> intro _) | simp (disch:=first | exact dzD | fail) only [E,hlen2,Vh Zq v l,je,Tk.cells_R,rzZ,Qab,Qac,Qad,Qaa,Qae])
    (refine G1.done ?_ (by rfl) (by rfl) ?_; (· (first | exact cyD | fail)); (· first | exact vyD | skip))
   | ok x j=>
    rw [he] at h;dsimp only at h;have A:PM _ _ _ _ _ _ _:=A;have E:∀ st p,Cl st p (pC ts i d)->∀ K Kp,XB Qaf base 93 [.ptr p 0,.lst l.length (fl J8 l)] st K Kp=_:=λst p C K Kp=>A.xb C rfl (λst=>hb.no 93 (by decide) _ _) K Kp;have hj:j<ts.length:=hz.2.1;show Ans base 93 (pC ts i d) [.lst (v :: l).length (fl J8 (v :: l))] ts d r;refine jfH x93 (by rfl) (hb.pur 93 3 (by decide)) ?_;simp only [y93,jj,Qai,Qam,Qag,Qah];unfold z93;try dsimp only [oo,oO,ot,oT,os,og,oh,oc,on,oN,oP]
    unfold pC at *;repeat' (first | (apply jc <;> intro _) | simp (disch:=first | exact dzD | fail) only [E,hlen2,Vh Zq v l,je,Tk.cells_R,rzZ,Qab,Qac,Qad,Qaa,Qae])
    refine ww λu hu=>?_;have n0:3≤u.nx:=by rw [hu]; exact Qaq _
    have C0:Cl u 0 (pC ts j d):=by
     rw [hu]; unfold pC
     (first | exact cyD | fail)
    have C1:Cl u 1 [.int .i64 0,.int .i64 0,.str [],.nils,.int .i64 0,.int .i64 0]:=by
     rw [hu]
     (first | exact cyD | fail)
    have C2:Cl u 2 (eE x):=by
     rw [hu]
     (first | exact cyD | fail)
    clear hu E A;refine zG (λmm L s=>∃ (m i':Nat) (x':Ex),m≤n∧mm=m∧yv ts m v l x' i' d=some r∧i'<ts.length∧3≤s.nx∧Cl s 0 (pC ts i' d)∧Cl s 1 [.int .i64 0,.int .i64 0,.str [],.nils,.int .i64 0,.int .i64 0]∧Cl s 2 (eE x')∧Has L 0 (.ptr 0 0)∧Has L 1 (.lst (l.length+1) (fl J8 (v :: l)))∧Has L 4 (.ptr 1 0)∧Has L 5 (.ptr 2 0)) ?_ n ?_
    ·rintro m L s ⟨_,i',x',hm,rfl,hl,hi',n0,C0,C1,C2,i0,i1,i4,i5⟩;cases m with
     | zero=>simp [yv] at hl
     | succ m=>
     unfold yv at hl;have hx:(i':Int)+1=((i'+1:Nat):Int):=by omega
     have T:=λst p=>@ji9 base hb ts i' d hi' (by omega) v.1 (by have:=ok.2 v (by simp); omega) st p;have R2:rats s.h 2 0 6=eE x':=(C2.ratsP 6 0 (by rw [JD]; decide)).trans (by rw [QbF,←JD x',QaK]);have l2:=C2.len;rw [JD] at l2;have L0:=C0.lt;have L1:=C1.lt;have L2:=C2.lt;by_cases c1:isM (tk ts i') v.1=true
     ·rw [if_pos c1] at hl;have hi1:=W.isM hi' c1;have hw:=λy=>jkU hb (tk ts i') x' y;by_cases w1:v.2=1
      ·rw [if_pos w1] at hl;have w1':(v.2:Int)=1:=by omega
       cases he2:qx ts m (v :: l) (i'+1) d with
       | none=>rw [he2] at hl; cases hl
       | some q=>
        have A:=ihE m (by omega) _ _ _ _ he2 hi1 hd ok;cases q with
        | er t=>
         rw [he2] at hl; cases hl;obtain ⟨i2,d2,A⟩:=A;have E:∀ st p,Cl st p (pC ts (i'+1) d)->∀ K Kp,XB Qaf base 93 [.ptr p 0,.lst (l.length+1) (fl J8 (v :: l))] st K Kp=_:=λst p C K Kp=>A.xb C rfl (λst=>hb.no 93 (by decide) _ _) K Kp;unfold pC at *
         (have zz:=aI @Yw (aI @wu (aI @R2 (aI @l2 (aI C0.r C1.r)))); (repeat' (first | (apply jc <;> intro _) | simp (disch:=first | exact qz | fail) only [ja i0,ja i1,ja i4,ja i5,T,c1,E,w1',Wj,VN,gI,Z9,gA i5,jgF,R2,C0.q,C1.q,Yw,wu,R2,l2,C0.r,C1.r,je,Tk.cells_R,rzZ,Qab,Qac,Qad,Qaa,Qae])); (all_goals (clear zz)))
         refine ⟨i2,d2,?_⟩;unfold pC
         (refine G1.done ?_ (by rfl) (by rfl) ?_; (· (have zz:=aI C0.q (aI C1.q (aI C2.q (aI C0.r (aI C1.r C2.r)))); first | exact j4 | fail)); (· first | exact vyD | skip))
        | ok y j=>
         rw [he2] at hl; cases hl;have A:PM _ _ _ _ _ _ _:=A;have E:∀ st p,Cl st p (pC ts (i'+1) d)->∀ K Kp,XB Qaf base 93 [.ptr p 0,.lst (l.length+1) (fl J8 (v :: l))] st K Kp=_:=λst p C K Kp=>A.xb C rfl (λst=>hb.no 93 (by decide) _ _) K Kp;unfold pC at *
         (have zz:=aI @Yw (aI @wu (aI @R2 (aI @l2 (aI C0.r C1.r)))); (repeat' (first | (apply jc <;> intro _) | simp (disch:=first | exact qz | fail) only [ja i0,ja i1,ja i4,ja i5,T,c1,E,w1',Wj,VN,gI,Z9,gA i5,jbC,←qH,hw,R2,C0.q,C1.q,Yw,wu,R2,l2,C0.r,C1.r,je,Tk.cells_R,rzZ,Qab,Qac,Qad,Qaa,Qae])); (all_goals (clear zz)))
         unfold pC
         (refine G1.done ?_ (by rfl) (by rfl) ?_; (· (have zz:=aI C0.q (aI C1.q (aI C2.q (aI C0.r (aI C1.r C2.r)))); first | exact j4 | fail)); (· first | exact vyD | skip))
      ·rw [if_neg w1] at hl;have w1':¬ (v.2:Int)=1:=by omega
       cases he2:qx ts m l (i'+1) d with
       | none=>rw [he2] at hl; cases hl
       | some q=>
        have A:=ihE m (by omega) _ _ _ _ he2 hi1 hd ⟨by have:=ok.1; simp at this; omega,λw hw=>ok.2 w (QbU _ hw)⟩;have hz2:=(Vn W m).1 _ _ _ _ he2 hi1;cases q with
        | er t=>
         rw [he2] at hl; cases hl;obtain ⟨i2,d2,A⟩:=A;have E:∀ st p,Cl st p (pC ts (i'+1) d)->∀ K Kp,XB Qaf base 93 [.ptr p 0,.lst l.length (fl J8 l)] st K Kp=_:=λst p C K Kp=>A.xb C rfl (λst=>hb.no 93 (by decide) _ _) K Kp;unfold pC at *
         (have zz:=aI @Yw (aI @wu (aI @R2 (aI @l2 (aI C0.r C1.r)))); (repeat' (first | (apply jc <;> intro _) | simp (disch:=first | exact qz | fail) only [ja i0,ja i1,ja i4,ja i5,T,c1,E,w1',Wj,VN,gI,Z9,gA i5,jgF,Vh Zq v l,R2,C0.q,C1.q,Yw,wu,R2,l2,C0.r,C1.r,je,Tk.cells_R,rzZ,Qab,Qac,Qad,Qaa,Qae])); (all_goals (clear zz)))
         refine ⟨i2,d2,?_⟩;unfold pC
         (refine G1.done ?_ (by rfl) (by rfl) ?_; (· (have zz:=aI C0.q (aI C1.q (aI C2.q (aI C0.r (aI C1.r C2.r)))); first | exact j4 | fail)); (· first | exact vyD | skip))
        | ok y j=>
         rw [he2] at hl;dsimp only at hl;have A:PM _ _ _ _ _ _ _:=A;have hj2:j<ts.length:=hz2.2.1;have E:∀ st p,Cl st p (pC ts (i'+1) d)->∀ K Kp,XB Qaf base 93 [.ptr p 0,.lst l.length (fl J8 l)] st K Kp=_:=λst p C K Kp=>A.xb C rfl (λst=>hb.no 93 (by decide) _ _) K Kp;by_cases w2:v.2=2
         ·rw [if_pos w2] at hl; cases hl;have w2':(v.2:Int)=2:=by omega
          unfold pC at *
          (have zz:=aI @Yw (aI @wu (aI @R2 (aI @l2 (aI C0.r C1.r)))); (repeat' (first | (apply jc <;> intro _) | simp (disch:=first | exact qz | fail) only [ja i0,ja i1,ja i4,ja i5,T,c1,E,w1',w2',Wj,VN,gI,Z9,gA i5,jbC,←qH,hw,Vh Zq v l,R2,C0.q,C1.q,Yw,wu,R2,l2,C0.r,C1.r,je,Tk.cells_R,rzZ,Qab,Qac,Qad,Qaa,Qae])); (all_goals (clear zz)))
          unfold pC
          (refine G1.done ?_ (by rfl) (by rfl) ?_; (· (have zz:=aI C0.q (aI C1.q (aI C2.q (aI C0.r (aI C1.r C2.r)))); first | exact j4 | fail)); (· first | exact vyD | skip))
         ·rw [if_neg w2] at hl;have w2':¬ (v.2:Int)=2:=by omega
          unfold pC at *
          (have zz:=aI @Yw (aI @wu (aI @R2 (aI @l2 (aI C0.r C1.r)))); (repeat' (first | (apply jc <;> intro _) | simp (disch:=first | exact qz | fail) only [ja i0,ja i1,ja i4,ja i5,T,c1,E,w1',w2',Wj,VN,gI,Z9,gA i5,←qH,hw,Vh Zq v l,R2,C0.q,C1.q,Yw,wu,R2,l2,C0.r,C1.r,je,Tk.cells_R,rzZ,Qab,Qac,Qad,Qaa,Qae])); (all_goals (clear zz)))
          refine ⟨m,by omega,m,j,yF (tk ts i') x' y,by omega,rfl,hl,hj2,by omega,?_,?_,?_,?_⟩
          ·(have zz:=aI C0.q (aI C1.q (aI C2.q (aI C0.r (aI C1.r C2.r)))); first | exact j4 | fail)
          ·(have zz:=aI C0.q (aI C1.q (aI C2.q (aI C0.r (aI C1.r C2.r)))); first | exact j4 | fail)
          ·(have zz:=aI C0.q (aI C1.q (aI C2.q (aI C0.r (aI C1.r C2.r)))); first | exact j4 | fail)
          ·simp (disch:=decide) only [Qaj,Qan,z0,z1,jd,jb,and_true,true_and,i0,i1,i4,i5]
     ·rw [if_neg c1] at hl; cases hl;unfold pC at *
      (have zz:=aI @R2 (aI @l2 (aI C0.r C1.r)); (repeat' (first | (apply jc <;> intro _) | simp (disch:=first | exact qz | fail) only [ja i0,ja i1,ja i4,ja i5,T,c1,Wj,jbC,←qH,R2,C0.q,C1.q,R2,l2,C0.r,C1.r,je,Tk.cells_R,rzZ,Qab,Qac,Qad,Qaa,Qae])); (all_goals (clear zz)))
      unfold pC
      (refine G1.done ?_ (by rfl) (by rfl) ?_; (· (have zz:=aI C0.q (aI C1.q (aI C2.q (aI C0.r (aI C1.r C2.r)))); first | exact j4 | fail)); (· first | exact vyD | skip))
    ·refine ⟨n,j,x,Qaq _,rfl,h,hj,n0,C0,C1,C2,?_⟩;simp (disch:=decide) only [Qaj,Qan,z0,z1,jd,jb,and_true,true_and]
end Go.Sy
end
noncomputable section
set_option maxRecDepth 100000
namespace Go.Sy
open Go.Ev Go.Proofs
mutual
def Ex.ev (q:Ex->Prop):Ex->Prop
 | .mk o n nm ks l c=>q (.mk o n nm ks l c)∧Ex.evs q ks
def Ex.evs (q:Ex->Prop):List Ex->Prop
 | []=>True
 | x :: xs=>x.ev q∧Ex.evs q xs
end
def atW (ts:List Tk)(x:Ex):Prop:=x.op≠4∧∃ k,k<ts.length∧(tk ts k).kind≠5∧x.line=(tk ts k).line∧x.col=(tk ts k).col
def GoodR (ts:List Tk)(i:Nat):PR->Prop
 | .ok x j=>i≤j∧j<ts.length∧x.ev (atW ts)
 | .er t=>∃ k,k<ts.length∧t=tk ts k
theorem GoodR.le {ts:List Tk}{i j:Nat}{r:PR}(h:GoodR ts j r)(hij:i≤j):GoodR ts i r:=by
 cases r with
 | ok x k=>exact ⟨Qav hij h.1,h.2⟩
 | er t=>exact h
def okT (l:List Lev):Prop:=∀ v∈l,∀ s∈v.1,(Yc s).isSome=true
theorem VG:okT q8:=by
 have:(q8.all λv=>v.1.all λs=>(Yc s).isSome)=true:=by decide +kernel
 intro v hv s hs;rw [Qaw] at this;have h:=this v hv;rw [Qaw] at h;exact h s hs
theorem wG {ts:List Tk}{k:Nat}(hk:k<ts.length)(h5:(tk ts k).kind≠5){o n:Int}{nm:List Nat}{ks:List Ex}(ho:o≠4)(h:Ex.evs (atW ts) ks):(Ex.mk o n nm ks (tk ts k).line (tk ts k).col).ev (atW ts):=
 ⟨⟨ho,k,hk,h5,rfl,rfl⟩,h⟩
theorem jcy {ts:List Tk}{k:Nat}(hk:k<ts.length)(h5:(tk ts k).kind≠5){x y:Ex}(hx:x.ev (atW ts))(hy:y.ev (atW ts))(ht:(Yc (tk ts k).text).isSome=true):(yF (tk ts k) x y).ev (atW ts):=by
 unfold yF;split
 ·refine wG hk h5 (by omega) ⟨hx,hy,trivial⟩
 ·rename_i h; rw [h] at ht; cases ht
theorem VV {t:Tk}{S:List (List Nat)}(h:isM t S=true):t.kind≠5:=by have:=(vF h).1; omega
def Anw (f:Nat->Option PR)(Q:PR->Prop):Prop:=∃ N r,Q r∧∀ n,N≤n->f n=some r
theorem Anw.mono {f:Nat->Option PR}{Q R:PR->Prop}(h:Anw f Q)(k:∀ r,Q r->R r):Anw f R:=by
 obtain ⟨N,r,h1,h2⟩:=h; exact ⟨N,r,k r h1,h2⟩
theorem jgR {f g:Nat->Option PR}{Q:PR->Prop}(h:Anw f Q)(k:∀ n,g (n+1)=f n):Anw g Q:=by
 obtain ⟨N,r,h1,h2⟩:=h;refine ⟨N+1,r,h1,λn hn=>?_⟩;obtain ⟨m,rfl⟩:∃ m,n=m+1:=⟨n - 1,by omega⟩;rw [k,h2 m (by omega)]
theorem Z5 {g:Nat->Option PR}{Q:PR->Prop}(r:PR)(hQ:Q r)(k:∀ n,g (n+1)=some r):Anw g Q:=by
 refine ⟨1,r,hQ,λn hn=>?_⟩;obtain ⟨m,rfl⟩:∃ m,n=m+1:=⟨n - 1,by omega⟩;exact k m
theorem Uq {f g:Nat->Option PR}{Q R:PR->Prop}(F:Ex->Nat->Nat->Option PR)(h:Anw f Q)(k:∀ n,g (n+1)=(match f n with | some (.ok x j)=>F x j n | r=>r))(he:∀ t,Q (.er t)->R (.er t))(ho:∀ x j,Q (.ok x j)->Anw (F x j) R):Anw g R:=by
 obtain ⟨N,r,h1,h2⟩:=h;cases r with
 | er t=>
  refine ⟨N+1,.er t,he t h1,λn hn=>?_⟩;obtain ⟨m,rfl⟩:∃ m,n=m+1:=⟨n - 1,by omega⟩;rw [k,h2 m (by omega)]
 | ok x j=>
  obtain ⟨M,r,h3,h4⟩:=ho x j h1;refine ⟨max N M+1,r,h3,λn hn=>?_⟩;obtain ⟨m,rfl⟩:∃ m,n=m+1:=⟨n - 1,by omega⟩;rw [k,h2 m (by omega)];exact h4 m (by omega)
theorem Up {f:Nat->Option PR}{Q:PR->Prop}(r:PR)(hQ:Q r)(k:∀ n,f n=some r):Anw f Q:=⟨0,r,hQ,λn _=>k n⟩
structure AnsM (ts:List Tk)(m:Nat):Prop where
 e:∀ i d l,i<ts.length->ts.length≤i+m->d≤60->okT l->Anw (λn=>qx ts n l i d) (GoodR ts (i+1))
 p:∀ i d,i<ts.length->ts.length≤i+m->d≤60->Anw (λn=>yH ts n i d) (GoodR ts (i+1))
 o:∀ i d v l x,i<ts.length->ts.length≤i+m->d≤60->okT (v :: l)->x.ev (atW ts)->Anw (λn=>yv ts n v l x i d) (GoodR ts i)
theorem jko {ts:List Tk}(W:Wds ts):∀ m,AnsM ts m
 | 0=>⟨λi d l h1 h2=>by omega,λi d h1 h2=>by omega,λi d v l x h1 h2=>by omega⟩
 | m+1=>by
  have ih:=jko W m;have hv:∀ i d,i<ts.length->ts.length≤i+(m+1)->d≤60->Anw (λn=>yT ts n i d) (GoodR ts (i+1)):=by
   intro i d hi hm hd;by_cases h2:(tk ts i).kind=2
   ·exact Z5 (.ok (.mk 1 (tk ts i).num [] [] (tk ts i).line (tk ts i).col) (i+1)) ⟨Qaq _,W.next i hi (by omega),wG hi (by omega) (by decide) (ks:=[]) trivial⟩ λn=>by simp only [yT]; rw [if_pos h2]
   by_cases h1:(tk ts i).kind=1
   ·exact Z5 (.ok (.mk 3 0 (tk ts i).text [] (tk ts i).line (tk ts i).col) (i+1)) ⟨Qaq _,W.next i hi (by omega),wG hi (by omega) (by decide) (ks:=[]) trivial⟩ λn=>by simp only [yT]; rw [if_neg h2,if_pos h1]
   by_cases ht:isM (tk ts i) [[116,114,117,101]]=true
   ·exact Z5 (.ok (.mk 2 1 [] [] (tk ts i).line (tk ts i).col) (i+1)) ⟨Qaq _,W.isM hi ht,wG hi (VV ht) (by decide) (ks:=[]) trivial⟩ λn=>by simp only [yT]; rw [if_neg h2,if_neg h1,if_pos ht]
   by_cases hf:isM (tk ts i) [[102,97,108,115,101]]=true
   ·exact Z5 (.ok (.mk 2 0 [] [] (tk ts i).line (tk ts i).col) (i+1)) ⟨Qaq _,W.isM hi hf,wG hi (VV hf) (by decide) (ks:=[]) trivial⟩ λn=>by simp only [yT]; rw [if_neg h2,if_neg h1,if_neg ht,if_pos hf]
   by_cases hp:isM (tk ts i) [[40]]=true
   ·have hi1:=W.isM hi hp;by_cases h60:60<d+1
    ·exact Z5 (.er _) ⟨i+1,hi1,rfl⟩ λn=>by simp only [yT]; rw [if_neg h2,if_neg h1,if_neg ht,if_neg hf,if_pos hp,if_pos h60]
    ·refine Uq (λx j n=>if isM (tk ts j) [[41]]=true then some (.ok x (j+1)) else some (.er (tk ts j))) (ih.e (i+1) (d+1) q8 hi1 (by omega) (by omega) VG) (λn=>by simp only [yT]; rw [if_neg h2,if_neg h1,if_neg ht,if_neg hf,if_pos hp,if_neg h60] <;> rfl) (λt h=>h) λx j h=>?_;by_cases hq:isM (tk ts j) [[41]]=true
     ·exact Up (.ok x (j+1)) ⟨by have:=h.1; omega,W.isM h.2.1 hq,h.2.2⟩ λn=>if_pos hq
     ·exact Up (.er (tk ts j)) ⟨j,h.2.1,rfl⟩ λn=>if_neg hq
   ·exact Z5 (.er _) ⟨i,hi,rfl⟩ λn=>by simp only [yT]; rw [if_neg h2,if_neg h1,if_neg ht,if_neg hf,if_neg hp]
  have hp:∀ i d,i<ts.length->ts.length≤i+(m+1)->d≤60->Anw (λn=>yH ts n i d) (GoodR ts (i+1)):=by
   intro i d hi hm hd;by_cases hp:isM (tk ts i) yh=true
   ·have hi1:=W.isM hi hp;by_cases h60:60<d+1
    ·exact Z5 (.er _) ⟨i+1,hi1,rfl⟩ λn=>by simp only [yH]; rw [if_pos hp,if_pos h60]
    ·refine Uq (λx j n=>some (.ok (.mk (YG (tk ts i).text:Nat) 0 [] [x] (tk ts i).line (tk ts i).col) j)) (ih.p (i+1) (d+1) hi1 (by omega) (by omega)) (λn=>by simp only [yH]; rw [if_pos hp,if_neg h60] <;> rfl) (λt h=>h) λx j h=>?_;exact Up (.ok (.mk (YG (tk ts i).text:Nat) 0 [] [x] (tk ts i).line (tk ts i).col) j) ⟨by have:=h.1; omega,h.2.1,wG hi (VV hp) (by unfold YG; omega) (ks:=[x]) ⟨h.2.2,trivial⟩⟩ λn=>rfl
   ·exact jgR (hv i d hi hm hd) λn=>by simp only [yH]; rw [if_neg hp]
  have he:∀ l i d,i<ts.length->ts.length≤i+(m+1)->d≤60->okT l->Anw (λn=>qx ts n l i d) (GoodR ts (i+1)):=by
   intro l;induction l with
   | nil=>intro i d hi hm hd hl; exact jgR (hp i d hi hm hd) λn=>by simp only [qx]
   | cons v l ihl=>
    intro i d hi hm hd hl;refine Uq (λx j n=>yv ts n v l x j d) (ihl i d hi hm hd λw hw=>hl w (QbU _ hw)) (λn=>by simp only [qx] <;> rfl) (λt h=>h) λx j h=>?_;exact (ih.o j d v l x h.2.1 (by have:=h.1; omega) hd hl h.2.2).mono λr hr=>hr.le h.1
  refine ⟨λi d l h1 h2 h3 h4=>he l i d h1 h2 h3 h4,hp,λi d v l x hi hm hd hl hx=>?_⟩;by_cases hs:isM (tk ts i) v.1=true
  ·have hi1:=W.isM hi hs;have ht:(Yc (tk ts i).text).isSome=true:=hl v (List.mem_cons_self ..) _ (vF hs).2;have hl':okT l:=λw hw=>hl w (QbU _ hw);by_cases hw:v.2=1
   ·refine Uq (λy j n=>some (.ok (yF (tk ts i) x y) j)) (ih.e (i+1) d (v :: l) hi1 (by omega) hd hl) (λn=>by simp only [yv]; rw [if_pos hs,if_pos hw] <;> rfl) (λt h=>h) λy j h=>?_;exact Up (.ok (yF (tk ts i) x y) j) ⟨by have:=h.1; omega,h.2.1,jcy hi (VV hs) hx h.2.2 ht⟩ λn=>rfl
   ·refine Uq (λy j n=>if v.2=2 then some (.ok (yF (tk ts i) x y) j) else yv ts n v l (yF (tk ts i) x y) j d) (ih.e (i+1) d l hi1 (by omega) hd hl') (λn=>by simp only [yv]; rw [if_pos hs,if_neg hw] <;> rfl) (λt h=>h) λy j h=>?_;have hxy:=jcy hi (VV hs) hx h.2.2 ht;by_cases h2:v.2=2
    ·exact Up (.ok (yF (tk ts i) x y) j) ⟨by have:=h.1; omega,h.2.1,hxy⟩ λn=>if_pos h2
    ·obtain ⟨N,r,h3,h4⟩:=ih.o j d v l _ h.2.1 (by have:=h.1; omega) hd hl hxy;exact ⟨N,r,h3.le (by have:=h.1; omega),λn hn=>(if_neg h2).trans (h4 n hn)⟩
  ·exact Z5 (.ok x i) ⟨Qaq _,hi,hx⟩ λn=>by simp only [yv]; rw [if_neg hs]
end Go.Sy
end
noncomputable section
set_option maxRecDepth 100000
namespace Go.Sy
open Go.Ev Go.Proofs
variable {base:Bs}
theorem reads (hb:NB base){ts:List Tk}(W:Wds ts):∀ n,IsE base ts n∧IsP base ts n∧IsV base ts n:=by
 have key:∀ n,∀ m,m≤n->IsE base ts m∧IsP base ts m∧IsV base ts m:=by
  intro n;induction n with
  | zero=>
   intro m hm;obtain rfl:m=0:=by omega
   exact ⟨λ_ _ _ _ h=>(by simp [qx] at h),λ_ _ _ h=>(by simp [yH] at h),λ_ _ _ h=>(by simp [yT] at h)⟩
  | succ n ih=>
   intro m hm;by_cases h:m≤n
   ·exact ih m h
   ·obtain rfl:m=n+1:=by omega
    obtain ⟨h1,h2,h3⟩:=ih n (Qaq _);exact ⟨jjX hb W (λk hk=>(ih k hk).1) h2,je1 hb W h2 h3,jgW hb W h1⟩
 exact λn=>key n n (Qaq _)
def Vf (ts:List Tk)(i:Nat)(r0:PR):PR:=match r0 with
 | .er t=>.er t
 | .ok x j=>if yc 60 x=true then .ok x j else .er (tk ts i)
def EvR (ts:List Tk)(i:Nat)(r:PR):Prop:=∃ N,∀ n,N≤n->qx ts n q8 i 0=some r
theorem EvR.uniq {ts:List Tk}{i:Nat}{r q:PR}(h:EvR ts i r)(k:EvR ts i q):r=q:=by
 obtain ⟨N,h⟩:=h;obtain ⟨M,k⟩:=k;have:=(h (max N M) (QaI ..)).symm.trans (k (max N M) (QaE ..));exact Option.some.inj this
open Classical in
def zj (ts:List Tk)(i:Nat):PR:=if h:∃ r,EvR ts i r then Vf ts i h.choose else .er (tk ts i)
theorem vX {ts:List Tk}{i:Nat}{r:PR}(h:EvR ts i r):zj ts i=Vf ts i r:=by
 unfold zj;rw [dif_pos ⟨r,h⟩];have:=(⟨r,h⟩:∃ r,EvR ts i r).choose_spec;rw [this.uniq h]
theorem evR {ts:List Tk}(W:Wds ts){i:Nat}(hi:i<ts.length):∃ r,GoodR ts (i+1) r∧EvR ts i r:=by
 obtain ⟨N,r,hg,hr⟩:=(jko W ts.length).e i 0 q8 hi (by omega) (by decide) VG;exact ⟨r,hg,N,hr⟩
theorem u0 (hb:NB base){ts:List Tk}(W:Wds ts){i:Nat}(hi:i<ts.length):Ans base 48 (pC ts i 0) [] ts 0 (zj ts i):=by
 obtain ⟨r,_,hr⟩:=evR W hi;rw [vX hr];obtain ⟨N,hr⟩:=hr;have he:=hr N (Qaq _);have A:=(reads hb W N).1 _ _ _ _ he hi (by omega) ⟨by decide,by decide⟩;have hz:=(Vn W N).1 _ _ _ _ he hi;have hN:=λst p=>@Xn base hb ts i 0 hi st p;have hL:=Gb hb;cases r with
 | er t=>
  obtain ⟨i',d',A⟩:=A;have E:∀ st p,Cl st p (pC ts i 0)->∀ K Kp,XB Qaf base 93 [.ptr p 0,.lst 8 (fl J8 q8)] st K Kp=_:=λst p C K Kp=>A.xb C rfl (λst=>hb.no 93 (by decide) _ _) K Kp;refine ⟨i',d',?_⟩;unfold pC at *;refine jW x48 (by rfl) (hb.pur 48 3 (by decide)) rfl ?_;simp only [y48,jj,Qai,Qam,Qag,Qah];unfold z48;try dsimp only [oo,oO,ot,oT,os,og,oh,oc,on,oN,oP]
  repeat' (first | (apply jc <;> intro _) | simp (disch:=first | exact dzD | fail) only [hN,hL,E,je,Tk.cells_R,rzZ,Qab,Qac,Qad,Qaa,Qae])
  (refine G1.done ?_ (by rfl) (by rfl) ?_; (· (first | exact cyD | fail)); (· first | exact vyD | skip))
 | ok x j=>
  have A:PM _ _ _ _ _ _ _:=A;have E:∀ st p,Cl st p (pC ts i 0)->∀ K Kp,XB Qaf base 93 [.ptr p 0,.lst 8 (fl J8 q8)] st K Kp=_:=λst p C K Kp=>A.xb C rfl (λst=>hb.no 93 (by decide) _ _) K Kp;have hx:szE x≤BIG:=by
   have h1:=hz.2.2;have h2:(j - i) * 65537≤1000000 * 65537:=QaJ _ (by have:=W.len; have:=hz.2.1; omega);have h3:1000000 * 65537≤BIG:=by decide
   exact Qav h1 (by rw [QaL]; exact Qav h2 h3)
  have hR:=jhQ hb x hx;unfold Vf;dsimp only;by_cases c:yc 60 x=true
  ·rw [if_pos c];show PM _ _ _ _ _ _ _;unfold pC at *;refine jW x48 (by rfl) (hb.pur 48 3 (by decide)) rfl ?_;simp only [y48,jj,Qai,Qam,Qag,Qah];unfold z48;try dsimp only [oo,oO,ot,oT,os,og,oh,oc,on,oN,oP]
   repeat' (first | (apply jc <;> intro _) | simp (disch:=first | exact dzD | fail) only [hN,hL,E,hR,c,←qH,je,Tk.cells_R,rzZ,Qab,Qac,Qad,Qaa,Qae])
   (refine G1.done ?_ (by rfl) (by rfl) ?_; (· (first | exact cyD | fail)); (· first | exact vyD | skip))
  ·rw [if_neg c];refine ⟨j,0,?_⟩;unfold pC at *;refine jW x48 (by rfl) (hb.pur 48 3 (by decide)) rfl ?_;simp only [y48,jj,Qai,Qam,Qag,Qah];unfold z48;try dsimp only [oo,oO,ot,oT,os,og,oh,oc,on,oN,oP]
   repeat' (first | (apply jc <;> intro _) | simp (disch:=first | exact dzD | fail) only [hN,hL,E,hR,c,Jr hb,je,Tk.cells_R,rzZ,Qab,Qac,Qad,Qaa,Qae])
   (refine G1.done ?_ (by rfl) (by rfl) ?_; (· (first | exact cyD | fail)); (· first | exact vyD | skip))
end Go.Sy
end
noncomputable section
set_option maxRecDepth 100000
namespace Go.Sy
open Go.Ev Go.Proofs
def z15:XC:=(.seq (.ops [(oO 2 (.alloc [(.int .i64 0),(.int .i64 0),(.str []),.nils,(.int .i64 0),(.int .i64 0)])),(oO 3 (.alloc [(.int .i64 0),(.int .i64 0),(.int .i64 0)]))]) (.seq (.ops [(ot 9 0),(oc 10 35 [(.t 9)]),(ot 8 10),(oo 11 (.ext (.t 8) 0)),(oo 12 (.ext (.t 8) 1)),(oT 4 11),(os (.st 3 (.t 3) (.t 12)))]) (.seq (.seq (.ops [(oo 13 (.fad 0 (.t 3))),(oo 14 (.ld1 (.t 13))),(oO 15 (.bin .neq (.t 14) (.c (.int .i64 0))))]) (.cond (.t 15) (.seq (.dops [(⟨(oo 16 (.ldA 6 (.t 2))),(some (some (.t 2))),37,[]⟩,none),(⟨(oo 17 (.ldA 3 (.t 3))),(some (some (.t 3))),30,[]⟩,none),(⟨(os (.st 6 (.t 2) (.t 16))),(some none),0,[(0,30)]⟩,none),(⟨(os (.st 3 (.t 3) (.t 17))),(some none),0,[]⟩,none)]) .ret) .skip)) (.seq (.ops [⟨none,false,none,(.defer (.c (.fn 36 [])) [(.t 3)])⟩]) (.seq (.ops [(ot 18 4),(oo 19 (.build [.nils,(.int .i64 0),(.int .i64 0)] [((0,1),(.t 18))])),(oo 20 (.box (.t 19))),(oT 5 20)]) (.seq (.ops [(ot 21 5),(oc 22 48 [(.t 21)]),(oO 6 (.alloc [(.int .i64 0),(.int .i64 0),(.str []),.nils,(.int .i64 0),(.int .i64 0)])),(os (.st 6 (.t 6) (.t 22)))]) (.seq (.seq (.ops [(ot 23 5),(oc 24 49 [(.t 23)]),(oO 7 (.alloc [(.int .i64 0),(.str []),(.int .i64 0),(.int .i64 0),(.int .i64 0)])),(os (.st 5 (.t 7) (.t 24)))]) (.seq (.ops [(oo 25 (.fad 0 (.t 7))),(oo 26 (.ld1 (.t 25))),(oO 27 (.bin .neq (.t 26) (.c (.int .i64 5))))]) (.cond (.t 27) (.ops [(oo 28 (.ldA 5 (.t 7))),(oc 29 50 [(.t 28)])]) .skip))) (.seq (.dops [(⟨(oo 30 (.ldA 6 (.t 6))),(some (some (.t 6))),37,[]⟩,none),(⟨(oo 31 (.ldA 3 (.t 3))),(some (some (.t 3))),30,[]⟩,none),(⟨(os (.st 6 (.t 2) (.t 30))),(some none),0,[(0,30)]⟩,none),(⟨(os (.st 3 (.t 3) (.t 31))),(some none),0,[]⟩,none)]) .ret))))))))
def y15:XF:=⟨[0],z15,[(.cA 2 6),(.cA 3 3)]⟩
theorem x15:ju Qaf 15=some y15:=by kernel_rfl
def z9:XC:=(.seq (.ops [(oO 2 (.alloc [.nils,.nils,.nils])),(oO 3 (.alloc [(.int .i64 0),(.int .i64 0),(.int .i64 0)]))]) (.seq (.ops [(ot 7 0),(oc 8 35 [(.t 7)]),(ot 6 8),(oo 9 (.ext (.t 6) 0)),(oo 10 (.ext (.t 6) 1)),(oT 4 9),(os (.st 3 (.t 3) (.t 10)))]) (.seq (.seq (.ops [(oo 11 (.fad 0 (.t 3))),(oo 12 (.ld1 (.t 11))),(oO 13 (.bin .neq (.t 12) (.c (.int .i64 0))))]) (.cond (.t 13) (.seq (.dops [(⟨(oo 14 (.ldA 3 (.t 2))),(some (some (.t 2))),27,[]⟩,none),(⟨(oo 15 (.ldA 3 (.t 3))),(some (some (.t 3))),30,[]⟩,none),(⟨(os (.st 3 (.t 2) (.t 14))),(some none),0,[(0,30)]⟩,none),(⟨(os (.st 3 (.t 3) (.t 15))),(some none),0,[]⟩,none)]) .ret) .skip)) (.seq (.ops [⟨none,false,none,(.defer (.c (.fn 36 [])) [(.t 3)])⟩]) (.seq (.ops [(ot 16 4),(oo 17 (.build [.nils,(.int .i64 0),(.int .i64 0)] [((0,1),(.t 16))])),(oo 18 (.box (.t 17))),(oT 5 18)]) (.seq (.dops [(oP (ot 19 5)),(⟨(oc 20 37 [(.t 19)]),(some none),0,[]⟩,(some [(on 20),⟨(oo 21 (.ldA 3 (.t 3))),(some (some (.t 3))),30,[(0,0)]⟩,oN,oN])),(⟨(oo 21 (.ldA 3 (.t 3))),(some (some (.t 3))),30,[(0,0)]⟩,none),(⟨(os (.st 3 (.t 2) (.t 20))),(some none),0,[(0,30)]⟩,none),(⟨(os (.st 3 (.t 3) (.t 21))),(some none),0,[]⟩,none)]) .ret))))))
def y9:XF:=⟨[0],z9,[(.cA 2 3),(.cA 3 3)]⟩
theorem x9:ju Qaf 9=some y9:=by kernel_rfl
def z78:XC:=(.seq (.ops [(oO 2 (.alloc [(.str []),.nils,(.int .i64 0),(.int .i64 0)]))]) (.seq (.ops [(ot 7 0),(oc 8 126 [(.t 7)]),(oO 3 (.alloc [(.int .i64 0),(.str []),(.int .i64 0),(.int .i64 0),(.int .i64 0)])),(os (.st 5 (.t 3) (.t 8)))]) (.seq (.ops [(oo 9 (.fad 1 (.t 3))),(oo 10 (.ld1 (.t 9))),(oo 11 (.fad 3 (.t 3))),(oo 12 (.ld1 (.t 11))),(oo 13 (.fad 4 (.t 3))),(oo 14 (.ld1 (.t 13))),(oo 15 (.build [(.str []),.nils,(.int .i64 0),(.int .i64 0)] [((0,1),(.t 10)),((2,1),(.t 12)),((3,1),(.t 14))])),(oO 4 (.alloc [(.str []),.nils,(.int .i64 0),(.int .i64 0)])),(os (.st 4 (.t 4) (.t 15)))]) (.seq (.ops [(ot 16 0),(oc 17 127 [(.t 16),(.c (.str [123]))])]) (.block 0 (.loop (.block 1 (.seq (.seq (.ops [(ot 18 0),(oc 19 49 [(.t 18)]),(oo 20 (.fld1 0 (.t 19))),(oO 21 (.bin .eql (.t 20) (.c (.int .i64 1))))]) (.cond (.t 21) (.dops [(oP (oo 22 (.fad 1 (.t 4)))),(⟨(oo 23 (.ld1 (.t 22))),(some (some (.t 22))),91,[]⟩,none),(oP (oo 24 (.len (.t 23)))),(oP (ot 25 0)),(⟨(oc 26 49 [(.t 25)]),(some none),0,[(2,91)]⟩,(some [])),(⟨(oc 27 77 [(.t 24),(.t 26)]),(some none),0,[]⟩,(some []))]) .skip)) (.seq (.dops [(oP (oo 28 (.fad 1 (.t 4)))),(⟨(oo 29 (.ld1 (.t 28))),(some (some (.t 28))),91,[]⟩,none),(oP (ot 30 0)),(⟨(oc 31 126 [(.t 30)]),(some none),0,[(1,91)]⟩,(some [])),(oP (oo 32 (.fld1 1 (.t 31)))),(oP (oo 33 (.buildS 1 1 [(.str [])] [((0,1),(.t 32))]))),(⟨(oo 34 (.app 1 16 (.t 29) (.t 33))),(some none),0,[]⟩,none),(oP (oo 35 (.fad 1 (.t 4)))),(⟨(os (.st 1 (.t 35) (.t 34))),(some none),0,[]⟩,none)]) (.seq (.ops [(ot 37 0),(oo 38 (.buildS 1 1 [(.str [])] [((0,1),(.c (.str [44])))])),(oc 39 76 [(.t 37),(.t 38)]),(ot 36 39),(oo 40 (.ext (.t 36) 0)),(oo 41 (.ext (.t 36) 1)),(oo 5 (.alloc [(.int .i64 0),(.str []),(.int .i64 0),(.int .i64 0),(.int .i64 0)])),(os (.st 5 (.t 5) (.t 40))),(oT 6 41)]) (.seq (.ops [(ot 42 6),(oO 43 (.un .not (.t 42)))]) (.cond (.t 43) (.seq (.ops [(ot 44 0),(oc 45 127 [(.t 44),(.c (.str [125]))])]) (.seq (.ops [(oo 46 (.ldA 4 (.t 4))),(os (.st 4 (.t 2) (.t 46)))]) .ret)) .skip))))))))))))
def y78:XF:=⟨[0],z78,[(.cA 2 4)]⟩
theorem x78:ju Qaf 78=some y78:=by kernel_rfl
def jel:XC:=(.seq (.seq (.ops [(ot 45 0),(oo 46 (.buildS 1 1 [(.str [])] [((0,1),(.c (.str [61])))])),(oc 47 76 [(.t 45),(.t 46)]),(ot 44 47),(oo 48 (.ext (.t 44) 0)),(oo 49 (.ext (.t 44) 1)),(oo 7 (.alloc [(.int .i64 0),(.str []),(.int .i64 0),(.int .i64 0),(.int .i64 0)])),(os (.st 5 (.t 7) (.t 48))),(oT 8 49)]) (.seq (.ops [(oT 50 8)]) (.cond (.t 50) (.ops [(ot 51 0),(oc 52 48 [(.t 51)]),(oo 53 (.buildS 1 6 [(.int .i64 0),(.int .i64 0),(.str []),.nils,(.int .i64 0),(.int .i64 0)] [((0,6),(.t 52))])),(oo 54 (.fad 4 (.t 4))),(os (.st 1 (.t 54) (.t 53)))]) .skip))) (.seq (.ops [(ot 55 0),(oc 56 127 [(.t 55),(.c (.str [59]))])]) (.seq (.ops [(oo 57 (.ldA 7 (.t 4))),(os (.st 7 (.t 2) (.t 57)))]) .ret)))
def jem:XC:=(.seq (.seq (.ops [(ot 21 0),(oo 22 (.buildS 1 1 [(.str [])] [((0,1),(.c (.str [98,111,111,108])))])),(oc 23 76 [(.t 21),(.t 22)]),(ot 20 23),(oo 24 (.ext (.t 20) 0)),(oo 25 (.ext (.t 20) 1)),(oo 5 (.alloc [(.int .i64 0),(.str []),(.int .i64 0),(.int .i64 0),(.int .i64 0)])),(os (.st 5 (.t 5) (.t 24))),(oT 6 25)]) (.seq (.ops [(oT 26 6)]) (.cond (.t 26) (.ops [(oo 27 (.fad 1 (.t 4))),(os (.st 1 (.t 27) (.c (.str [98,111,111,108]))))]) (.seq (.ops [(ot 28 0),(oc 29 49 [(.t 28)]),(oo 30 (.fld1 0 (.t 29))),(oO 31 (.bin .eql (.t 30) (.c (.int .i64 1))))]) (.cond (.t 31) (.ops [(ot 32 0),(oc 33 126 [(.t 32)]),(oo 34 (.fld1 1 (.t 33))),(oo 35 (.fad 1 (.t 4))),(os (.st 1 (.t 35) (.t 34)))]) (.seq (.ops [(ot 36 0),(oc 37 128 [(.t 36)]),(oo 38 (.fad 2 (.t 4))),(os (.st 1 (.t 38) (.t 37)))]) (.seq (.ops [(ot 39 0),(oc 40 127 [(.t 39),(.c (.str [46,46]))])]) (.ops [(ot 41 0),(oc 42 128 [(.t 41)]),(oo 43 (.fad 3 (.t 4))),(os (.st 1 (.t 43) (.t 42)))])))))))) jel)
def z79:XC:=(.seq (.ops [(oO 2 (.alloc [(.str []),(.str []),(.int .i64 0),(.int .i64 0),.nils,(.int .i64 0),(.int .i64 0)]))]) (.seq (.ops [(ot 9 0),(oc 10 126 [(.t 9)]),(oO 3 (.alloc [(.int .i64 0),(.str []),(.int .i64 0),(.int .i64 0),(.int .i64 0)])),(os (.st 5 (.t 3) (.t 10)))]) (.seq (.ops [(oo 11 (.fad 1 (.t 3))),(oo 12 (.ld1 (.t 11))),(oo 13 (.fad 3 (.t 3))),(oo 14 (.ld1 (.t 13))),(oo 15 (.fad 4 (.t 3))),(oo 16 (.ld1 (.t 15))),(oo 17 (.build [(.str []),(.str []),(.int .i64 0),(.int .i64 0),.nils,(.int .i64 0),(.int .i64 0)] [((0,1),(.t 12)),((5,1),(.t 14)),((6,1),(.t 16))])),(oO 4 (.alloc [(.str []),(.str []),(.int .i64 0),(.int .i64 0),.nils,(.int .i64 0),(.int .i64 0)])),(os (.st 7 (.t 4) (.t 17)))]) (.seq (.ops [(ot 18 0),(oc 19 127 [(.t 18),(.c (.str [58]))])]) jem))))
def y79:XF:=⟨[0],z79,[(.cA 2 7)]⟩
theorem x79:ju Qaf 79=some y79:=by kernel_rfl
def jaG:XC:=(.seq (.ops [(oO 2 (.alloc [(.int .i64 0),(.int .i64 0),(.str []),.nils,(.int .i64 0),(.int .i64 0),.nils]))]) (.seq (.ops [(ot 7 0),(oc 8 48 [(.t 7)]),(oo 9 (.build [(.int .i64 0),(.int .i64 0),(.str []),.nils,(.int .i64 0),(.int .i64 0),.nils] [((0,6),(.t 8))])),(oO 3 (.alloc [(.int .i64 0),(.int .i64 0),(.str []),.nils,(.int .i64 0),(.int .i64 0),.nils])),(os (.st 7 (.t 3) (.t 9)))]) (.seq (.ops [(ot 10 0),(oc 11 127 [(.t 10),(.c (.str [100,111]))])]) (.block 0 (.loop (.block 1 (.seq (.seq (.ops [(ot 12 0),(oc 13 49 [(.t 12)]),(oo 14 (.fld1 0 (.t 13))),(oO 15 (.bin .eql (.t 14) (.c (.int .i64 1))))]) (.cond (.t 15) (.dops [(oP (oo 16 (.fad 6 (.t 3)))),(⟨(oo 17 (.ld1 (.t 16))),(some (some (.t 16))),101,[]⟩,none),(oP (oo 18 (.len (.t 17)))),(oP (ot 19 0)),(⟨(oc 20 49 [(.t 19)]),(some none),0,[(2,101)]⟩,(some [])),(⟨(oc 21 77 [(.t 18),(.t 20)]),(some none),0,[]⟩,(some []))]) .skip)) (.seq (.ops [(ot 22 0),(oc 23 126 [(.t 22)]),(oO 4 (.alloc [(.int .i64 0),(.str []),(.int .i64 0),(.int .i64 0),(.int .i64 0)])),(os (.st 5 (.t 4) (.t 23)))]) (.seq (.ops [(ot 24 0),(oc 25 127 [(.t 24),(.c (.str [58,61]))])]) (.seq (.dops [(oP (oo 26 (.fad 6 (.t 3)))),(⟨(oo 27 (.ld1 (.t 26))),(some (some (.t 26))),101,[]⟩,none),(oP (oo 28 (.fad 1 (.t 4)))),(⟨(oo 29 (.ld1 (.t 28))),(some (some (.t 28))),9,[]⟩,none),(oP (ot 30 0)),(⟨(oc 31 48 [(.t 30)]),(some none),0,[(1,9),(3,101)]⟩,(some [(on 31),⟨(oo 32 (.fad 3 (.t 4))),none,0,[]⟩,⟨(oo 33 (.ld1 (.t 32))),(some (some (.t 32))),3,[(1,0)]⟩,⟨(oo 34 (.fad 4 (.t 4))),none,0,[]⟩,⟨(oo 35 (.ld1 (.t 34))),(some (some (.t 34))),3,[(3,0)]⟩,(on 36),(on 37),(on 38),(on 39),oN])),(oP (oo 32 (.fad 3 (.t 4)))),(⟨(oo 33 (.ld1 (.t 32))),(some (some (.t 32))),3,[(1,0)]⟩,none),(oP (oo 34 (.fad 4 (.t 4)))),(⟨(oo 35 (.ld1 (.t 34))),(some (some (.t 34))),3,[(3,0)]⟩,none),(oP (oo 36 (.build [(.str []),(.int .i64 0),(.int .i64 0),(.str []),.nils,(.int .i64 0),(.int .i64 0),(.int .i64 0),(.int .i64 0)] [((0,1),(.t 29)),((1,6),(.t 31)),((7,1),(.t 33)),((8,1),(.t 35))]))),(oP (oo 37 (.buildS 1 9 [(.str []),(.int .i64 0),(.int .i64 0),(.str []),.nils,(.int .i64 0),(.int .i64 0),(.int .i64 0),(.int .i64 0)] [((0,9),(.t 36))]))),(⟨(oo 38 (.app 9 104 (.t 27) (.t 37))),(some none),0,[]⟩,none),(oP (oo 39 (.fad 6 (.t 3)))),(⟨(os (.st 1 (.t 39) (.t 38))),(some none),0,[]⟩,none)]) (.seq (.ops [(ot 41 0),(oo 42 (.buildS 1 1 [(.str [])] [((0,1),(.c (.str [44])))])),(oc 43 76 [(.t 41),(.t 42)]),(ot 40 43),(oo 44 (.ext (.t 40) 0)),(oo 45 (.ext (.t 40) 1)),(oo 5 (.alloc [(.int .i64 0),(.str []),(.int .i64 0),(.int .i64 0),(.int .i64 0)])),(os (.st 5 (.t 5) (.t 44))),(oT 6 45)]) (.seq (.ops [(ot 46 6),(oO 47 (.un .not (.t 46)))]) (.cond (.t 47) (.seq (.ops [(ot 48 0),(oc 49 127 [(.t 48),(.c (.str [59]))])]) (.seq (.ops [(oo 50 (.ldA 7 (.t 3))),(os (.st 7 (.t 2) (.t 50)))]) .ret)) .skip)))))))))))))
def jaI:XF:=⟨[0],jaG,[(.cA 2 7)]⟩
theorem jey:ju Qaf 129=some jaI:=by kernel_rfl
def z80:XC:=(.seq (.ops [(oO 2 (.alloc [(.str []),.nils,(.int .i64 0),(.int .i64 0)]))]) (.seq (.ops [(ot 7 0),(oc 8 126 [(.t 7)]),(oO 3 (.alloc [(.int .i64 0),(.str []),(.int .i64 0),(.int .i64 0),(.int .i64 0)])),(os (.st 5 (.t 3) (.t 8)))]) (.seq (.ops [(oo 9 (.fad 1 (.t 3))),(oo 10 (.ld1 (.t 9))),(oo 11 (.fad 3 (.t 3))),(oo 12 (.ld1 (.t 11))),(oo 13 (.fad 4 (.t 3))),(oo 14 (.ld1 (.t 13))),(oo 15 (.build [(.str []),.nils,(.int .i64 0),(.int .i64 0)] [((0,1),(.t 10)),((2,1),(.t 12)),((3,1),(.t 14))])),(oO 4 (.alloc [(.str []),.nils,(.int .i64 0),(.int .i64 0)])),(os (.st 4 (.t 4) (.t 15)))]) (.seq (.ops [(ot 16 0),(oc 17 127 [(.t 16),(.c (.str [123]))])]) (.block 0 (.loop (.block 1 (.seq (.ops [(ot 19 0),(oo 20 (.buildS 1 1 [(.str [])] [((0,1),(.c (.str [119,104,101,110])))])),(oc 21 76 [(.t 19),(.t 20)]),(ot 18 21),(oo 22 (.ext (.t 18) 0)),(oo 23 (.ext (.t 18) 1)),(oO 5 (.alloc [(.int .i64 0),(.str []),(.int .i64 0),(.int .i64 0),(.int .i64 0)])),(os (.st 5 (.t 5) (.t 22))),(oT 6 23)]) (.seq (.seq (.ops [(ot 24 6),(oO 25 (.un .not (.t 24)))]) (.cond (.t 25) (.seq (.ops [(ot 26 0),(oc 27 127 [(.t 26),(.c (.str [125]))])]) (.seq (.ops [(oo 28 (.ldA 4 (.t 4))),(os (.st 4 (.t 2) (.t 28)))]) .ret)) .skip)) (.seq (.ops [(oo 29 (.fad 1 (.t 4))),(oo 30 (.ld1 (.t 29))),(oo 31 (.len (.t 30))),(oo 32 (.ldA 5 (.t 5))),(oc 33 77 [(.t 31),(.t 32)])]) (.dops [(oP (oo 34 (.fad 1 (.t 4)))),(⟨(oo 35 (.ld1 (.t 34))),(some (some (.t 34))),96,[]⟩,none),(oP (ot 36 0)),(⟨(oc 37 129 [(.t 36)]),(some none),0,[(1,96)]⟩,(some [])),(oP (oo 38 (.buildS 1 7 [(.int .i64 0),(.int .i64 0),(.str []),.nils,(.int .i64 0),(.int .i64 0),.nils] [((0,7),(.t 37))]))),(⟨(oo 39 (.app 7 96 (.t 35) (.t 38))),(some none),0,[]⟩,none),(oP (oo 40 (.fad 1 (.t 4)))),(⟨(os (.st 1 (.t 40) (.t 39))),(some none),0,[]⟩,none)])))))))))))
def y80:XF:=⟨[0],z80,[(.cA 2 4)]⟩
theorem x80:ju Qaf 80=some y80:=by kernel_rfl
def z37:XC:=(.seq (.ops [(oO 2 (.alloc [.nils,.nils,.nils]))]) (.seq (.ops [(oO 3 (.alloc [.nils,.nils,.nils]))]) (.block 0 (.loop (.block 1 (.seq (.ops [(ot 7 0),(oo 8 (.buildS 3 1 [(.str [])] [((0,1),(.c (.str [101,110,117,109]))),((1,1),(.c (.str [118,97,114]))),((2,1),(.c (.str [112,114,111,99,101,115,115])))])),(oc 9 76 [(.t 7),(.t 8)]),(ot 6 9),(oo 10 (.ext (.t 6) 0)),(oo 11 (.ext (.t 6) 1)),(oO 4 (.alloc [(.int .i64 0),(.str []),(.int .i64 0),(.int .i64 0),(.int .i64 0)])),(os (.st 5 (.t 4) (.t 10))),(oT 5 11)]) (.block 2 (.seq (.ops [(ot 25 5),(oo 26 (.un .not (.t 25))),(ot 27 26),(og 28 27 (.fad 0 (.t 4))),(og 29 27 (.ld1 (.t 28))),(og 30 27 (.bin .neq (.t 29) (.c (.int .i64 5)))),(oo 31 (.pick (.t 27) (.t 30) (.c (.bool false)))),(oT 24 31)]) (.cond (.t 24) (.ops [(oo 32 (.ldA 5 (.t 4))),(oc 33 50 [(.t 32)])]) (.seq (.ops [(ot 35 5),(oo 36 (.un .not (.t 35))),(oT 34 36)]) (.cond (.t 34) (.seq (.ops [(oo 37 (.ldA 3 (.t 3))),(os (.st 3 (.t 2) (.t 37)))]) .ret) (.seq (.ops [(oo 39 (.fad 1 (.t 4))),(oo 40 (.ld1 (.t 39))),(oo 41 (.strb .eql (.t 40) (.c (.str [101,110,117,109])))),(oT 38 41)]) (.cond (.t 38) (.seq (.ops [(oo 42 (.fad 0 (.t 3))),(oo 43 (.ld1 (.t 42))),(oo 44 (.len (.t 43))),(oo 45 (.ldA 5 (.t 4))),(oc 46 77 [(.t 44),(.t 45)])]) (.dops [(oP (oo 47 (.fad 0 (.t 3)))),(⟨(oo 48 (.ld1 (.t 47))),(some (some (.t 47))),23,[]⟩,none),(oP (ot 49 0)),(⟨(oc 50 78 [(.t 49)]),(some none),0,[(1,23)]⟩,(some [])),(oP (oo 51 (.buildS 1 4 [(.str []),.nils,(.int .i64 0),(.int .i64 0)] [((0,4),(.t 50))]))),(⟨(oo 52 (.app 4 56 (.t 48) (.t 51))),(some none),0,[]⟩,none),(oP (oo 53 (.fad 0 (.t 3)))),(⟨(os (.st 1 (.t 53) (.t 52))),(some none),0,[]⟩,none)])) (.seq (.ops [(oo 55 (.fad 1 (.t 4))),(oo 56 (.ld1 (.t 55))),(oo 57 (.strb .eql (.t 56) (.c (.str [118,97,114])))),(oT 54 57)]) (.cond (.t 54) (.seq (.ops [(oo 58 (.fad 1 (.t 3))),(oo 59 (.ld1 (.t 58))),(oo 60 (.len (.t 59))),(oo 61 (.ldA 5 (.t 4))),(oc 62 77 [(.t 60),(.t 61)])]) (.dops [(oP (oo 63 (.fad 1 (.t 3)))),(⟨(oo 64 (.ld1 (.t 63))),(some (some (.t 63))),24,[]⟩,none),(oP (ot 65 0)),(⟨(oc 66 79 [(.t 65)]),(some none),0,[(1,24)]⟩,(some [])),(oP (oo 67 (.buildS 1 7 [(.str []),(.str []),(.int .i64 0),(.int .i64 0),.nils,(.int .i64 0),(.int .i64 0)] [((0,7),(.t 66))]))),(⟨(oo 68 (.app 7 88 (.t 64) (.t 67))),(some none),0,[]⟩,none),(oP (oo 69 (.fad 1 (.t 3)))),(⟨(os (.st 1 (.t 69) (.t 68))),(some none),0,[]⟩,none)])) (.seq (.ops [(oo 12 (.fad 2 (.t 3))),(oo 13 (.ld1 (.t 12))),(oo 14 (.len (.t 13))),(oo 15 (.ldA 5 (.t 4))),(oc 16 77 [(.t 14),(.t 15)])]) (.dops [(oP (oo 17 (.fad 2 (.t 3)))),(⟨(oo 18 (.ld1 (.t 17))),(some (some (.t 17))),25,[]⟩,none),(oP (ot 19 0)),(⟨(oc 20 80 [(.t 19)]),(some none),0,[(1,25)]⟩,(some [])),(oP (oo 21 (.buildS 1 4 [(.str []),.nils,(.int .i64 0),(.int .i64 0)] [((0,4),(.t 20))]))),(⟨(oo 22 (.app 4 56 (.t 18) (.t 21))),(some none),0,[]⟩,none),(oP (oo 23 (.fad 2 (.t 3)))),(⟨(os (.st 1 (.t 23) (.t 22))),(some none),0,[]⟩,none)])))))))))))))))))
def y37:XF:=⟨[0],z37,[(.cA 2 3)]⟩
theorem x37:ju Qaf 37=some y37:=by kernel_rfl
def jek:XC:=(.block 0 (.seq (.ops [(oO 7 (.gen .eql 20 true (.t 5) (.c .nilif)))]) (.cond (.t 7) (.ops [(ot 2 5)]) (.seq (.ops [(oo 8 (.assert (.t 5) 30)),(oO 9 (.ext (.t 8) 1)),(oO 10 (.ext (.t 8) 0))]) (.cond (.t 9) (.seq (.ops [(oO 3 (.alloc [(.int .i64 0),(.int .i64 0),(.int .i64 0)])),(os (.st 3 (.t 3) (.t 10)))]) (.ops [(ot 11 0),(oo 12 (.ldA 3 (.t 3))),(oo 13 (.nilc (.t 11))),(os (.st 3 (.t 13) (.t 12)))])) (.seq (.ops [(oT 4 5)]) (.ops [(ot 6 4),⟨none,false,none,(.pan (.t 6))⟩])))))))
def jer:XH:=⟨[0],(some 5),true,[],jek,[]⟩
theorem jiN:ja9 Qaf 36=some jer:=by kernel_rfl
end Go.Sy
end
noncomputable section
set_option maxRecDepth 100000
namespace Go.Sy
open Go.Ev Go.Proofs
variable {base:Bs}
section
variable {P:Program} {e:En} {st:St} {K:AV->St->Prop}
def jbO (P:Program)(t:TypeId)(v:AV)(st:St):ER:=(Xb P (O v) t).run E0 st
theorem jjO (x:A)(t:TypeId):wK P base (.i (.assert x t)) e st K=on1 e x λv=>jf (jbO P t v st) K:=k_1 rfl (λ_=>rfl) K
end
theorem gt {P:Program}(res:List RV)(m:Md)(K:Md->St->Prop)(L:Sl)(st:St):jbB P res m K (.go L st)=q9 P res L st λ_=>K m st:=nr rfl
theorem jkl (t:Tk)(st:St)(K:AV->St->Prop):jf (jbO Qaf 30 (er t) st) K=K (.tup [.agg [.int .i64 151,.int .i64 (t.line:Int),.int .i64 (t.col:Int)],.bool true]) st:=by
 have:jbO Qaf 30 (er t) st=.ok (.tup [.agg [.int .i64 151,.int .i64 (t.line:Int),.int .i64 (t.col:Int)],.bool true]) st:=by kernel_rfl
 rw [this]; rfl
theorem jjZ (st:St)(K:AV->St->Prop):jf (Zw Qaf .eql 20 true .nilif .nilif st) K=K (.bool true) st:=by
 have:Zw Qaf .eql 20 true .nilif .nilif st=.ok (.bool true) st:=by kernel_rfl
 rw [this]; rfl
theorem jj0 (t:Tk)(st:St)(K:AV->St->Prop):jf (Zw Qaf .eql 20 true (er t) .nilif st) K=K (.bool false) st:=by
 have:Zw Qaf .eql 20 true (er t) .nilif st=.ok (.bool false) st:=by kernel_rfl
 rw [this]; rfl
theorem jgK {P:Program}{f:FuncId}{xs:List AV}{m m1:Md}{st s1:St}(h:∀ K:Md->St->Prop,K m1 s1->DX P base f xs m st K)(K:Md->St->Prop):DX P base f xs m st K=K m1 s1:=by
 refine propext ⟨λ⟨m2,s2,⟨N2,D2,h2⟩,h3⟩=>?_,h K⟩;obtain ⟨m',s',⟨N,D,h1⟩,rfl,rfl⟩:=h (λm' s'=>m'=m1∧s'=s1) ⟨rfl,rfl⟩;have e1:=h1 (max N N2) (QaI ..) (max D D2) (QaI ..);have e2:=h2 (max N N2) (QaE ..) (max D D2) (QaE ..);rw [e1] at e2;cases e2;exact h3
theorem Hy {fb:Nat}(st:St)(hfr:st.fr=[])(K:Md->St->Prop):DX Qaf base 36 [.ptr fb 0] .calm st K=K .calm st:=by
 refine jgK (λK hK=>?_) K;refine Ka jiN (by rfl) hfr ?_;simp only [jer,jj,Qai,Qam,Qag,Xj,XO];unfold jek;try dsimp only [oo,oO,ot,oT,os,og,oh,oc,on,oN,oP]
 repeat' (first | (apply jc <;> intro _) | simp (disch:=first | exact dzD | fail) only [jjZ,gt,je,Tk.cells_R,rzZ,Qab,Qac,Qad,Qaa,Qae])
 exact hK
theorem jbH {fb:Nat}(t:Tk){cs:List AV}(st:St)(hfr:st.fr=[])(C:Cl st fb cs)(hcs:cs.length=3)(K:Md->St->Prop) :
  DX Qaf base 36 [.ptr fb 0] (.pan (er t)) st K=K .done (wr (wr (nw st [.int .i64 0,.int .i64 0,.int .i64 0]) st.nx 0 [.int .i64 151,.int .i64 (t.line:Int),.int .i64 (t.col:Int)]) fb 0 [.int .i64 151,.int .i64 (t.line:Int),.int .i64 (t.col:Int)]):=by
 refine jgK (λK hK=>?_) K;refine Ka jiN (by rfl) hfr ?_;simp only [jer,jj,Qai,Qam,Qag,Xj,XO];unfold jek;try dsimp only [oo,oO,ot,oT,os,og,oh,oc,on,oN,oP]
 have hl:=C.lt;have l0:=C.len;have hne:¬ fb=st.nx:=by omega
 (have zz:=aI @l0 @hcs; (repeat' (first | (apply jc <;> intro _) | simp (disch:=first | exact qz | fail) only [jj0,jjO,jkl,gt,l0,hcs,je,Tk.cells_R,rzZ,Qab,Qac,Qad,Qaa,Qae])); (all_goals (clear zz)))
 exact hK
end Go.Sy
end
noncomputable section
set_option maxRecDepth 100000
namespace Go.Sy
open Go.Ev Go.Proofs
variable {base:Bs}
theorem ZC {fb:Nat}(st:St)(K:Md->St->Prop):DX Qaf base 36 [.ptr fb 0] .calm st.bare K=K .calm st.bare:=Hy st.bare rfl K
theorem vq {fb:Nat}(t:Tk)(st:St)(h:qq st.h fb=3)(hn:fb<st.nx)(K:Md->St->Prop) :
  DX Qaf base 36 [.ptr fb 0] (.pan (er t)) st.bare K=K .done (wr (wr (nw st.bare [.int .i64 0,.int .i64 0,.int .i64 0]) st.nx 0 [.int .i64 151,.int .i64 (t.line:Int),.int .i64 (t.col:Int)]) fb 0 [.int .i64 151,.int .i64 (t.line:Int),.int .i64 (t.col:Int)]):=
 have C:Cl st fb (rats st.h fb 0 3):=Cl.of_rats hn h (XU _ _ _ _) (by decide) rfl
 jbH t st.bare rfl C.bar (XU _ _ _ _) K
theorem jkL:Go.Ev.isAgg Qaf 30=some true:=by kernel_rfl
theorem jkK:Go.Ev.sizeOf Qaf 30=some 3:=by kernel_rfl
theorem UG {b:Nat}{x y z:Int}{h:T AO}(ho:0+3≤qq h b)(hv:rats h b 0 3=[.int .i64 x,.int .i64 y,.int .i64 z]):(jX Qaf 30 (.ptr b 0) (.agg [.int .i64 x,.int .i64 y,.int .i64 z]) h=true)=True:=eq_true (Zj jkL jkK (by decide) ho hv rfl)
theorem jaR {b:Nat}{x y z w:Int}{n:List Nat}{h:T AO}(ho:0+6≤qq h b)(hv:rats h b 0 6=[.int .i64 x,.int .i64 y,.str n,.nils,.int .i64 z,.int .i64 w]):(jX Qaf 37 (.ptr b 0) (.agg [.int .i64 x,.int .i64 y,.str n,.nils,.int .i64 z,.int .i64 w]) h=true)=True:=eq_true (Zj Kz Ky (by decide) ho hv rfl)
section
variable {P:Program} {st:St} {K Kp:AV->St->Prop}
theorem XG {f:FuncId}{vs:List AV}(h:st.fr=[(f,vs)])(res:List RV)(v:AV)(L:Sl):VC P base res K Kp v L st=DX P base f vs (.pan v) st.bare λm' st'=>(match m' with
  | .calm=>q9 P res L st'.bare λvs=>K (yZ vs) st'.bare
  | .pan v=>Kp v st'.bare
  | .done=>q9 P res L st'.bare λvs=>K (yZ vs) st'.bare):=by
 have:VC P base res K Kp v L st=yp P base res K Kp [(f,vs)] L st.bare (.pan v):=by show yp P base res K Kp st.fr L st.bare (.pan v)=_; rw [h]
 rw [this,gp];rfl
theorem QT {f:FuncId}{vs:List AV}(h:st.fr=[(f,vs)])(res:List RV)(L:Sl):GM P base res K Kp (.rt L st)=DX P base f vs .calm st.bare λm' st'=>(match m' with
  | .calm=>q9 P res L st'.bare λvs=>K (yZ vs) st'.bare
  | .pan v=>Kp v st'.bare
  | .done=>q9 P res L st'.bare λvs=>K (yZ vs) st'.bare):=by
 have:GM P base res K Kp (.rt L st)=yp P base res K Kp [(f,vs)] L st.bare .calm:=by show yp P base res K Kp st.fr L st.bare .calm=_; rw [h]
 rw [this,gp];rfl
theorem QU (h:st.fr=[])(res:List RV)(L:Sl):GM P base res K Kp (.rt L st)=q9 P res L st.bare λvs=>K (yZ vs) st.bare:=by
 show yp P base res K Kp st.fr L st.bare .calm=_;rw [h];rfl
end
theorem jjY {s:St}{x:Ex}{q:Nat×Nat×Nat}{cs ds:List AV}(h:cs=eE x)(h2:ds=zm q):G0 (.tup [.agg (eE x),.agg (zm q)]) (.tup [.agg cs,.agg ds]) s:=by
 subst h h2;exact FzD.tup (.cons (.agg (.pc (zn x))) (.cons (.agg (.pc (by rfl))) .nil))
theorem GI {s:St}{q:Nat×Nat×Nat}{ds:List AV}(h2:ds=zm q):G0 (.tup [.agg (eE (.mk 0 0 [] [] 0 0)),.agg (zm q)]) (.tup [.agg [.int .i64 0,.int .i64 0,.str [],.nils,.int .i64 0,.int .i64 0],.agg ds]) s:=by
 subst h2;exact FzD.tup (.cons W0 (.cons (.agg (.pc (by rfl))) .nil))
def ex0:Ex:=.mk 0 0 [] [] 0 0
def QO (l:List Nat):Ex×(Nat×Nat×Nat):=
 if (j7 l).2.1≠0 then (ex0,(j7 l).2) else match zj (j7 l).1 0 with
  | .er t=>(ex0,(151,t.line,t.col))
  | .ok x j=>if (tk (j7 l).1 j).kind=5 then (x,(0,0,0)) else (ex0,(151,(tk (j7 l).1 j).line,(tk (j7 l).1 j).col))
theorem zC {ts:List Tk}(W:Wds ts){i j:Nat}{x:Ex}(hi:i<ts.length)(h:zj ts i=.ok x j):i+1≤j∧j<ts.length∧x.ev (atW ts)∧yc 60 x=true:=by
 obtain ⟨r,hg,hr⟩:=evR W hi;rw [vX hr] at h;unfold Vf at h;cases r with
 | er t=>cases h
 | ok y k=>
  dsimp only at h;by_cases c:yc 60 y=true
  ·rw [if_pos c] at h; cases h; exact ⟨hg.1,hg.2.1,hg.2.2,c⟩
  ·rw [if_neg c] at h; cases h
set_option maxHeartbeats 4000000 in
theorem jeh (hb:NB base)(hP:PI base)(l:List Nat)(hl:l.length≤9223372036854775807)(hW:(j7 l).2.1=0->Wds (j7 l).1∧(j7 l).1≠[]∧(j7 l).2=(0,0,0)) :
  Tot base 15 [.str l] (.tup [.agg (eE (QO l).1),.agg (zm (QO l).2)]):=by
 refine hb.tot ?_ rfl rfl;refine gP x15 (hb.pur 15 1 (by decide)) ?_;simp only [y15,jj,Qai,Qam,Qag,Qah];unfold z15;try dsimp only [oo,oO,ot,oT,os,og,oh,oc,on,oN,oP]
 have hC:=jgU hb hP l hl;have f0:(zm (j7 l).2)=[.int .i64 ((j7 l).2.1:Int),.int .i64 ((j7 l).2.2.1:Int),.int .i64 ((j7 l).2.2.2:Int)]:=rfl;by_cases he:(j7 l).2.1=0
 ·obtain ⟨W,hne,hz⟩:=hW he;have hi:0<(j7 l).1.length:=List.length_pos_iff.2 hne;have A:=u0 hb W hi;unfold QO;rw [if_neg (by simp [he])];rw [hz] at hC;generalize (j7 l).1=ts at *;have fz:zm (0,0,0)=[.int .i64 0,.int .i64 0,.int .i64 0]:=rfl;rw [fz] at hC;cases hr:zj ts 0 with
  | er t=>
   rw [hr] at A;obtain ⟨i',d',A⟩:=A;have E:∀ st p,Cl st p [.lst ts.length (fl Tk.cells ts),.int .i64 0,.int .i64 0]->∀ K Kp,XB Qaf base 48 [.ptr p 0] st K Kp=_:=λst p C K Kp=>A.xb C rfl (λst=>hb.no 48 (by decide) _ _) K Kp;unfold pC at *;repeat' (first | (apply jc <;> intro _) | simp (disch:=first | exact dzD | fail) only [hC,E,w5,XG (f:=36) (vs:=[.ptr 1 0]),QT (f:=36) (vs:=[.ptr 1 0]),QU,ZC,vq,je,Tk.cells_R,rzZ,Qab,Qac,Qad,Qaa,Qae])
   exact GI rfl
  | ok x j=>
   rw [hr] at A;have A:PM _ _ _ _ _ _ _:=A;have hj:j<ts.length:=(zC W hi hr).2.1;have hN:=λst p=>@Xn base hb ts j 0 hj st p;have E:∀ st p,Cl st p [.lst ts.length (fl Tk.cells ts),.int .i64 0,.int .i64 0]->∀ K Kp,XB Qaf base 48 [.ptr p 0] st K Kp=_:=λst p C K Kp=>A.xb C rfl (λst=>hb.no 48 (by decide) _ _) K Kp;dsimp only;by_cases k5:(tk ts j).kind=5
   ·rw [if_pos k5];have k5':((tk ts j).kind:Int)=5:=by omega
    unfold pC at *
    (have zz:=@Yw; (repeat' (first | (apply jc <;> intro _) | simp (disch:=first | exact qz | fail) only [hC,E,hN,k5',w5,XG (f:=36) (vs:=[.ptr 1 0]),QT (f:=36) (vs:=[.ptr 1 0]),QU,ZC,vq,Z9,jaR,UG,←qH,Yw,je,Tk.cells_R,rzZ,Qab,Qac,Qad,Qaa,Qae])); (all_goals (clear zz)))
    exact jjY rfl rfl
   ·rw [if_neg k5];have k5':¬ ((tk ts j).kind:Int)=5:=by omega
    unfold pC at *;repeat' (first | (apply jc <;> intro _) | simp (disch:=first | exact dzD | fail) only [hC,E,hN,k5',Jr hb,w5,XG (f:=36) (vs:=[.ptr 1 0]),QT (f:=36) (vs:=[.ptr 1 0]),QU,ZC,vq,Z9,jaR,UG,je,Tk.cells_R,rzZ,Qab,Qac,Qad,Qaa,Qae])
    exact GI rfl
 ·have he':¬ ((j7 l).2.1:Int)=0:=by omega
  unfold QO;rw [if_pos he];rw [f0] at hC;generalize (j7 l).1=ts at *;repeat' (first | (apply jc <;> intro _) | simp (disch:=first | exact dzD | fail) only [hC,he',w5,XG (f:=36) (vs:=[.ptr 1 0]),QT (f:=36) (vs:=[.ptr 1 0]),QU,ZC,vq,Z9,jaR,UG,je,Tk.cells_R,rzZ,Qab,Qac,Qad,Qaa,Qae])
  exact GI rfl
end Go.Sy
end
