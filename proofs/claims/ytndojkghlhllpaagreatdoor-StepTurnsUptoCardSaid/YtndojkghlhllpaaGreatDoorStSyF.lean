/-
  Contracts: the code lowered, what it does told by rules, and the contracts of the functions that the law reaches.
-/
import Derived.Test.YtndojkghlhllpaaGreatDoorStSyE
import Derived.Shelf.LaysC
import Derived.Shelf.Strconv.ParseIntPublic10
import Derived.Test.YtndojkghlhllpaaGreatDoorProg
import Derived.Shelf.RegionOpenPlain
import Derived.WalkKit
import Derived.Deep.LoopGhost
import Derived.Lib.Walk
import Derived.Lib.SliceRun
import Derived.KernelRfl
set_option linter.unusedVariables false
set_option linter.unusedSimpArgs false
open Go.Proofs.Tryz renaming prog → γ
open Nat renaming reduceAdd → δ, reduceSub → ε, reduceMul → ζ, reduceBEq → θ, le_refl → τ, le_trans → Qab, zero_le → Qae, zero_add → Qal, le_max_left → Qas, le_max_right → Qat, lt_or_ge → Qau, mul_le_mul_right → Qaw, lt_of_lt_of_le → Qax, not_lt_zero → QaG, add_mul → QaK, sub_zero → QaM, zero_mul → QaQ, succ_mul → QaS, succ_pos → QaT, le_of_eq → QaU, mul_one → Qbd, lt_irrefl → Qbf, min_eq_left → Qbh, ne_of_lt → Qbk, add_assoc → Qbl, add_zero → Qbn, mod_eq_of_lt → Qbp, one_mul → Qbs, succ_lt_succ → Qbw, add_comm → QbE, le_of_lt → QbI, lt_succ_self → QbU, lt_trichotomy → Qcb, le_succ_of_le → Qcg, beq → Qcn, succ → Qco, ble → Qcp, add → Qcq, mul → Qcr, sub → Qcs
open Int renaming reduceToNat → η, natCast_zero → ψ, zero_add → ω, ofNat → Qay, eq_ofNat_of_zero_le → Qbt, natCast_nonneg → QbN, toNat_natCast → QbP
open List renaming map_cons → κ, map_nil → μ, getD_cons_zero → ν, getD_cons_succ → ξ, length_cons → υ, length_append → φ, length_nil → χ, getD → Qac, getElem_mem → Qad, cons_append → Qaf, take_length → Qag, range' → Qah, all_eq_true → Qai, getElem?_eq_getElem → Qaj, range → Qak, nil_append → Qam, length_take → Qan, getD_eq_getElem?_getD → Qap, cons → Qaq, length_map → Qar, mem_append → Qaz, length_drop → QaC, all_cons → QaD, take_zero → QaF, append_assoc → QaH, mem_map → QaI, eq_nil_of_length_eq_zero → QaN, append_nil → QaP, map_congr_left → QaV, mem_cons → QaW, map_append → QaX, all_append → QaY, foldl_append → Qba, map_map → Qbb, drop_zero → Qbe, take_append_drop → Qbg, range'_succ → Qbi, mem_singleton → Qbm, drop_drop → Qbo, foldl_cons → Qbr, getElem_cons_zero → Qbu, length_pos_iff → Qbx, getElem_cons_drop → Qby, getElem?_take → Qbz, ext_getElem → QbA, mem_iff_getElem → QbB, getElem?_map → QbD, map_toArray → QbF, mem_range → QbH, getElem_cons_succ → QbJ, getElem?_drop → QbK, mem_of_mem_take → QbL, take_take → QbM, foldr_cons → QbO, length_range → QbQ, take_add_one → QbR, flatMap_cons → QbS, mem_cons_of_mem → QbV, drop_length → QbW, getElem?_append_left → QbY, getElem?_append_right → QbZ, countP_singleton → Qcd, take_succ_cons → Qce, take_of_length_le → Qcf, drop_eq_getElem_cons → Qcj, getElem_append_left → Qck, getElem_append_right → Qcl
open Bool renaming and_eq_true → Qaa, or_eq_true → Qav, eq_iff_iff → QaE, false_eq_true → QaO, not_eq_true' → QaR, or_eq_false_iff → Qbj, true_eq_false → Qbv
open Array renaming length_toList → Qao, getElem?_eq_some_iff → QaA, replicate → QaL, toList_map → Qbq, getElem?_toList → QbG, getD_eq_getD_getElem? → QbT, toList_append → Qca, mem_toList_iff → Qcc, getElem?_eq_getElem → Qch, getElem?_setIfInBounds_ne → Qci
open Option renaming map_some → QaB, getD_some → QaJ, bind_some → QaZ, map_none → Qbc, map_eq_some_iff → QbC, isSome_iff_exists → Qcm
open Function renaming comp_def → QbX
noncomputable section
set_option maxRecDepth 100000
namespace Go.Sy
open Go.Ev Go.Proofs
variable {base:Bs}
def In1 (s:St)(lo hi b0:Nat)(x:AV)(l:SvT):Prop:=x=svV l\/∃ c ex,x=.slice c 0 l.length l.length 1 ex/\Cl s c (l.map (.int .i64))/\lo<=c/\c<hi/\c≠b0
def InL (s:St)(lo hi b0:Nat):List AV->List SvT->Prop
 |[],[]=>True
 |x :: xs,l :: ls=>In1 s lo hi b0 x l/\InL s lo hi b0 xs ls
 |_,_=>False
structure ApX (lo hi:Nat)(s s':St):Prop where
 nx:s.nx<=s'.nx
 fr:s'.fr=s.fr
 cl:∀ c ds,(c<lo\/hi<=c)->Cl s c ds->Cl s' c ds
section
variable {lo hi b0:Nat} {s s':St}
theorem InL.mono {lo' hi' b1:Nat}:∀ {xs:List AV} {ls:List SvT},InL s lo hi b0 xs ls->(∀ x l,In1 s lo hi b0 x l->In1 s' lo' hi' b1 x l)->InL s' lo' hi' b1 xs ls
 |[],[],h,f=>trivial
 |x :: xs,l :: ls,h,f=>⟨f _ _ h.1,InL.mono h.2 f⟩
 |[],_ :: _,h,f=>h.elim
 |_ :: _,[],h,f=>h.elim
theorem InL.len:∀ {xs:List AV} {ls:List SvT},InL s lo hi b0 xs ls->xs.length=ls.length
 |[],[],_=>rfl
 |x :: xs,l :: ls,h=>by rw[υ,υ,InL.len h.2]
 |[],_ :: _,h=>h.elim
 |_ :: _,[],h=>h.elim
theorem InL.app {x:AV}{l:SvT}(h1:In1 s lo hi b0 x l):∀ {xs:List AV} {ls:List SvT},InL s lo hi b0 xs ls->InL s lo hi b0 (xs ++ [x]) (ls ++ [l])
 |[],[],_=>⟨h1,trivial⟩
 |y :: xs,k :: ls,h=>⟨h.1,InL.app h1 h.2⟩
 |[],_ :: _,h=>h.elim
 |_ :: _,[],h=>h.elim
theorem InL.get:∀ {xs:List AV} {ls:List SvT} {k:Nat} (hk:k<ls.length) (h:InL s lo hi b0 xs ls),In1 s lo hi b0 (xs.getD k .bad) ls[k]
 |x :: xs,l :: ls,0,_,h=>h.1
 |x :: xs,l :: ls,k+1,hk,h=>InL.get (xs:=xs) (ls:=ls) (k:=k) (by simpa using hk) h.2
 |[],_ :: _,_,_,h=>h.elim
 |_ :: _,[],k,hk,_=>absurd hk (QaG k)
 |[],[],k,hk,_=>absurd hk (QaG k)
theorem In1.fz {m d:Nat}{x:AV}{l:SvT}(h:In1 s lo hi b0 x l)(hm:m<=lo):FzD m (d+2) s x (svV l):=by
 rcases h with rfl|⟨c,ex,rfl,C,h1,_⟩
 ·exact FzD.pa (jpH l)
 ·refine FzD.slice C.rw_ (by simp) om ?_;rw[Qcf (by simp)];exact FzsD.pc (XN _)
theorem InL.fz {m d:Nat}(hm:m<=lo):∀ {xs:List AV} {ls:List SvT},InL s lo hi b0 xs ls->FzsD m (d+2) s xs (fl svE ls)
 |[],[],_=>FzsD.nil
 |x :: xs,l :: ls,h=>FzsD.cons (h.1.fz hm) (InL.fz hm h.2)
 |[],_ :: _,h=>h.elim
 |_ :: _,[],h=>h.elim
end
theorem jrv {b n z bytes bv xc:Nat}{s:St}{cs news:List AV}{xx:Bool}{K:AV->St->Prop}(C:Cl s b cs)(hl:cs.length=n * z)(hz:0<z)(hby:(n+1) * bytes<=140737488355328)(h63:n+1<=9223372036854775807)(hv:z<=qu s.h bv)(hr:rats s.h bv 0 z=news) :
  jk (J8 z bytes (.slice b 0 n n z true) (.slice bv 0 1 xc z xx) s) K=K (.slice s.nx 0 (n+1) (n+1) z false) (nw s (cs ++ news)):=by
 obtain⟨m,zl,zz,ks,hg⟩:=Qy (h:=s.h) (b:=bv) om;rw[yL hg] at hv;have e0:Qcr 1 z=z:=Qbs z;have e1:Qcp (Qcq 0 z) m=true:=qE (by show 0+z<=m;omega);have er:jQ zl zz ks z 0=news:=by
  rw[<-hr,Qj,qt];exact QaV λi _=>by rw[JS hg]
 have el:news.length=z:=by rw[<-hr];exact J6 _ _ _ _
 have e3:Qcn (jR news) z=true:=Zh (by rw[jO,el]);obtain⟨m',zl',zz',ks',hg'⟩:=C.row;have h4l:=C.len;rw[yL hg'] at h4l;have f4:Qcp (Qcq n 1) n=false:=jbm (by show n<n+1;omega);have f5:Qcp (Qcr (Qcq n 1) bytes) 140737488355328=true:=qE hby;have f6:Qcp (Qcq n 1) 9223372036854775807=true:=qE h63;have e7:Qcp (Qcq 0 (Qcr n z)) m'=true:=qE (by show 0+n * z<=m';omega);have e8:jQ zl' zz' ks' (Qcr n z) 0=cs:=by
  have h:=C.rats0 hl;rw[Qj] at h;rw[qt,<-h];exact QaV λi _=>by rw[JS hg']
 have e9:yR cs news=cs ++ news:=by rw[yC]
 have e10:Qcr (Qcq n 1) z=(cs ++ news).length:=by rw[φ,hl,el];exact QaS n z
 simp only[J8,zX,firstCells,hg,hg',ym,jG,e0,e1,cond_true,er,q7,e3,f4,f5,f6,cond_false,e7,e8,e9,e10,St.alloc_eq,jk];rfl
def LL (lo hi:Nat)(s:St)(v:AV)(ls:List SvT):Prop:=(ls=[]/\(v=.nils\/∃ b,v=.slice b 0 0 0 1 true/\Cl s b []/\lo<=b/\b<hi))\/∃ b cs ex,v=.slice b 0 ls.length ls.length 1 ex/\ls≠[]/\Cl s b cs/\lo<=b/\b<hi/\InL s lo hi b cs ls
section
variable {lo hi:Nat} {s s':St} {v:AV} {ls:List SvT}
theorem LL.len {b:Nat}{n m:Nat}{x:Bool}(h:LL lo hi s (.slice b 0 n m 1 x) ls):n=ls.length:=by
 rcases h with ⟨rfl,h|⟨c,h,_⟩⟩|⟨c,cs,ex,h,_⟩
 ·cases h
 ·cases h;rfl
 ·cases h;rfl
theorem LL.lenV {K:AV->St->Prop}(h:LL lo hi s v ls)(st:St):jk (lenV v st) K=K (.int .i64 (ls.length:Int)) st:=by
 rcases h with ⟨rfl,rfl|⟨c,rfl,_⟩⟩|⟨c,cs,ex,rfl,_⟩<;>rfl
theorem LL.keep (h:LL lo hi s v ls){lo2 hi2:Nat}(a:ApX lo2 hi2 s s')(hh:hi<=lo2\/hi2<=lo):LL lo hi s' v ls:=by
 rcases h with ⟨rfl,rfl|⟨b,rfl,C,h1,h2⟩⟩|⟨b,cs,ex,rfl,hn,C,h1,h2,I⟩
 ·exact .inl ⟨rfl,.inl rfl⟩
 ·exact .inl ⟨rfl,.inr ⟨b,rfl,a.cl _ _ om C,h1,h2⟩⟩
 ·refine .inr ⟨b,cs,ex,rfl,hn,a.cl _ _ om C,h1,h2,I.mono λx l k=>?_⟩;rcases k with rfl|⟨c,ex,rfl,D,k1,k2,k3⟩
  ·exact .inl rfl
  ·exact .inr ⟨c,ex,rfl,a.cl _ _ om D,k1,k2,k3⟩
theorem LL.up {hi':Nat}(h:LL lo hi s v ls)(hh:hi<=hi'):LL lo hi' s v ls:=by
 rcases h with ⟨rfl,rfl|⟨b,rfl,C,h1,h2⟩⟩|⟨b,cs,ex,rfl,hn,C,h1,h2,I⟩
 ·exact .inl ⟨rfl,.inl rfl⟩
 ·exact .inl ⟨rfl,.inr ⟨b,rfl,C,h1,om⟩⟩
 ·refine .inr ⟨b,cs,ex,rfl,hn,C,h1,om,I.mono λx l k=>?_⟩;rcases k with rfl|⟨c,ex,rfl,D,k1,k2,k3⟩
  ·exact .inl rfl
  ·exact .inr ⟨c,ex,rfl,D,k1,om,k3⟩
theorem LL.down {lo':Nat}(h:LL lo hi s v ls)(hh:lo'<=lo):LL lo' hi s v ls:=by
 rcases h with ⟨rfl,rfl|⟨b,rfl,C,h1,h2⟩⟩|⟨b,cs,ex,rfl,hn,C,h1,h2,I⟩
 ·exact .inl ⟨rfl,.inl rfl⟩
 ·exact .inl ⟨rfl,.inr ⟨b,rfl,C,om,h2⟩⟩
 ·refine .inr ⟨b,cs,ex,rfl,hn,C,om,h2,I.mono λx l k=>?_⟩;rcases k with rfl|⟨c,ex,rfl,D,k1,k2,k3⟩
  ·exact .inl rfl
  ·exact .inr ⟨c,ex,rfl,D,om,k2,k3⟩
theorem ApX.nw (s:St)(ds:List AV):ApX s.nx (s.nx+1) s (nw s ds):=⟨by rw[jg];omega,W7 _ _,λc cs hc C=>C.nw ds⟩
theorem ApX.wr (s:St)(b o:Nat)(vs:List AV):ApX b (b+1) s (wr s b o vs):=⟨τ _,rfl,λc cs hc C=>C.wrO om o vs⟩
theorem ApX.of {lo2:Nat}(a:ApL lo2 s s'):ApX lo2 s'.nx s s':=⟨a.nx,a.fr,λc ds hc C=>by
 rcases hc with hc|hc
 ·exact a.cl c ds hc C
 ·exact absurd C.lt (by have:=a.nx;omega)⟩
theorem LL.fzd {m d:Nat}(h:LL lo hi s v ls)(hm:m<=lo):FzD m (d+3) s v (.lst ls.length (fl svE ls)):=by
 rcases h with ⟨rfl,rfl|⟨b,rfl,C,h1,h2⟩⟩|⟨b,cs,ex,rfl,hn,C,h1,h2,I⟩
 ·exact FzD.nils
 ·exact FzD.slice C.rw_ (by simp) om FzsD.nil
 ·refine FzD.slice C.rw_ (by rw[I.len];omega) om ?_;rw[Qcf (by rw[I.len];omega)];exact I.fz hm
theorem LL.lend (h:LL lo hi s v ls):lend s.h v=some (.lst ls.length (fl svE ls)):=by
 obtain⟨ks,h1,_⟩:=h.fzd (m:=0) (d:=6) (Qae _);rcases h with ⟨rfl,rfl|⟨b,rfl,_⟩⟩|⟨b,cs,ex,rfl,_⟩
 ·rfl
 ·show(fz 9 s.h _).map (·.1)=_;rw[h1];rfl
 ·show(fz 9 s.h _).map (·.1)=_;rw[h1];rfl
theorem LL.app {bytes bv xc:Nat}{xx:Bool}{x:AV}{l:SvT}(h:LL lo hi s v ls)(C:Cl s bv [x])(hx:x=svV l\/∃ c ex,x=.slice c 0 l.length l.length 1 ex/\Cl s c (l.map (.int .i64))/\lo<=c/\hi<=c)(hl:lo<=s.nx)(hhi:hi<=s.nx)(hby:(ls.length+1) * bytes<=140737488355328)(h63:ls.length+1<=9223372036854775807) :
  ∃ v' s',(∀ K:AV->St->Prop,jk (J8 1 bytes v (.slice bv 0 1 xc 1 xx) s) K=K v' s')/\LL lo s'.nx s' v' (ls ++ [l])/\ApX lo hi s s':=by
 have hr:rats s.h bv 0 1=[x]:=by have:=C.ratsP 1 0 (by simp);simpa using this
 have hv1:1<=qu s.h bv:=by rw[C.len];exact τ 1
 have new1:∀ {s'':St},(∀ c ds,hi<=c->Cl s c ds->Cl s'' c ds)->s''.nx=s.nx+1->In1 s'' lo s''.nx s.nx x l:=λ{s''} hk hn=>by
  rcases hx with rfl|⟨c,ex,rfl,D,k0,k1⟩
  ·exact .inl rfl
  ·exact .inr ⟨c,ex,rfl,hk _ _ k1 D,by have:=D.lt;omega,by have:=D.lt;omega,Qbk D.lt⟩
 have start:∀ w,(w=v\/w=.nils)->LL lo hi s v ls->ls=[]->Lx lo hi s v .nils 0 [] 1->∃ v' s',(∀ K:AV->St->Prop,jk (J8 1 bytes v (.slice bv 0 1 xc 1 xx) s) K=K v' s')/\LL lo s'.nx s' v' (ls ++ [l])/\ApX lo hi s s':=λw _ _ e X=>by
  subst e;refine⟨apv 1 .nils s,aps .nils s (rats s.h bv 0 1),λK=>jds X dc hby h63 hv1,?_,?_⟩
  ·rw[hr];exact .inr ⟨s.nx,[x],false,rfl,by simp,Cl.new s _,hl,by rw[jm];omega,⟨new1 (λc ds _ D=>D.nw _) (jm _ _ _),trivial⟩⟩
  ·exact⟨by rw[jm];omega,by rw[Z0],λc ds _ D=>D.nw _⟩
 have h0:=h;rcases h with ⟨e,rfl|⟨b,rfl,D,h1,h2⟩⟩|⟨b,cs,ex,rfl,hn,D,h1,h2,I⟩
 ·exact start .nils (.inl rfl) h0 e ⟨Lv.nil,.inl rfl⟩
 ·exact start _ (.inl rfl) h0 e ⟨Lv.nil,.inr ⟨rfl,b,rfl,D,h1,h2⟩⟩
 ·have fin:∀ s':St,s'.nx=s.nx+1->s'.fr=s.fr->(∀ c ds,c≠b->Cl s c ds->Cl s' c ds)->Cl s' s.nx (cs ++ [x])->LL lo s'.nx s' (.slice s.nx 0 (ls.length+1) (ls.length+1) 1 false) (ls ++ [l])/\ApX lo hi s s':=λs' en ef ek eC=>by
   refine⟨.inr ⟨s.nx,cs ++ [x],false,by simp,by simp,eC,hl,om,InL.app (new1 (λc ds hc E=>ek _ _ om E) en) (I.mono λy k q=>?_)⟩,⟨om,ef,λc ds hc E=>ek _ _ om E⟩⟩;rcases q with rfl|⟨c,ex,rfl,E,k1,k2,k3⟩
   ·exact .inl rfl
   ·exact .inr ⟨c,ex,rfl,ek _ _ k3 E,k1,by have:=E.lt;omega,Qbk E.lt⟩
  cases ex with
  |false=>
   have V:Lv lo hi s (.slice b 0 ls.length ls.length 1 false) ls.length cs 1:=.inr ⟨b,rfl,Qbx.2 hn,by rw[I.len];omega,D,h1,h2⟩;refine⟨apv 1 (.slice b 0 ls.length ls.length 1 false) s,aps (.slice b 0 ls.length ls.length 1 false) s (rats s.h bv 0 1),λK=>J2 V dc hby h63 hv1,?_⟩;rw[hr];exact fin _ (jm _ _ _) (Z0 _ _ _) (λc ds hc E=>E.apO hc) (D.ap [x])
  |true=>
   refine⟨.slice s.nx 0 (ls.length+1) (ls.length+1) 1 false,Go.Sy.nw s (cs ++ [x]),λK=>jrv (cs:=cs) D (by rw[I.len];omega) dc hby h63 hv1 hr,?_⟩;exact fin _ rfl rfl (λc ds hc E=>E.nw _) (Cl.new s _)
end
theorem jro {lo hi n z n2 bytes:Nat}{s:St}{v x:AV}{cs cs2:List AV}(h:Lw lo hi s v n cs z)(h1:∀ k:Nat->ER,zX x k=k n2)(h2:∀ k:List AV->ER,firstCells s z n2 x k=k cs2)(hhi:hi<=s.nx)(hl:cs2.length=n2 * z)(hz:0<z)(hby:(n+n2) * bytes<=140737488355328)(h63:n+n2<=9223372036854775807) :
  ∃ v' s',(∀ K:AV->St->Prop,jk (J8 z bytes v x s) K=K v' s')/\Lw lo s'.nx s' v' (n+n2) (cs ++ cs2) z/\ApL lo s s':=by
 obtain⟨v',s',e,r1,r2⟩:=jtF (bytes:=bytes) (n2:=n2) (cs2:=cs2) h hhi hl hz hby h63;refine⟨v',s',λK=>?_,r1,r2⟩;rw[<-e K];have e1:Qcp (Qcr n2 z) (jR cs2)=true:=qE (by rw[jO];exact QaU hl.symm);have e2:yq cs2 (Qcr n2 z)=cs2:=by rw[qY];exact(by rw[show Qcr n2 z=cs2.length from hl.symm,Qag])
 unfold J8;rw[h1,h2];simp only[zX,firstCells,e1,cond_true,e2]
theorem In1.app {lo hi b0 lo2 b:Nat}{s:St}{x:AV}{l:SvT}(h:In1 s lo hi b0 x l)(C:Cl s b [])(h1:lo2<=b)(hl:l.length<=1000000000000) :
  ∃ v' s',(∀ K:AV->St->Prop,jk (J8 1 8 (.slice b 0 0 0 1 true) x s) K=K v' s')/\Lw lo2 s'.nx s' v' l.length (l.map (.int .i64)) 1/\ApL lo2 s s':=by
 have w:Lw lo2 s.nx s (.slice b 0 0 0 1 true) 0 [] 1:=⟨b,true,rfl,λ_=>rfl,rfl,C,h1,C.lt⟩;have fin:(∀ k:Nat->ER,zX x k=k l.length)->(∀ k:List AV->ER,firstCells s 1 l.length x k=k (l.map (.int .i64)))->_:=λq1 q2=>jro (bytes:=8) w q1 q2 (τ _) (by simp) dc om om;have done:(∀ k:Nat->ER,zX x k=k l.length)->(∀ k:List AV->ER,firstCells s 1 l.length x k=k (l.map (.int .i64)))->∃ v' s',(∀ K:AV->St->Prop,jk (J8 1 8 (.slice b 0 0 0 1 true) x s) K=K v' s')/\Lw lo2 s'.nx s' v' l.length (l.map (.int .i64)) 1/\ApL lo2 s s':=λq1 q2=>by
  obtain⟨v',s',e,r1,r2⟩:=fin q1 q2;rw[Qal,Qam] at r1;exact⟨v',s',e,r1,r2⟩
 rcases h with rfl|⟨c,ex,rfl,D,_,_,_⟩
 ·have e1:Qcp (Qcr l.length 1) (jR (l.map (AV.int .i64)))=true:=qE (by rw[jO,Qar];exact QaU (Qbd _));have e2:yq (l.map (AV.int .i64)) (Qcr l.length 1)=l.map (AV.int .i64):=by rw[qY,show Qcr l.length 1=(l.map (AV.int .i64)).length from by rw[Qar];exact Qbd _,Qag]
  exact done (λk=>rfl) λk=>by unfold svV;simp only[firstCells,e1,cond_true,e2]
 ·obtain⟨m',zl',zz',ks',hg'⟩:=D.row;have h4l:=D.len;rw[yL hg',Qar] at h4l;have e1:Qcr l.length 1=l.length:=Qbd _;have e7:Qcp (Qcq 0 l.length) m'=true:=qE (by show 0+l.length<=m';omega);have e8:jQ zl' zz' ks' l.length 0=l.map (.int .i64):=by
   have h:=D.rats0 (Qar ..);rw[Qj] at h;rw[qt,<-h];exact QaV λi _=>by rw[JS hg']
  exact done (λk=>rfl) λk=>by simp only[firstCells,hg',ym,jG,e1,e7,cond_true,e8]
theorem Lw.app1 {lo hi bv xc:Nat}{s:St}{v:AV}{xx:Bool}{l:SvT}{n:Int}(h:Lw lo hi s v l.length (l.map (.int .i64)) 1)(C:Cl s bv [.int .i64 n])(hhi:hi<=s.nx)(hl:l.length<=1000000000000) :
  ∃ v' s',(∀ K:AV->St->Prop,jk (J8 1 8 v (.slice bv 0 1 xc 1 xx) s) K=K v' s')/\Lw lo s'.nx s' v' (l ++ [n]).length ((l ++ [n]).map (.int .i64)) 1/\ApL lo s s':=by
 obtain⟨m',zl',zz',ks',hg'⟩:=C.row;have h4l:=C.len;rw[yL hg'] at h4l;have h4l:m'=1:=h4l;have e7:Qcp (Qcq 0 (Qcr 1 1)) m'=true:=qE (by rw[h4l];decide);have e8:jQ zl' zz' ks' (Qcr 1 1) 0=[.int .i64 n]:=by
  have h:=C.rats0 (k:=1) rfl;rw[Qj] at h;rw[qt,<-h];exact QaV λi _=>by rw[JS hg']
 obtain⟨v',s',e,r1,r2⟩:=jro (bytes:=8) (x:=.slice bv 0 1 xc 1 xx) (n2:=1) (cs2:=[.int .i64 n]) h (λk=>rfl) (λk=>by simp only[firstCells,hg',ym,jG,e7,cond_true,e8]) hhi rfl dc om om;refine⟨v',s',e,?_,r2⟩;rw[φ,QaX];exact r1
def JV (v:VarT)(s:SvT):List SvT:=(Qak (v.hi - v.lo+1).toNat).map λ(i:Nat)=>s ++ [v.lo+(i:Int)]
def Jc (vars:List VarT):List SvT:=vars.foldl (λout v=>out.flatMap (JV v)) [[]]
theorem W9 {v:VarT}:∀ out:List SvT,(out.flatMap (JV v)).length=out.length * (v.hi - v.lo+1).toNat
 |[]=>by simp
 |x :: xs=>by
  rw[QbS,φ,W9 xs,υ];unfold JV;rw[Qar,QbQ,QaS];omega
theorem jlA (vars:List VarT):∀ out:List SvT,(vars.foldl (λout v=>out.flatMap (JV v)) out).length=vars.foldl (λn v=>n * (v.hi - v.lo+1).toNat) out.length:=by
 induction vars with
 |nil=>intro out;rfl
 |cons v vs ih=>intro out;rw[Qbr,ih,W9];rfl
theorem je0 (vars:List VarT):(Jc vars).length=YD vars:=jlA vars [[]]
theorem jdo {vars:List VarT}{k:Nat}(hk:k<vars.length):Jc (vars.take (k+1))=(Jc (vars.take k)).flatMap (JV vars[k]):=by
 unfold Jc;rw[yw hk,Qba];rfl
theorem jlr {vars:List VarT}(h:∀ v∈vars,VB v):∀ k,YD (vars.take k)<=YD vars:=by
 intro k;have e:YD vars=(vars.drop k).foldl (λn v=>n * (v.hi - v.lo+1).toNat) (YD (vars.take k)):=by
  conv=>lhs;rw[<-Qbg k vars]
  unfold YD;rw[Qba]
 rw[e];have key:∀ (l:List VarT) (n:Nat),(∀ v∈l,VB v)->n<=l.foldl (λn v=>n * (v.hi - v.lo+1).toNat) n:=by
  intro l;induction l with
  |nil=>intro n _;exact τ _
  |cons v vs ih=>
   intro n hv;rw[Qbr];refine Qab ?_ (ih _ λu hu=>hv u (by simp[hu]));have:=(hv v (by simp)).1;exact Nat.le_mul_of_pos_right _ om
 exact key _ _ λv hv=>h v (List.mem_of_mem_drop hv)
theorem jrr {vars:List VarT}:∀ {x:SvT},x∈Jc vars->x.length=vars.length:=by
 have key:∀ (vars:List VarT) (out:List SvT) (n:Nat),(∀ x∈out,x.length=n)->∀ x∈vars.foldl (λout v=>out.flatMap (JV v)) out,x.length=n+vars.length:=by
  intro vars;induction vars with
  |nil=>intro out n h x hx;exact h x hx
  |cons v vs ih=>
   intro out n h x hx;have:=ih (out.flatMap (JV v)) (n+1) (λy hy=>by
    obtain⟨z,hz,hy⟩:=List.mem_flatMap.1 hy;unfold JV at hy;obtain⟨i,_,rfl⟩:=QaI.1 hy;rw[φ,h z hz];rfl) x hx
   rw[this,υ];omega
 intro x hx;have:=key vars [[]] 0 (λy hy=>by simp at hy;rw[hy];rfl) x hx;omega
theorem In1.keep {lo hi b0 lo2 hi2:Nat}{s s':St}{x:AV}{l:SvT}(h:In1 s lo hi b0 x l)(a:ApX lo2 hi2 s s')(hh:hi<=lo2\/hi2<=lo):In1 s' lo hi b0 x l:=by
 rcases h with rfl|⟨c,ex,rfl,D,k1,k2,k3⟩
 ·exact .inl rfl
 ·exact .inr ⟨c,ex,rfl,a.cl _ _ om D,k1,k2,k3⟩
theorem jqF {v:VarT}{ls:List SvT}{k:Nat}(hk:k<ls.length):(ls.take (k+1)).flatMap (JV v)=(ls.take k).flatMap (JV v) ++ JV v ls[k]:=by
 rw[yw hk,List.flatMap_append,QbS,List.flatMap_nil,QaP]
theorem r13:type_of%(aI @je (aI @jj (aI @ji (aI @jd (aI @jn (aI @jo (aI @jq (aI @jr (aI @jp (aI @yT @rzZ)))))))))):=aI @je (aI @jj (aI @ji (aI @jd (aI @jn (aI @jo (aI @jq (aI @jr (aI @jp (aI @yT @rzZ)))))))))
set_option maxHeartbeats 16000000 in
theorem jom (hb:NB base)(m:ModT)(V:∀ v∈m.vars,-100000000<=v.lo/\v.lo<=100000000/\-100000000<=v.hi/\v.hi<=100000000)(hm:m.vars.length<=1000000)(S:SB m.vars)(hc:YD m.vars<=300):Tot base 19 [.agg (mdE m)] (.lst (Jc m.vars).length (fl svE (Jc m.vars))):=by
 refine hb.tot ?_ (by simp[pa,pc,Q7]) rfl;have f1:(nw st0 (mdE m)).nx=1:=rfl;have f2:(nw (nw st0 (mdE m)) []).nx=2:=rfl;have C1:Cl (nw (nw (nw st0 (mdE m)) []) [.slice 1 0 0 0 1 true]) 1 []:=(f1▸Cl.new (nw st0 (mdE m)) []).nw _;have C2:Cl (nw (nw (nw st0 (mdE m)) []) [.slice 1 0 0 0 1 true]) 2 [.slice 1 0 0 0 1 true]:=f2▸Cl.new (nw (nw st0 (mdE m)) []) [.slice 1 0 0 0 1 true];have L0:LL 1 3 (nw (nw (nw st0 (mdE m)) []) [.slice 1 0 0 0 1 true]) (.slice 2 0 1 1 1 true) [[]]:=.inr ⟨2,_,true,rfl,by simp,C2,dc,dc,⟨.inr ⟨1,true,rfl,C1,dc,dc,dc⟩,trivial⟩⟩;refine jF jsG (by rfl) (hb.pur 19 1 dc) ?_;simp only[jos,ju,κ,μ,ν,ξ];rw[(by unfold jjB;simp only[qq];rfl:jjB=_)];repeat'(first|apply jc<;>intro _|simp(disch:=first|exact dzG|fail) only[r13,δ,ε,ζ,η,θ])
 refine qg m.vars.length (λk L s=>(∃ hi v,LL 1 hi s v (Jc (m.vars.take k))/\hi<=s.nx/\Has L 3 v)/\1<=s.nx/\Has L 13 (.lst m.vars.length (fl vaE m.vars))) (by first|assumption|omega) dc (by simp(disch:=decide) only[jf,jb]) (by simp(disch:=decide) only[jf,jb]) ?_ (λk L s v h=>(by obtain⟨⟨hi,v,a1,a2,a3⟩,a4,a5⟩:=h;refine⟨⟨hi,v,a1,a2,?_⟩,a4,?_⟩<;>simp(disch:=decide) only[jb]<;>assumption)) (λk L s v h=>(by obtain⟨⟨hi,v,a1,a2,a3⟩,a4,a5⟩:=h;refine⟨⟨hi,v,a1,a2,?_⟩,a4,?_⟩<;>simp(disch:=decide) only[jb]<;>assumption)) (λk L s hk hI hi hn=>?_) (λL s hI=>?_)
 ·refine⟨⟨3,_,L0,by(first|omega|(simp only[jg,jh,jt,jm,jl];first|done|omega)),?_⟩,by(first|omega|(simp only[jg,jh,jt,jm,jl];first|done|omega)),?_⟩<;>simp(disch:=decide) only[jb,jf]
 ·obtain⟨⟨h,v,LS,hn1,i3⟩,n1,i13⟩:=hI;have eL:=λ(st:St) (K:AV->St->Prop)=>LS.lenV (K:=K) st;have hvb:=S.vb _ (Qad hk);have hve:=V _ (Qad hk);have hcnt:=jlr S.vb (k+1);rw[<-je0,jdo hk,W9] at hcnt;have hel:=λx (hx:x∈Jc (m.vars.take k))=>jrr hx;rw[jdo hk];generalize hls:Jc (m.vars.take k)=ls at *;generalize hva:m.vars[k]=va at *;have hel:∀ x∈ls,x.length<=1000000:=λx hx=>by have:=hel x hx;rw[Qan] at this;omega
  obtain⟨u,hu⟩:∃ u,u=Go.Sy.wr (Go.Sy.nw s [AV.str [],AV.int IntKind.i64 0,AV.str [],AV.int IntKind.i64 0,AV.int IntKind.i64 0,AV.bool false,AV.int IntKind.i64 0]) s.nx 0 (vaE va):=⟨_,rfl⟩;have un:u.nx=s.nx+1:=by rw[hu];rfl
  have LU:LL 1 h u v ls:=by rw[hu];exact(LS.keep (ApX.nw s _) (.inl hn1)).keep (ApX.wr _ _ _ _) (.inl hn1)
  have CU:Cl u s.nx (vaE va):=by rw[hu];exact(Cl.new s _).wr0 rfl
  have LW:=LU.keep (ApX.nw u []) (.inl om);have CW:=CU.nw [];have LN:LL (s.nx+1) (s.nx+2) (Go.Sy.nw u []) (.slice (s.nx+1) 0 0 0 1 true) []:=.inl ⟨rfl,.inr ⟨s.nx+1,rfl,un▸Cl.new u [],om,om⟩⟩;have wn:(Go.Sy.nw u []).nx=s.nx+2:=by rw[jg];omega
  repeat'(first|apply jc<;>intro _|simp(disch:=first|exact dzG|fail) only[ja i3,ja i13,ja hi,ja hn,hva,eL,r13,δ,ε,ζ,η,θ])
  rw[<-hu];generalize Go.Sy.nw u []=w at *;have hr0:0<(va.hi - va.lo+1).toNat:=by have:=hvb.1;omega
  have hr1:(va.hi - va.lo+1).toNat<=1024:=by have:=hvb.2;omega
  have hl3:ls.length<=300:=by
   have:=Nat.le_mul_of_pos_right ls.length hr0;omega
  refine qg ls.length (λk2 L s2=>(∃ h2 v2,LL (s.nx+1) h2 s2 v2 ((ls.take k2).flatMap (JV va))/\h2<=s2.nx/\Has L 6 v2)/\LL 1 h s2 v ls/\s.nx+1<=s2.nx/\Cl s2 s.nx (vaE va)/\Has L 5 (.ptr s.nx 0)/\Has L 13 (.lst m.vars.length (fl vaE m.vars))/\Has L 15 (.int .i64 (k:Int))/\Has L 14 (.int .i64 (m.vars.length:Int))/\Has L 20 v) (by first|assumption|omega) dc (by simp(disch:=decide) only[jf,jb]) (by simp(disch:=decide) only[jf,jb]) ?_ (λk L s v h=>(by obtain⟨⟨h2,v2,a1,a2,a3⟩,b1,b2,b3,b4,b5,b6,b7,b8⟩:=h;refine⟨⟨h2,v2,a1,a2,?_⟩,b1,b2,b3,?_,?_,?_,?_,?_⟩<;>simp(disch:=decide) only[jb]<;>assumption)) (λk L s v h=>(by obtain⟨⟨h2,v2,a1,a2,a3⟩,b1,b2,b3,b4,b5,b6,b7,b8⟩:=h;refine⟨⟨h2,v2,a1,a2,?_⟩,b1,b2,b3,?_,?_,?_,?_,?_⟩<;>simp(disch:=decide) only[jb]<;>assumption)) (λky Ly sy hky hIy hiy hny=>?_) (λLy sy hIy=>?_)
  ·refine⟨⟨s.nx+2,_,LN,om,?_⟩,LW,om,CW,?_,?_,?_,?_,?_⟩;all_goals first
    |(simp(disch:=decide) only[jb,jf];done)
    |(simp(disch:=decide) only[jb];assumption)
  ·obtain⟨⟨h2,v2,LY2,hn2,j6⟩,LY,m2,CY,j5,j13,j15,j14,j20⟩:=hIy;obtain⟨b,cs,ex,rfl,hne,CB,hb1,hb2,IN⟩:∃ b cs ex,v=.slice b 0 ls.length ls.length 1 ex/\ls≠[]/\Cl sy b cs/\1<=b/\b<h/\InL sy 1 h b cs ls:=by
    rcases LY with ⟨e,_⟩|q
    ·rw[e] at hky;exact absurd hky (QaG _)
    ·exact q
   have gx:rat sy.h b ky=cs.getD ky .bad:=CB.cell ky (by rw[IN.len];exact hky);have X:=IN.get hky;have hlen:qu sy.h b=ls.length:=by rw[CB.len,IN.len]
   have hlx:=hel _ (Qad hky);have hS:=jqF (v:=va) hky;generalize cs.getD ky .bad=x at gx X;generalize hly:ls[ky]=ly at *;have fin0:(Qak (va.lo - va.lo).toNat).map (λ(i:Nat)=>ly ++ [va.lo+(i:Int)])=[]:=by rw[Int.sub_self];rfl
   have hbound:∀ n:Int,n<=va.hi->(((ls.take ky).flatMap (JV va) ++ (Qak (n - va.lo).toNat).map λ(i:Nat)=>ly ++ [va.lo+(i:Int)]).length+1) * 24<=140737488355328:=λn hn=>by
    rw[φ,W9,Qar,QbQ,Qan,Qbh om];have:=Qaw (va.hi - va.lo+1).toNat (show ky<=ls.length by omega);omega
   (have zz:=@CY.r;(repeat'(first|apply jc<;>intro _|simp(disch:=first|exact jT|fail) only[ja j5,ja j6,ja j13,ja j15,ja j14,ja j20,ja hiy,ja hny,gx,CY.q,CY.r,r13,δ,ε,ζ,η,θ]));all_goals clear zz)
   refine yY (λmm L s3=>∃ (n:Int),va.lo<=n/\n<=va.hi+1/\(mm:Int)=va.hi+1 - n/\(∃ h3 v3,LL (s.nx+1) h3 s3 v3 ((ls.take ky).flatMap (JV va) ++ (Qak (n - va.lo).toNat).map λ(i:Nat)=>ly ++ [va.lo+(i:Int)])/\h3<=s3.nx/\Has L 6 v3)/\LL 1 h s3 (.slice b 0 ls.length ls.length 1 ex) ls/\In1 s3 1 h b x ly/\s.nx+1<=s3.nx/\Cl s3 s.nx (vaE va)/\Has L 5 (.ptr s.nx 0)/\Has L 13 (.lst m.vars.length (fl vaE m.vars))/\Has L 15 (.int .i64 (k:Int))/\Has L 14 (.int .i64 (m.vars.length:Int))/\Has L 20 (.slice b 0 ls.length ls.length 1 ex)/\Has L 22 (.int .i64 (ky:Int))/\Has L 21 (.int .i64 (ls.length:Int))/\Has L 8 x/\Has L 9 (.int .i64 n)) ?_ (va.hi+1 - va.lo).toNat ?_
   ·rintro mm L s3 ⟨n,q1,q2,q3,⟨h3,v3,LZ,hn3,z6⟩,LO,XZ,m3,CZ,z5,z13,z15,z14,z20,z22,z21,z8,z9⟩;unfold Vn;by_cases hle:n<=va.hi
    ·obtain⟨w1,s4,e1,W1,A1⟩:=(XZ.keep (ApX.nw s3 []) (.inl om)).app (lo2:=s3.nx) (Cl.new s3 []) (τ _) om;obtain⟨w2,s5,e2,W2,A2⟩:=(W1.nwO [.int .i64 n]).app1 (xc:=1) (xx:=true) (Cl.new s4 [.int .i64 n]) (by rw[jg];omega) om;obtain⟨b2,ex2,rfl,_,_,C2,hb3,hb4⟩:=W2;have n4:=A1.nx;have n5:=A2.nx;rw[jg] at n4 n5;have fr:∀ {lo hi v' ls'},LL lo hi s3 v' ls'->hi<=s3.nx->LL lo hi (Go.Sy.nw s5 [.slice b2 0 (ly ++ [n]).length (ly ++ [n]).length 1 ex2]) v' ls':=λk hh=>((((k.keep (ApX.nw s3 []) (.inl om)).keep (ApX.of A1) (.inl om)).keep (ApX.nw s4 _) (.inl om)).keep (ApX.of A2) (.inl om)).keep (ApX.nw s5 _) (.inl om);have hx5:s5.nx+1=(Go.Sy.nw s5 [.slice b2 0 (ly ++ [n]).length (ly ++ [n]).length 1 ex2]).nx:=by rw[jg]
     obtain⟨v6,s6,e6,L6,A6⟩:=(fr LZ hn3).app (bytes:=24) (xc:=1) (xx:=true) (Cl.new s5 _) (.inr ⟨b2,ex2,rfl,C2.nw _,om,om⟩) om om (hbound n hle) (by have:=hbound n hle;omega);have eW:wq (n+1)=n+1:=jrG _ om om;have n6:=A6.nx;have hR:(Qak (n+1 - va.lo).toNat).map (λ(i:Nat)=>ly ++ [va.lo+(i:Int)])=(Qak (n - va.lo).toNat).map (λ(i:Nat)=>ly ++ [va.lo+(i:Int)]) ++ [ly ++ [n]]:=by
      rw[show(n+1 - va.lo).toNat=(n - va.lo).toNat+1 by omega,List.range_succ,QaX,κ,μ];rw[show va.lo+((n - va.lo).toNat:Int)=n by omega]
     rw[QaH,<-hR] at L6
     (have zz:=@CZ.r;(repeat'(first|apply jc<;>intro _|simp(disch:=first|exact jT|fail) only[ja z5,ja z6,ja z8,ja z9,e1,e2,e6,hle,jfs,eW,CZ.q,CZ.r,r13,δ,ε,ζ,η,θ]));all_goals clear zz)
     refine⟨mm - 1,om,n+1,om,om,om,⟨s6.nx,v6,L6,τ _,?_⟩,(fr LO om).keep A6 (.inl om),?_,om,?_,?_,?_,?_,?_,?_,?_,?_,?_,?_⟩
     ·simp(disch:=decide) only[jb,jf]
     ·exact(((((XZ.keep (ApX.nw s3 []) (.inl om)).keep (ApX.of A1) (.inl om)).keep (ApX.nw s4 _) (.inl om)).keep (ApX.of A2) (.inl om)).keep (ApX.nw s5 _) (.inl om)).keep A6 (.inl om)
     ·exact A6.cl _ _ (.inl om) ((A2.cl _ _ om ((A1.cl _ _ om (CZ.nw _)).nw _)).nw _)
     all_goals first
      |(simp(disch:=decide) only[jb,jf];done)
      |(simp(disch:=decide) only[jb];assumption)
    ·have hnh:n=va.hi+1:=om
     subst hnh;have hst:JV va ly=(Qak (va.hi+1 - va.lo).toNat).map (λ(i:Nat)=>ly ++ [va.lo+(i:Int)]):=by
      unfold JV;rw[show va.hi - va.lo+1=va.hi+1 - va.lo by omega]
     rw[<-hst,<-hS] at LZ
     (have zz:=@CZ.r;(repeat'(first|apply jc<;>intro _|simp(disch:=first|exact jT|fail) only[ja z5,ja z6,ja z8,ja z9,hle,CZ.q,CZ.r,r13,δ,ε,ζ,η,θ]));all_goals clear zz)
     refine⟨⟨⟨h3,v3,LZ,hn3,?_⟩,LO,m3,CZ,?_,?_,?_,?_,?_⟩,?_,?_⟩;all_goals(simp(disch:=decide) only[jb];assumption)
   ·refine⟨va.lo,Int.le_refl _,by have:=hvb.1;omega,by have:=hvb.1;omega,⟨h2,v2,by rw[fin0,QaP];exact LY2,hn2,?_⟩,LY,X,m2,CY,?_,?_,?_,?_,?_,?_,?_,?_,?_⟩;all_goals first
     |(simp(disch:=decide) only[jb,jf];done)
     |(simp(disch:=decide) only[jb];assumption)
  ·obtain⟨⟨h2,v2,LY2,hn2,j6⟩,LY,m2,CY,j5,j13,j15,j14,j20⟩:=hIy;rw[Qag] at LY2;repeat'(first|apply jc<;>intro _|simp(disch:=first|exact dzG|fail) only[ja j6,r13,δ,ε,ζ,η,θ])
   refine⟨⟨⟨h2,v2,LY2.down om,hn2,?_⟩,om,?_⟩,?_,?_⟩;all_goals first
    |(simp(disch:=decide) only[jb,jf];done)
    |(simp(disch:=decide) only[jb];assumption)
 ·obtain⟨⟨h,v,LS,hn1,i3⟩,n1,i13⟩:=hI;rw[Qag] at LS;repeat'(first|apply jc<;>intro _|simp(disch:=first|exact dzG|fail) only[ja i3,r13,δ,ε,ζ,η,θ])
  exact LS.fzd (d:=6) (Qae _)
theorem jfD {vars:List VarT}{v:VarT}{s:SvT}{n:Int}(h:JH vars s=true)(h1:v.lo<=n)(h2:n<=v.hi):JH (vars ++ [v]) (s ++ [n])=true:=by
 obtain⟨hl,h3⟩:=WC.1 h;refine WC.2 ⟨by simp[hl],λi q1 q2=>?_⟩;by_cases e:i<vars.length
 ·rw[Qck e,Qck om];exact h3 i e om
 ·have hi:i=vars.length:=by simp at q1;omega
  subst hi;rw[Qcl (τ _),Qcl om];simp only[Nat.sub_self,hl];exact⟨h1,h2⟩
theorem jaq {vars:List VarT}:∀ (k:Nat),k<=vars.length->∀ x∈Jc (vars.take k),JH (vars.take k) x=true
 |0,_,x,hx=>by
  have:x∈([[]]:List SvT):=hx;simp at this;rw[this];rfl
 |k+1,hk,x,hx=>by
  rw[jdo om] at hx;obtain⟨y,hy,hx⟩:=List.mem_flatMap.1 hx;unfold JV at hx;obtain⟨i,hi,rfl⟩:=QaI.1 hx;have:=QbH.1 hi;rw[yw om];exact jfD (jaq k om y hy) om om
theorem jsl {st:St}{q n m:Nat}{x:Bool}{op:Int}{cs:List AV}(C:Cl st q cs)(hl:n * 6=cs.length)(hp:cs.all pc=true):fz 9 st.h (.agg [.int .i64 op,.int .i64 0,.str [],.slice q 0 n m 6 x,.int .i64 0,.int .i64 0])=some (.agg [.int .i64 op,.int .i64 0,.str [],.lst n cs,.int .i64 0,.int .i64 0],[q]):=by
 have e:=GQ (s:=st) (d:=6) (b:=q) (n:=n) (m:=m) (x:=x) C hl hp;show(fzs (fz 8 st.h) [.int .i64 op,.int .i64 0,.str [],.slice q 0 n m 6 x,.int .i64 0,.int .i64 0]).map (λp=>(AV.agg p.1,p.2))=_;simp only[fzs];rw[e,show ∀ v:AV,pc v=true->fz 8 st.h v=some (v,[]) from λv hv=>gL hv 7 _];all_goals first|rfl|skip
theorem jcK (hb:NB base)(sv:SvT)(hs:sv.length<=1099511627776)(ys:List Ex)(op:Int)(hz:szE (.mk op 0 [] ys 0 0)<=BIG){st:St}{q m:Nat}{x:Bool}(C:Cl st q (fl eE ys))(K Kp:AV->St->Prop) :
  XB γ base 17 [.agg [.int .i64 op,.int .i64 0,.str [],.slice q 0 ys.length m 6 x,.int .i64 0,.int .i64 0],svV sv] st K Kp=K (.tup [.bool (decide (qe sv (.mk op 0 [] ys 0 0)=some 1)),.bool (qe sv (.mk op 0 [] ys 0 0)).isSome]) (kl q st):=by
 have F:Fza st [.agg [.int .i64 op,.int .i64 0,.str [],.slice q 0 ys.length m 6 x,.int .i64 0,.int .i64 0],svV sv] [.agg (eE (.mk op 0 [] ys 0 0)),svV sv] [q]:=by
  unfold Fza;simp only[fzs];rw[jsl C (by rw[zy zT]) (zh qS ys),gM (d:=7) (by unfold svV;simp[pa,pc,XN])];rw[qx];rfl
 exact(je6 hb sv hs (.mk op 0 [] ys 0 0) hz).xf F (λst=>hb.no 17 dc _ _) K Kp
theorem jsb {sv:SvT}{y z:Ex}{a b:Int}(h1:qe sv y=some a)(h2:qe sv z=some b)(ha:zY a)(hb:zY b) :
  decide (qe sv (.mk 6 0 [] [y] 0 0)=some 1) = !decide (a=1)/\(qe sv (.mk 6 0 [] [y] 0 0)).isSome=true /\
  decide (qe sv (.mk 27 0 [] [y,z] 0 0)=some 1)=(decide (a=1) && decide (b=1))/\(qe sv (.mk 27 0 [] [y,z] 0 0)).isSome=true /\
  decide (qe sv (.mk 29 0 [] [y,z] 0 0)=some 1)=(!decide (a=1) ||decide (b=1))/\(qe sv (.mk 29 0 [] [y,z] 0 0)).isSome=true:=by
 rw[Gy,UA,UA,h1,h2];have q1:wq 1=1:=dc
 have q0:wq 0=0:=dc
 rcases ha with rfl|rfl<;>rcases hb with rfl|rfl<;>simp[jfK,vv,Qr,q0,q1]
set_option maxHeartbeats 32000000 in
theorem law5_ok (hb:NB base)(h9:∀ st,base.run 9 [] st=.ok (.bool true) st)(hP:PI base)(src:SrcT)(x z:Ex)(hm:szS src<=1048576)(hx:szE x<=1048576)(hz:szE z<=1048576):XB γ base 5 [.agg (srE src),.agg (eE x),.agg (eE z)] st0 (λv _=>v=.bool true) λ_ _=>False:=by
 have E9:=λ(st:St) (K Kp:AV->St->Prop)=>Gn (P:=γ) (base:=base) (h9 st) K Kp;have E10:=jp6 hb hP src (jpm hm);have hxB:szE x<=BIG:=by unfold BIG;omega
 have hzB:szE z<=BIG:=by unfold BIG;omega
 have W1:=Zj hb x hxB;have W2:=Zj hb z hzB;have D1:=jdx hb x hxB;have D2:=jdx hb z hzB;refine Jx xs5 (by rfl) (hb.at0 5 dc dc _ _) ?_;simp only[ys5,ju,κ,μ,ν,ξ];rw[(by unfold zs5;simp only[qq];rfl:zs5=_)];cases h1:(XI src).2 with
 |false=>
  rw[h1] at E10;repeat'(first|apply jc<;>intro _|simp(disch:=first|exact dzG|fail) only[E9,E10,r13,δ,ε,ζ,η,θ])
 |true=>
  have hfew:=jhM h1;rw[h1] at E10;obtain⟨MK,V⟩:=jb6 h1;generalize (XI src).1=m at E10 MK V hfew;cases hw1:zd x with
  |false=>rw[hw1] at W1;repeat'(first|apply jc<;>intro _|simp(disch:=first|exact dzG|fail) only[E9,E10,W1,r13,δ,ε,ζ,η,θ])
  |true=>
  rw[hw1] at W1;cases hw2:zd z with
  |false=>rw[hw2] at W2;repeat'(first|apply jc<;>intro _|simp(disch:=first|exact dzG|fail) only[E9,E10,W1,W2,r13,δ,ε,ζ,η,θ])
  |true=>
  rw[hw2] at W2;by_cases d1:12<Zc x
  ·repeat'(first|apply jc<;>intro _|simp(disch:=first|exact dzG|fail) only[E9,E10,W1,W2,D1,d1,r13,δ,ε,ζ,η,θ])
  by_cases d2:12<Zc z
  ·repeat'(first|apply jc<;>intro _|simp(disch:=first|exact dzG|fail) only[E9,E10,W1,W2,D1,D2,d1,d2,r13,δ,ε,ζ,η,θ])
  obtain⟨w1,w2⟩:yF 60 x=true/\uL 4 x=false:=by
   unfold zd at hw1;simpa using hw1
  obtain⟨w3,w4⟩:yF 60 z=true/\uL 4 z=false:=by
   unfold zd at hw2;simpa using hw2
  have X1:=je3 hb m V.len V.len2 V.vals x (Gs 60 x w1 w2) false;have X2:=je3 hb m V.len V.len2 V.vals z (Gs 60 z w3 w4) false;cases he:zq m.vars m.enums false x with
  |er a l c=>
   rw[he] at X1;have X1:Tot base 14 [.agg (mdE m),.agg (eE x),.bool false] (.tup [.agg (eE (.mk 0 0 [] [] 0 0)),.agg (mtE mt0),.agg [.int .i64 a,.int .i64 l,.int .i64 c]]):=X1;have hn:¬ (a=0/\l=0/\c=0):=λh=>WG he h.1;cases hf:zq m.vars m.enums false z with
   |er a' l' c'=>
    rw[hf] at X2;have X2:Tot base 14 [.agg (mdE m),.agg (eE z),.bool false] (.tup [.agg (eE (.mk 0 0 [] [] 0 0)),.agg (mtE mt0),.agg [.int .i64 a',.int .i64 l',.int .i64 c']]):=X2;repeat'(first|apply jc<;>intro _|simp(disch:=first|exact dzG|fail) only[E9,E10,W1,W2,D1,D2,d1,d2,X1,X2,Yg,Yf,Ye,fNe,hn,r13,δ,ε,ζ,η,θ])
   |ok q=>
    obtain⟨y2,t2⟩:=q;rw[hf] at X2;have X2:Tot base 14 [.agg (mdE m),.agg (eE z),.bool false] (.tup [.agg (eE y2),.agg (mtE t2),.agg [.int .i64 0,.int .i64 0,.int .i64 0]]):=X2;repeat'(first|apply jc<;>intro _|simp(disch:=first|exact dzG|fail) only[E9,E10,W1,W2,D1,D2,d1,d2,X1,X2,Yg,Yf,Ye,fNe,hn,r13,δ,ε,ζ,η,θ])
  |ok q=>
   obtain⟨y1,t1⟩:=q;rw[he] at X1;have X1:Tot base 14 [.agg (mdE m),.agg (eE x),.bool false] (.tup [.agg (eE y1),.agg (mtE t1),.agg [.int .i64 0,.int .i64 0,.int .i64 0]]):=X1;cases hf:zq m.vars m.enums false z with
   |er a' l' c'=>
    rw[hf] at X2;have hn:¬ (a'=0/\l'=0/\c'=0):=λh=>WG hf h.1;have X2:Tot base 14 [.agg (mdE m),.agg (eE z),.bool false] (.tup [.agg (eE (.mk 0 0 [] [] 0 0)),.agg (mtE mt0),.agg [.int .i64 a',.int .i64 l',.int .i64 c']]):=X2;repeat'(first|apply jc<;>intro _|simp(disch:=first|exact dzG|fail) only[E9,E10,W1,W2,D1,D2,d1,d2,X1,X2,Yg,Yf,Ye,fNe,hn,r13,δ,ε,ζ,η,θ])
   |ok q=>
    obtain⟨y2,t2⟩:=q;rw[hf] at X2;have X2:Tot base 14 [.agg (mdE m),.agg (eE z),.bool false] (.tup [.agg (eE y2),.agg (mtE t2),.agg [.int .i64 0,.int .i64 0,.int .i64 0]]):=X2;by_cases k1:t1.kind=2
    ·by_cases k2:t2.kind=2
     ·have A:=jom hb m V.ends V.len MK.sb hfew;repeat'(first|apply jc<;>intro _|simp(disch:=first|exact dzG|fail) only[E9,E10,W1,W2,D1,D2,d1,d2,X1,X2,Yg,Yf,Ye,fNe,k1,k2,A,r13,δ,ε,ζ,η,θ])
      have hal:(Jc m.vars).length<=300:=by rw[je0];exact hfew
      refine qg (Jc m.vars).length (λk L s=>10<=s.nx/\Cl s 4 (eE y1)/\Cl s 7 (eE y2)/\Has L 9 (.ptr 4 0)/\Has L 12 (.ptr 7 0)/\Has L 89 (.lst (Jc m.vars).length (fl svE (Jc m.vars)))) (by first|assumption|omega) dc (by simp(disch:=decide) only[jf,jb]) (by simp(disch:=decide) only[jf,jb]) ?_ (λk L s v h=>(by obtain⟨a1,a2,a3,a4,a5,a6⟩:=h;refine⟨a1,a2,a3,?_,?_,?_⟩<;>simp(disch:=decide) only[jb]<;>assumption)) (λk L s v h=>(by obtain⟨a1,a2,a3,a4,a5,a6⟩:=h;refine⟨a1,a2,a3,?_,?_,?_⟩<;>simp(disch:=decide) only[jb]<;>assumption)) (λk L s hk hI hi hn=>?_) (λL s hI=>?_)
      ·refine⟨by(first|omega|(simp only[jg,jh,jt,jm,jl];first|done|omega)),by(first|exact cyG|fail),by(first|exact cyG|fail),?_,?_,?_⟩<;>simp(disch:=decide) only[jb,jf]
      ·obtain⟨n10,C4,C7,i9,i12,i89⟩:=hI;have hR:JH m.vars (Jc m.vars)[k]=true:=by
        have:=jaq (vars:=m.vars) m.vars.length (τ _) (Jc m.vars)[k] (by rw[Qag];exact Qad hk);rwa [Qag] at this
       have hlen:(Jc m.vars)[k].length<=1000000:=by rw[(WC.1 hR).1];exact V.len
       have R1:=Hp MK.vars hR x false y1 t1 (Zu 60 x w1) he;have R2:=Hp MK.vars hR z false y2 t2 (Zu 60 z w3) hf;obtain⟨a,a1,_,a3⟩:=R1.som (jb3 x y1 t1 he (Zu 60 x w1));obtain⟨b,b1,_,b3⟩:=R2.som (jb3 z y2 t2 hf (Zu 60 z w3));obtain⟨q1,q2,q3,q4,q5,q6⟩:=jsb a1 b1 (a3 k1) (b3 k2);have H1:=je5 hb (Jc m.vars)[k] om y1 (Qab R1.sz hxB);have H2:=je5 hb (Jc m.vars)[k] om y2 (Qab R2.sz hzB);rw[a1,show decide (some a=some 1)=decide (a=1) by simp] at H1;rw[b1,show decide (some b=some 1)=decide (b=1) by simp] at H2;have H1:Tot base 17 [.agg (eE y1),svV (Jc m.vars)[k]] (.tup [.bool (decide (a=1)),.bool true]):=H1;have H2:Tot base 17 [.agg (eE y2),svV (Jc m.vars)[k]] (.tup [.bool (decide (b=1)),.bool true]):=H2;generalize hsv:svV (Jc m.vars)[k]=vs at *;by_cases h40:40<(k:Int)
       ·repeat'(first|apply jc<;>intro _|simp(disch:=first|exact dzG|fail) only[ja i89,ja hi,ja hn,jlU,hsv,h40,r13,δ,ε,ζ,η,θ])
        exact trivial
       ·have z1:=Qab R1.sz hx;have z2:=Qab R2.sz hz;obtain⟨l1,hl1⟩:∃ l1:List AV,l1=[.int .i64 y1.op,.int .i64 y1.num,.str y1.name,.lst y1.kids.length (fl eE y1.kids),.int .i64 y1.line,.int .i64 y1.col]:=⟨_,rfl⟩;obtain⟨l2,hl2⟩:∃ l2:List AV,l2=[.int .i64 y1.op,.int .i64 y1.num,.str y1.name,.lst y1.kids.length (fl eE y1.kids),.int .i64 y1.line,.int .i64 y1.col,.int .i64 y2.op,.int .i64 y2.num,.str y2.name,.lst y2.kids.length (fl eE y2.kids),.int .i64 y2.line,.int .i64 y2.col]:=⟨_,rfl⟩;have f1:fl eE [y1]=l1:=by rw[hl1];simp[fl,qx]
        have f2:fl eE [y1,y2]=l2:=by rw[hl2];simp[fl,qx]
        obtain⟨s1,hs1⟩:∃ s1,s1=kl s.nx (Go.Sy.nw s l1):=⟨_,rfl⟩;have n1:s1.nx=s.nx+1:=by rw[hs1];rfl
        have C41:Cl s1 4 (eE y1):=by rw[hs1,jN om];exact C4.nw _
        have C71:Cl s1 7 (eE y2):=by rw[hs1,jN om];exact C7.nw _
        obtain⟨s2,hs2⟩:∃ s2,s2=kl s1.nx (Go.Sy.nw s1 l2):=⟨_,rfl⟩;have n2:s2.nx=s1.nx+1:=by rw[hs2];rfl
        have C42:Cl s2 4 (eE y1):=by rw[hs2,jN om];exact C41.nw _
        have C72:Cl s2 7 (eE y2):=by rw[hs2,jN om];exact C71.nw _
        obtain⟨s3,hs3⟩:∃ s3,s3=kl s2.nx (Go.Sy.nw s2 l2):=⟨_,rfl⟩;have n3:s3.nx=s2.nx+1:=by rw[hs3];rfl
        have C43:Cl s3 4 (eE y1):=by rw[hs3,jN om];exact C42.nw _
        have C73:Cl s3 7 (eE y2):=by rw[hs3,jN om];exact C72.nw _
        have hsz:∀ op:Int,szE (.mk op 0 [] [y1] 0 0)<=BIG/\szE (.mk op 0 [] [y1,y2] 0 0)<=BIG:=λop=>by
         unfold BIG;rw[zZ,zZ];simp[Ex.kids,Ex.name,yz];omega
        have E3:∀ K Kp,XB γ base 17 [.agg [.int .i64 6,.int .i64 0,.str [],.slice s.nx 0 1 1 6 true,.int .i64 0,.int .i64 0],vs] (Go.Sy.nw s l1) K Kp=K (.tup [.bool (!decide (a=1)),.bool true]) s1:=λK Kp=>by
         have:=jcK hb (Jc m.vars)[k] om [y1] 6 (hsz 6).1 (st:=Go.Sy.nw s l1) (q:=s.nx) (m:=1) (x:=true) (by rw[f1];exact Cl.new s l1) K Kp;rw[q1,q2,hsv,<-hs1] at this;exact this
        have E4:∀ K Kp,XB γ base 17 [.agg [.int .i64 27,.int .i64 0,.str [],.slice s1.nx 0 2 2 6 true,.int .i64 0,.int .i64 0],vs] (Go.Sy.nw s1 l2) K Kp=K (.tup [.bool (decide (a=1) && decide (b=1)),.bool true]) s2:=λK Kp=>by
         have:=jcK hb (Jc m.vars)[k] om [y1,y2] 27 (hsz 27).2 (st:=Go.Sy.nw s1 l2) (q:=s1.nx) (m:=2) (x:=true) (by rw[f2];exact Cl.new s1 l2) K Kp;rw[q3,q4,hsv,<-hs2] at this;exact this
        have E5:∀ K Kp,XB γ base 17 [.agg [.int .i64 29,.int .i64 0,.str [],.slice s2.nx 0 2 2 6 true,.int .i64 0,.int .i64 0],vs] (Go.Sy.nw s2 l2) K Kp=K (.tup [.bool (!decide (a=1) ||decide (b=1)),.bool true]) s3:=λK Kp=>by
         have:=jcK hb (Jc m.vars)[k] om [y1,y2] 29 (hsz 29).2 (st:=Go.Sy.nw s2 l2) (q:=s2.nx) (m:=2) (x:=true) (by rw[f2];exact Cl.new s2 l2) K Kp;rw[q5,q6,hsv,<-hs3] at this;exact this
        clear hs1 hs2 hs3;rw[hl1] at E3;rw[hl2] at E4 E5;simp only[qx] at H1 H2;clear q1 q2 q3 q4 q5 q6;generalize decide (a=1)=p at *;generalize decide (b=1)=q at *;cases p<;>cases q;all_goals
         (have zz:=aI C4.r (aI C7.r (aI C41.r (aI C71.r (aI C42.r C72.r))));(repeat'(first|apply jc<;>intro _|simp(disch:=first|exact jT|fail) only[ja i9,ja i12,ja i89,ja hi,ja hn,jlU,hsv,h40,H1,H2,E3,E4,E5,bEq,bNe,C4.q,C7.q,C41.q,C71.q,C42.q,C72.q,C4.r,C7.r,C41.r,C71.r,C42.r,C72.r,r13,δ,ε,ζ,η,θ]));all_goals clear zz)
         refine⟨⟨om,C43,C73,?_,?_,?_⟩,?_,?_⟩<;>simp(disch:=decide) only[jb]<;>assumption
      ·repeat'(first|apply jc<;>intro _|simp(disch:=first|exact dzG|fail) only[r13,δ,ε,ζ,η,θ])
     ·repeat'(first|apply jc<;>intro _|simp(disch:=first|exact dzG|fail) only[E9,E10,W1,W2,D1,D2,d1,d2,X1,X2,Yg,Yf,Ye,fNe,k1,k2,r13,δ,ε,ζ,η,θ])
    ·repeat'(first|apply jc<;>intro _|simp(disch:=first|exact dzG|fail) only[E9,E10,W1,W2,D1,D2,d1,d2,X1,X2,Yg,Yf,Ye,fNe,k1,r13,δ,ε,ζ,η,θ])
end Go.Sy
end
noncomputable section
namespace Go.Proofs
open Go.Shelf
def Tryz.laysC174_ren:Go.Shelf.Ren:=⟨λ|174=>117|247=>140|245=>141|287=>159|279=>160|280=>161|281=>162|282=>163|321=>171|322=>172|316=>173|171=>175|205=>174|243=>176|246=>177|283=>135|284=>136|285=>137|286=>138|129=>155|317=>154|318=>156|319=>157|320=>158|337=>169|338=>170|n=>n,λ|9=>9|3=>3|2=>2|75=>191|85=>192|4=>4|167=>227|5=>5|53=>122|175=>228|46=>225|168=>230|37=>125|0=>0|210=>241|21=>21|127=>245|145=>248|143=>246|171=>209|173=>212|212=>222|51=>223|20=>20|213=>224|232=>243|233=>244|80=>250|n=>n,λ|15=>1|16=>2|17=>0|18=>3|19=>4|n=>n⟩
theorem Tryz.laysC174:Go.Proofs.LaysC.n174 γ Tryz.laysC174_ren:={
 mixed:=by kernel_rfl
 f129:=Tryz.func155.trans (congrArg some (by kernel_rfl))
 f171:=Tryz.func175.trans (congrArg some (by kernel_rfl))
 f174:=Tryz.func117.trans (congrArg some (by kernel_rfl))
 f205:=Tryz.func174.trans (congrArg some (by kernel_rfl))
 f243:=Tryz.func176.trans (congrArg some (by kernel_rfl))
 f245:=Tryz.func141.trans (congrArg some (by kernel_rfl))
 f246:=Tryz.func177.trans (congrArg some (by kernel_rfl))
 f247:=Tryz.func140.trans (congrArg some (by kernel_rfl))
 f279:=Tryz.func160.trans (congrArg some (by kernel_rfl))
 f280:=Tryz.func161.trans (congrArg some (by kernel_rfl))
 f281:=Tryz.func162.trans (congrArg some (by kernel_rfl))
 f282:=Tryz.func163.trans (congrArg some (by kernel_rfl))
 f283:=Tryz.func135.trans (congrArg some (by kernel_rfl))
 f284:=Tryz.func136.trans (congrArg some (by kernel_rfl))
 f285:=Tryz.func137.trans (congrArg some (by kernel_rfl))
 f286:=Tryz.func138.trans (congrArg some (by kernel_rfl))
 f287:=Tryz.func159.trans (congrArg some (by kernel_rfl))
 f316:=Tryz.func173.trans (congrArg some (by kernel_rfl))
 f317:=Tryz.func154.trans (congrArg some (by kernel_rfl))
 f318:=Tryz.func156.trans (congrArg some (by kernel_rfl))
 f319:=Tryz.func157.trans (congrArg some (by kernel_rfl))
 f320:=Tryz.func158.trans (congrArg some (by kernel_rfl))
 f321:=Tryz.func171.trans (congrArg some (by kernel_rfl))
 f322:=Tryz.func172.trans (congrArg some (by kernel_rfl))
 f337:=Tryz.func169.trans (congrArg some (by kernel_rfl))
 f338:=Tryz.func170.trans (congrArg some (by kernel_rfl))
 t0:=Tryz.underlying0
 a0:=Tryz.isAgg0
 z0:=Tryz.sizeOf0
 v0:=Tryz.zeroValue0
 t2:=Tryz.underlying2
 a2:=Tryz.isAgg2
 z2:=Tryz.sizeOf2
 v2:=Tryz.zeroValue2
 t3:=Tryz.underlying3
 a3:=Tryz.isAgg3
 z3:=Tryz.sizeOf3
 v3:=Tryz.zeroValue3
 t4:=Tryz.underlying4
 a4:=Tryz.isAgg4
 z4:=Tryz.sizeOf4
 v4:=Tryz.zeroValue4
 t5:=Tryz.underlying5
 a5:=Tryz.isAgg5
 z5:=Tryz.sizeOf5
 v5:=Tryz.zeroValue5
 t9:=Tryz.underlying9
 a9:=Tryz.isAgg9
 z9:=Tryz.sizeOf9
 v9:=Tryz.zeroValue9
 t20:=Tryz.underlying20
 a20:=Tryz.isAgg20
 z20:=Tryz.sizeOf20
 v20:=Tryz.zeroValue20
 t21:=Tryz.underlying21
 a21:=Tryz.isAgg21
 z21:=Tryz.sizeOf21
 v21:=Tryz.zeroValue21
 t37:=Tryz.underlying125
 a37:=Tryz.isAgg125
 z37:=Tryz.sizeOf125
 v37:=Tryz.zeroValue125
 t46:=Tryz.underlying225
 a46:=Tryz.isAgg225
 z46:=Tryz.sizeOf225
 v46:=Tryz.zeroValue225
 t51:=Tryz.underlying223
 a51:=Tryz.isAgg223
 z51:=Tryz.sizeOf223
 v51:=Tryz.zeroValue223
 t53:=Tryz.underlying122
 a53:=Tryz.isAgg122
 z53:=Tryz.sizeOf122
 v53:=Tryz.zeroValue122
 t75:=Tryz.underlying191
 a75:=Tryz.isAgg191
 z75:=Tryz.sizeOf191
 v75:=Tryz.zeroValue191
 t85:=Tryz.underlying192
 a85:=Tryz.isAgg192
 z85:=Tryz.sizeOf192
 v85:=Tryz.zeroValue192
 t127:=Tryz.underlying245
 a127:=Tryz.isAgg245
 z127:=Tryz.sizeOf245
 v127:=Tryz.zeroValue245
 t143:=Tryz.underlying246
 a143:=Tryz.isAgg246
 z143:=Tryz.sizeOf246
 v143:=Tryz.zeroValue246
 t145:=Tryz.underlying248
 a145:=Tryz.isAgg248
 z145:=Tryz.sizeOf248
 v145:=Tryz.zeroValue248
 t167:=Tryz.underlying227
 a167:=Tryz.isAgg227
 z167:=Tryz.sizeOf227
 v167:=Tryz.zeroValue227
 t168:=Tryz.underlying230
 a168:=Tryz.isAgg230
 z168:=Tryz.sizeOf230
 v168:=Tryz.zeroValue230
 t171:=Tryz.underlying209
 a171:=Tryz.isAgg209
 z171:=Tryz.sizeOf209
 v171:=Tryz.zeroValue209
 t173:=Tryz.underlying212
 a173:=Tryz.isAgg212
 z173:=Tryz.sizeOf212
 v173:=Tryz.zeroValue212
 t175:=Tryz.underlying228
 a175:=Tryz.isAgg228
 z175:=Tryz.sizeOf228
 v175:=Tryz.zeroValue228
 t210:=Tryz.underlying241
 a210:=Tryz.isAgg241
 z210:=Tryz.sizeOf241
 v210:=Tryz.zeroValue241
 t212:=Tryz.underlying222
 a212:=Tryz.isAgg222
 z212:=Tryz.sizeOf222
 v212:=Tryz.zeroValue222
 t213:=Tryz.underlying224
 a213:=Tryz.isAgg224
 z213:=Tryz.sizeOf224
 t232:=Tryz.underlying243
 a232:=Tryz.isAgg243
 z232:=Tryz.sizeOf243
 v232:=Tryz.zeroValue243
 t233:=Tryz.underlying244
 a233:=Tryz.isAgg244
 z233:=Tryz.sizeOf244
 v233:=Tryz.zeroValue244
 g15:=by kernel_rfl
 g16:=by kernel_rfl
 g17:=by kernel_rfl
 g18:=by kernel_rfl
 g19:=by kernel_rfl
 t80:=Tryz.underlying250
 a80:=Tryz.isAgg250
 z80:=Tryz.sizeOf250
 v80:=Tryz.zeroValue250
 i0:=by kernel_rfl
 i2:=by kernel_rfl
 i3:=by kernel_rfl
 i4:=by kernel_rfl
 i5:=by kernel_rfl
 i9:=by kernel_rfl
 i20:=by kernel_rfl
 i21:=by kernel_rfl
 i37:=by kernel_rfl
 i46:=by kernel_rfl
 i51:=by kernel_rfl
 i53:=by kernel_rfl
 i75:=by kernel_rfl
 i80:=by kernel_rfl
 i85:=by kernel_rfl
 i127:=by kernel_rfl
 i143:=by kernel_rfl
 i145:=by kernel_rfl
 i167:=by kernel_rfl
 i168:=by kernel_rfl
 i171:=by kernel_rfl
 i173:=by kernel_rfl
 i175:=by kernel_rfl
 i210:=by kernel_rfl
 i212:=by kernel_rfl
 i232:=by kernel_rfl
 i233:=by kernel_rfl
 m15:=by kernel_rfl
 m16:=by kernel_rfl
 m17:=by kernel_rfl
 m18:=by kernel_rfl
 m19:=by kernel_rfl
 c0:=by kernel_rfl
 c2:=by kernel_rfl
 c3:=by kernel_rfl
 c4:=by kernel_rfl
 c5:=by kernel_rfl
 c9:=by kernel_rfl
 c20:=by kernel_rfl
 c21:=by kernel_rfl
 c37:=by kernel_rfl
 c46:=by kernel_rfl
 c51:=by kernel_rfl
 c53:=by kernel_rfl
 c75:=by kernel_rfl
 c80:=by kernel_rfl
 c85:=by kernel_rfl
 c127:=by kernel_rfl
 c143:=by kernel_rfl
 c145:=by kernel_rfl
 c167:=by kernel_rfl
 c168:=by kernel_rfl
 c171:=by kernel_rfl
 c173:=by kernel_rfl
 c175:=by kernel_rfl
 c210:=by kernel_rfl
 c212:=by kernel_rfl
 c213:=by kernel_rfl
 c232:=by kernel_rfl
 c233:=by kernel_rfl }
open Go.RowKit in
theorem Tryz.strconv_ParseInt_10_at64_ok (s:ByteArray)(hmax:s.size<=9223372036854775806)(v:Int)(h:Lib.parseIntB 64 s.data.toList=.ok v)(w:World) :
 Calls γ 117 #[.string s,.int .i64 10,.int .i64 64] w λe w'=>e=.returned (.tuple #[.int .i64 v,.nilIface])/\(w'=w\/∃ t,w'=Lib.bytesWorld w 5 t):=Any.strconv_ParseInt_10_at64_ok Tryz.laysC174 s hmax v h w
open Go.RowKit in
theorem Tryz.strconv_ParseInt_10_at64_range (s:ByteArray)(hlim:s.size<=281474976710656)(h:Lib.parseIntB 64 s.data.toList=.range)(ev:Value)(w:World)(hv:w.cell? ⟨2,0,none⟩=some ev)(hev:ev=.nilIface\/∃ te pe,ev=.iface te pe) :
 Calls γ 117 #[.string s,.int .i64 10,.int .i64 64] w λe w'=>∃ N,e=.returned (.tuple #[.int .i64 (Lib.intSat 64 s.data.toList),.iface 230 (.pointer (some ⟨N,0,none⟩))])/\w.heap.size<=N/\w'.heap[N]? = some (.cells #[.string ⟨#[80,97,114,115,101,73,110,116]⟩,.string s,ev] 241 (0,0))/\Below w.heap.size w w':=Any.strconv_ParseInt_10_at64_range Tryz.laysC174 s hlim h ev w hv hev
end Go.Proofs
end
noncomputable section
namespace Go.Proofs
open Go.Shelf Go.RowKit Go.Lib
set_option maxHeartbeats 1000000 in
theorem Tryz.clone_nil (n c:Nat)(w:World):Calls γ 49 #[.slice none n c] w λe w'=>e=.returned (.slice none 0 0)/\w'=w:=by
 have mixed:Tryz.prog.follows .mixedOrders=true:=by kernel_rfl
 have t3:=Tryz.underlying2;have a3:=Tryz.isAgg2;have z3:=Tryz.sizeOf2;have v3:=Tryz.zeroValue2;have t4:=Tryz.underlying4;have a4:=Tryz.isAgg4;have z4:=Tryz.sizeOf4;have v4:=Tryz.zeroValue4;have t22:=Tryz.underlying30;have a22:=Tryz.isAgg30;have z22:=Tryz.sizeOf30;have v22:=Tryz.zeroValue30;have q22:∀ (w:World) (a:Option Addr) (n c n' c':Nat),(binOp .eql 30 (.slice a n c) (.slice none n' c')).run γ w=.ok (.bool a.isNone) w:=λw a n c n' c'=>Lib.run_eql_slice_nil w _ _ a n c n' c' Tryz.underlying30
 go_enter Tryz.func49,Tryz.ntmps49
 go_wp2
 go_ret
 exact⟨rfl,rfl⟩
set_option maxHeartbeats 2000000 in
set_option maxRecDepth 100000 in
theorem Tryz.clone_zero (a:Addr)(c:Nat)(w:World):Calls γ 49 #[.slice (some a) 0 c] w λe w'=>∃ v',e=.returned v'/\w'.ownsRow w.heap.size 2 1 v' 0 []/\Below w.heap.size w w':=by
 have mixed:Tryz.prog.follows .mixedOrders=true:=by kernel_rfl
 have t3:=Tryz.underlying2;have a3:=Tryz.isAgg2;have z3:=Tryz.sizeOf2;have v3:=Tryz.zeroValue2;have t4:=Tryz.underlying4;have a4:=Tryz.isAgg4;have z4:=Tryz.sizeOf4;have v4:=Tryz.zeroValue4;have t22:=Tryz.underlying30;have a22:=Tryz.isAgg30;have z22:=Tryz.sizeOf30;have v22:=Tryz.zeroValue30;have i3:(Tryz.prog.info? 2).map (λi=>(i.zero,i.size,i.bytes))=some (some (Value.int IntKind.i64 0),1,8):=by kernel_rfl
 obtain⟨i0,hi,hz0,hz1,hz2⟩:=info_parts i3;have q22:∀ (w:World) (a:Option Addr) (n c n' c':Nat),(binOp .eql 30 (.slice a n c) (.slice none n' c')).run γ w=.ok (.bool a.isNone) w:=λw a n c n' c'=>Lib.run_eql_slice_nil w _ _ a n c n' c' Tryz.underlying30;have u22:∀ w,Sem.run γ (underlying 30) w=.ok (TypeDesc.slice 2) w:=run_underlying t22
 go_enter Tryz.func49,Tryz.ntmps49
 go_wp2_with (at_builtin;refine wpList_append_own _ rfl _ _ 30 rfl w.heap.size 2 i0 (.int .i64 0) 1 8 t22 hi hz0 hz1 hz2 rfl dc _ _ _ rfl (World.ownsRow_made w #[] 0 (τ _) (Qae _) rfl) a 0 c [] rfl rfl (by intro j u hj;simp at hj) (by intro u hu;cases hu) (by unfold maxLen;omega) om (by simp) ?_)
 intro v' w1 hown hgrow hnil
 go_wp2
 go_ret
 refine⟨v',rfl,by simpa using hown,?_⟩;exact((Below.refl _ w).alloc (τ _) _).grown hgrow (by simp) (by intro k hk;simp[Value.ownBlock] at hk;omega)
end Go.Proofs
end
noncomputable section
set_option maxRecDepth 100000
namespace Go.Sy
open Go.Ev Go.Proofs
open Go.RowKit (Below)
theorem vw:okP γ=true:=by kernel_rfl
theorem Kx:Tryz.prog.follows .mixedOrders=true:=by kernel_rfl
theorem jsh:jip (gU γ 10000000 400 9 [] st0)=true:=by kernel_rfl
def G7 (l:List UInt8):Prop:=∀ c∈l,48<=c.toNat/\c.toNat<=57
theorem HB:∀ (l:List UInt8) (acc:Nat),G7 l->(acc+1) * 10 ^ l.length<=100000000->Lib.parseUintM 18446744073709551615 acc l=.ok ((l.map UInt8.toNat).foldl (λv c=>10 * v+(c - 48)) acc)
 |[],acc,_,_=>rfl
 |c :: r,acc,hd,h=>by
  have hc:=hd c (by simp);rw[υ,Nat.pow_succ] at h;have hp:1<=10 ^ r.length:=Nat.one_le_pow _ _ dc;have hacc:(acc+1) * 10<=100000000:=by
   have:(acc+1) * 10 * 1<=(acc+1) * 10 * 10 ^ r.length:=Nat.mul_le_mul_left _ hp;have e:(acc+1) * 10 * 10 ^ r.length=(acc+1) * (10 ^ r.length * 10):=by rw[Nat.mul_assoc,Nat.mul_comm 10]
   omega
  unfold Lib.parseUintM;rw[if_pos hc,if_neg om,if_neg om,HB r _ (λd hd'=>hd d (by simp[hd']))]
  ·show _=Lib.NumEnd.ok ((r.map UInt8.toNat).foldl _ (10 * acc+(c.toNat - 48)));rw[Nat.mul_comm acc 10]
  ·refine Qab ?_ h;have e:(acc+1) * (10 ^ r.length * 10)=((acc+1) * 10) * 10 ^ r.length:=by rw[Nat.mul_comm (10 ^ r.length),Nat.mul_assoc]
   rw[e];exact Qaw _ om
theorem Vo:∀ (l:List UInt8) (acc:Nat),G7 l->(∃ u,Lib.parseUintM 18446744073709551615 acc l=.ok u)\/Lib.parseUintM 18446744073709551615 acc l=.range
 |[],acc,_=>.inl ⟨acc,rfl⟩
 |c :: r,acc,hd=>by
  have hc:=hd c (by simp);unfold Lib.parseUintM;rw[if_pos hc];by_cases h1:1844674407370955162<=acc
  ·rw[if_pos h1];exact .inr rfl
  ·rw[if_neg h1];by_cases h2:18446744073709551615<acc * 10+(c.toNat - 48)
   ·rw[if_pos h2];exact .inr rfl
   ·rw[if_neg h2];exact Vo r _ λd hd'=>hd d (by simp[hd'])
theorem HC {l:List UInt8}(hne:l≠[])(hd:G7 l):Lib.parseIntB 64 l=Lib.signlessC (2 ^ 63) (Lib.parseUintM 18446744073709551615 0 l):=by
 obtain⟨c,r,rfl⟩:=List.exists_cons_of_ne_nil hne;have hc:=hd c (by simp);rw[Lib.parseIntB_plain 64 c r om om];unfold Lib.parseUintB;rw[if_neg (by simp)]
theorem jh1 {l:List UInt8}(hne:l≠[])(hd:G7 l)(h7:l.length<=7):Lib.parseIntB 64 l=.ok (vr (l.map UInt8.toNat):Int):=by
 have hle:10 ^ l.length<=10 ^ 7:=Nat.pow_le_pow_right dc h7;have e7:10 ^ 7=10000000:=dc
 rw[HC hne hd,HB l 0 hd om];have hv:=jnd (s:=l.map UInt8.toNat) (n:=l.length) (by simp) h7 (λc hc=>by
  obtain⟨b,hb,rfl⟩:=QaI.1 hc;have:=hd b hb;unfold qi;simp;omega)
 show Lib.signlessC _ (.ok (vr (l.map UInt8.toNat)))=_;generalize vr (l.map UInt8.toNat)=v at hv;unfold Lib.signlessC;simp;omega
theorem jfJ {l:List UInt8}(hne:l≠[])(hd:G7 l):(∃ v,Lib.parseIntB 64 l=.ok v)\/Lib.parseIntB 64 l=.range:=by
 rw[HC hne hd];rcases Vo l 0 hd with ⟨u,h⟩|h
 ·rw[h];unfold Lib.signlessC;by_cases hu:2 ^ 63<=u
  ·right;simp only[if_pos hu]
  ·left;exact⟨u,by simp only[if_neg hu]⟩
 ·rw[h];exact .inr rfl
def jc0 (s:List Nat):Bool:=decide (s≠[]) && s.all qi
theorem jcZ (s:List Nat):jc0 s=true↔Wh s:=by
 unfold jc0 Wh;simp
def ZT:qH:=λf args st=>match args with
 |[]=>if f=9 then .ok (.bool true) st else .no
 |[.str s,.int .i64 a,.int .i64 b]=>if f=117/\a=10/\b=64/\jc0 s=true/\s.length<=281474976710656 then(if s.length<=7 then .ok (.tup [.int .i64 (vr s:Int),.nilif]) st else .ok (.tup [.bad,.bad]) st) else .no
 |[.lst n cs]=>if f=49/\n=0/\cs=[] then .ok (.lst 0 []) st else .no
 |_=>.no
theorem jn5 (st:St):ZT 9 [] st=.ok (.bool true) st:=rfl
def wU:Bs:=⟨ZT,jfH⟩
theorem jdi:PI wU:=λs st hd hl=>by
 have e:ZT 117 [.str s,.int .i64 10,.int .i64 64] st=if(117=117/\(10:Int)=10/\(64:Int)=64/\jc0 s=true/\s.length<=281474976710656) then(if s.length<=7 then .ok (.tup [.int .i64 (vr s:Int),.nilif]) st else .ok (.tup [.bad,.bad]) st) else .no:=rfl
 simp only[show wU.run=ZT from rfl];rw[e,if_pos ⟨rfl,rfl,rfl,(jcZ s).2 hd,hl⟩];exact⟨λh=>if_pos h,λh=>if_neg om⟩
theorem kD (f:FuncId)(args:List AV)(st:St):ZT f args st=.no\/(f=9/\args=[])\/(f=117/\∃ s,args=[.str s,.int .i64 10,.int .i64 64]/\Wh s/\s.length<=281474976710656)\/(f=49/\args=[.lst 0 []]):=by
 unfold ZT;split
 ·by_cases h:f=9
  ·exact .inr (.inl ⟨h,rfl⟩)
  ·exact .inl (if_neg h)
 ·rename_i s a b;by_cases h:f=117/\a=10/\b=64/\jc0 s=true/\s.length<=281474976710656
  ·obtain⟨h1,rfl,rfl,h4,h5⟩:=h;exact .inr (.inr (.inl ⟨h1,s,rfl,(jcZ s).1 h4,h5⟩))
  ·exact .inl (if_neg h)
 ·rename_i n cs;by_cases h:f=49/\n=0/\cs=[]
  ·obtain⟨h1,rfl,rfl⟩:=h;exact .inr (.inr (.inr ⟨h1,rfl⟩))
  ·exact .inl (if_neg h)
 ·exact .inl rfl
theorem jlw (f:FuncId)(args:List AV)(st:St)(h9:f≠9)(h31:f≠117)(h49:f≠49):ZT f args st=.no:=by
 rcases kD f args st with h|⟨h,_⟩|⟨h,_⟩|⟨h,_⟩
 ·exact h
 ·exact absurd h h9
 ·exact absurd h h31
 ·exact absurd h h49
theorem Qw {ι:Inj}{st:St}{w w':World}(hs:Sim ι st.h st.nx w)(b:Below w.heap.size w w'):Sim ι st.h st.nx w'/\Grew ι w ι w':=by
 have gr:Grew ι w ι w':=⟨b.os,b.tape,b.output,b.size,λk hk _=>b.block k hk,λb B S e=>.inl ⟨b,S,e⟩,λB vs h=>.inl h⟩;exact⟨⟨λc B S e=>by
  obtain⟨o,x,h1,h2,h3⟩:=hs.obj c B S e;exact⟨o,x,h1,(b.block B (hs.lt e)).trans h2,h3⟩,hs.gone,hs.inj,hs.born,hs.glob.grew gr⟩,gr⟩
theorem jlx:JM γ wU.run:=by
 intro f args st ι w vs hs hv;simp only[show wU.run=ZT from rfl];rcases kD f args st with h|⟨rfl,rfl⟩|⟨rfl,s,rfl,hd,hl⟩|⟨rfl,rfl⟩
 ·rw[h];trivial
 ·rw[jn5];have hvs:vs = #[]:=by
   have:vs.toList=[]:=by simpa[VRs] using hv
   simpa using this
  subst hvs;have hb:Tryz.f9.body.isSome=true:=by kernel_rfl
  obtain⟨c,hc⟩:=Qcm.1 hb;refine⟨(ZB vw Tryz.func9 hc).2,Calls.mono (jkM vw (jeN Kx) jsh w ⟨⟨hs.glob.1.1,λb S e=>by cases e⟩,λB vs e=>by cases e⟩) λe w' ⟨he,hos,ht,ho,hsz,hk⟩=>⟨_,he,ι,Le.refl ι,?_,?_,?_,Cleanly.refl ι st⟩⟩
  ·simp only[VR]
  ·exact(Qw hs ⟨hos,ht,ho,hsz,hk⟩).1
  ·exact(Qw hs ⟨hos,ht,ho,hsz,hk⟩).2
 ·simp only[VRs,VR] at hv;obtain⟨v1,l1,e1,⟨bs,rfl,hbs⟩,v2,l2,rfl,rfl,v3,l3,rfl,rfl,rfl⟩:=hv;have hvs:vs = #[.string bs,.int .i64 10,.int .i64 64]:=by
   cases vs;simpa using e1
  subst hvs;have hlen:bs.data.toList.length=s.length:=by rw[<-hbs,Qar]
  have hsz:bs.size=s.length:=by rw[<-hlen,Qao];rfl
  have hne:bs.data.toList≠[]:=λh=>hd.1 (by rw[<-hbs,h];rfl);have hd8:G7 bs.data.toList:=λc hc=>by
   have:=hd.2 c.toNat (by rw[<-hbs];exact QaI.2 ⟨c,hc,rfl⟩);unfold qi at this;simp at this;omega
  have hent:Ev.Enters γ 117:=by
   have hb:Tryz.f117.body.isSome=true:=by kernel_rfl
   obtain⟨c,hc⟩:=Qcm.1 hb;exact(ZB vw Tryz.func117 hc).2
  have okc:∀ v,Lib.parseIntB 64 bs.data.toList=.ok v->Calls γ 117 #[.string bs,.int .i64 10,.int .i64 64] w λe w'=>e=.returned (.tuple #[.int .i64 v,.nilIface])/\Below w.heap.size w w':=λv h=>
   (Tryz.strconv_ParseInt_10_at64_ok bs om v h w).mono λe w' ⟨he,hw⟩=>⟨he,by
    rcases hw with rfl|⟨t,rfl⟩
    ·exact⟨rfl,rfl,rfl,τ _,λ_ _=>rfl⟩
    ·exact Lib.bytesWorld_below w 5 t⟩
  have hP:=jdi s st hd hl;simp only[show wU.run=ZT from rfl] at hP;by_cases h7:s.length<=7
  ·rw[hP.1 h7];refine⟨hent,(okc _ (jh1 hne hd8 om)).mono λe w' ⟨he,hb⟩=>⟨_,he,ι,Le.refl ι,?_,(Qw hs hb).1,(Qw hs hb).2,Cleanly.refl ι st⟩⟩;rw[hbs];simp only[VR,VRs];exact⟨_,rfl,_,_,rfl,rfl,_,_,rfl,rfl,rfl⟩
  ·rw[hP.2 om];refine⟨hent,?_⟩;have fin:∀ (x y:Value) (w':World),Below w.heap.size w w'->Jv ι w st st (.tup [.bad,.bad]) (.tuple #[x,y]) w':=λx y w' hb=>by
    refine⟨ι,Le.refl ι,?_,(Qw hs hb).1,(Qw hs hb).2,Cleanly.refl ι st⟩;simp only[VR,VRs];exact⟨_,rfl,_,_,rfl,trivial,_,_,rfl,trivial,rfl⟩
   rcases jfJ hne hd8 with ⟨v,h⟩|h
   ·exact(okc v h).mono λe w' ⟨he,hb⟩=>⟨_,he,fin _ _ w' hb⟩
   ·obtain⟨te,pe,hg⟩:=hs.glob.1.1;exact(Tryz.strconv_ParseInt_10_at64_range bs om h _ w hg (.inr ⟨te,pe,rfl⟩)).mono λe w' ⟨N,he,_,_,hb⟩=>⟨_,he,fin _ _ w' hb⟩
 ·have e49:ZT 49 [.lst 0 []] st=.ok (.lst 0 []) st:=rfl;rw[e49];simp only[VRs,VR] at hv;obtain⟨v1,l1,e1,⟨p,C,rfl,-,-,-⟩,rfl⟩:=hv;have hvs:vs = #[.slice p 0 C]:=by
   cases vs;simpa using e1
  subst hvs;have hb:Tryz.f49.body.isSome=true:=by kernel_rfl
  obtain⟨c,hc⟩:=Qcm.1 hb;refine⟨(ZB vw Tryz.func49 hc).2,?_⟩;cases p with
  |none=>
   refine(Tryz.clone_nil 0 C w).mono λe w' ⟨he,hw⟩=>⟨_,he,ι,Le.refl ι,?_,?_,?_,Cleanly.refl ι st⟩
   ·simp only[VR];exact⟨none,0,rfl,τ _,rfl,λh=>absurd h (Qbf _)⟩
   ·rw[hw];exact hs
   ·rw[hw];exact Grew.refl ι w
  |some a=>
   refine(Tryz.clone_zero a C w).mono λe w' ⟨v',he,ho,hb⟩=>⟨_,he,ι,Le.refl ι,?_,(Qw hs hb).1,(Qw hs hb).2,Cleanly.refl ι st⟩;simp only[VR];rcases ho.2 with ⟨rfl,_⟩|⟨g,cap,cur,rfl,_⟩
   ·exact⟨none,0,rfl,τ _,rfl,λh=>absurd h (Qbf _)⟩
   ·exact⟨_,cap,rfl,Qae _,rfl,λh=>absurd h (Qbf _)⟩
end Go.Sy
end
noncomputable section
set_option maxRecDepth 100000
namespace Go.Sy
open Go.Ev Go.Proofs
theorem jdS {ι:Inj}:∀ {cs:List AV} {v:Value},VRs ι cs v.cells.toList->2<=cs.length->VR ι (.agg cs) v
 |a :: b :: r,v,h,_=>by
  cases v;case agg c=>exact⟨c,rfl,h⟩
  all_goals
   exfalso;obtain⟨v1,l1,e1,_,v2,l2,e2,_⟩:=h;simp[Value.cells] at e1;rw[e2] at e1;simp at e1
 |[],v,h,h2=>by simp at h2
 |[a],v,h,h2=>by simp at h2
theorem arg_src {w:World}{m:SrcT}{v:Value}(h:VRs (frW w) (srE m) v.cells.toList):VR (frW w) (.agg (srE m)) v:=jdS h (by rw[wx];decide)
theorem arg_ex {w:World}{x:Ex}{v:Value}(h:VRs (frW w) (eE x) v.cells.toList):VR (frW w) (.agg (eE x)) v:=jdS h (by rw[zT];decide)
theorem base4_9 (st:St):wU.run 9 [] st=.ok (.bool true) st:=rfl
theorem base4_PI:PI wU:=jdi
theorem base4_NB:NB wU:=⟨λf h args st=>jlw f args st (by rintro rfl;simp[VO] at h) (by rintro rfl;simp[VO] at h) (by rintro rfl;simp[VO] at h),rfl⟩
theorem law_calls {f:FuncId}{xs:List AV}{vs:Array Value}{w:World}(h:XB γ wU f xs st0 (λv _=>v=.bool true) λ_ _=>False)(hg:∃ te pe,w.cell? ⟨2,0,none⟩=some (.iface te pe))(hv:VRs (frW w) xs vs.toList) :
  Calls γ f vs w λe w'=>e=.returned (.bool true)/\w'.os=w.os/\w'.tape=w.tape/\w'.output=w.output/\w.heap.size<=w'.heap.size/\∀ k,k<w.heap.size->w'.heap[k]? = w.heap[k]?:=by
 have h2:=CW.calls vw (jeN Kx) jlx (K:=λv _=>v=.bool true) h.cb (jnq hg) hv;refine Calls.mono h2 λe w' ⟨v,x,st',he,hK,ι',_,hv,_,hg,_⟩=>?_;rw[hK] at hv;simp only[VR] at hv;rw[hv] at he;exact⟨he,hg.os,hg.tape,hg.output,hg.size,λk hk=>hg.keep k hk (λb S e=>by cases e)⟩
end Go.Sy
end
