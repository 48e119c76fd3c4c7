import Derived.Test.YtndomfbgcaiijaaGreatDoorBfSyA
import Derived.WalkKit
import Derived.ProofKit
import Derived.OpenShut
import Derived.IntWalk
set_option linter.unusedVariables false
set_option linter.unusedSimpArgs false
open Nat renaming reduceAdd -> γ, reduceSub -> ε, le_refl -> η, le_trans -> χ, zero_le -> Qae, zero_add -> Qaj, le_max_left -> Qao, le_max_right -> Qap, lt_or_ge -> Qaq, lt_of_lt_of_le -> Qat, sub_zero -> QaF, not_lt_zero -> QaI, lt_succ_self -> QaW, lt_irrefl -> Qba, le_of_lt -> Qbo, pow_le_pow_right -> Qbu, min_eq_left -> Qbx, mod_eq_of_lt -> Qby, lt_trichotomy -> Qco, beq -> QcA, succ -> QcB, ble -> QcC, add -> QcD, mul -> QcE, sub -> QcF
open List renaming map_cons -> ζ, map_nil -> θ, getD_cons_zero -> κ, getD_cons_succ -> μ, length_cons -> τ, length_append -> υ, length_nil -> φ, range -> ω, getElem_mem -> Qaa, getD_eq_getElem?_getD -> Qab, length_map -> Qac, getElem?_eq_getElem -> Qad, getD -> Qaf, range' -> Qag, all_eq_true -> Qah, cons_append -> Qai, cons -> Qal, nil_append -> Qam, length_take -> Qas, length_drop -> Qav, map_append -> Qay, all_cons -> QaC, take_zero -> QaG, mem_append -> QaH, mem_singleton -> QaL, mem_map -> QaQ, map_congr_left -> QaR, mem_cons -> QaT, append_nil -> QaU, mem_range -> QaZ, map_map -> Qbc, getElem?_map -> Qbf, ext_getElem -> Qbg, drop_zero -> Qbl, range'_succ -> Qbn, range_succ -> Qbs, getElem?_append_left -> Qbt, take_succ_eq_append_getElem -> QbG, getElem?_take -> QbH, getElem?_append_right -> QbK, take_take -> QbT, foldr_cons -> QbV, take_add_one -> QbX, foldl_append -> Qca, getElem?_range -> Qcb, mem_cons_of_mem -> Qcc, countP_singleton -> Qcq, take_succ_cons -> Qcr
open Bool renaming and_eq_true -> ψ, eq_iff_iff -> Qaw, or_eq_true -> QaE, not_eq_true' -> QaO, false_eq_true -> QaP, or_eq_false_iff -> QbW
open Array renaming length_toList -> Qan, getElem?_eq_some_iff -> Qax, replicate -> QaK, toList_map -> Qbz, getElem?_toList -> QbM, getD_eq_getD_getElem? -> QbZ, toList_append -> Qcn, mem_toList_iff -> Qcp, getElem?_eq_getElem -> Qcv
open Option renaming map_some -> Qau, getD_some -> QaM, bind_some -> Qbe, map_none -> Qbh, map_eq_some_iff -> QbA
open Function renaming comp_def -> Qcl
noncomputable section
namespace Go.Ev
open Go.RowKit
variable {P:Program}{ops:Array Oper}{t:TypeId}{A:Nat->Prop}
theorem Pu.mk {v:AV}{F:St->ER}(h:∀ st,F st=.ok v st):Pu F:=λst x st' e=>by
 rw[h] at e;cases e;exact⟨rfl,λst2=>h st2⟩
section
variable {P:Program} {op:Operand->OF} {env:Env}
theorem jl2 (t:TypeId)(ps:List (Nat×OF)):Pu λst=>(UJ P t ps).run env st:=by
 unfold UJ;split
 .rename_i z fields _ _;cases fields.toList.all λf=>(Ev.sizeOf P f.type).isSome
  .exact Pu.no
  .exact Pu.some λ_=>Pu.ok _
 .split
  .exact Pu.some λ_=>Pu.ok _
  .exact Pu.no
 .exact Pu.no
theorem k9 (x:OF):Pu λst=>(Qn x).run env st:=by
 unfold Qn;dsimp only;generalize x.run env=v;cases v<;>first|exact Pu.no|exact Pu.ok _
theorem jcN (b:BinOp)(t:TypeId)(c:Bool)(x y:OF):Pu λst=>(Qk P b t c x y).run env st:=by
 unfold Qk;split
 .split<;>first|exact Pu.no|exact Pu.some λ_=>Pu.ok _
 .split
  .dsimp only;generalize x.run env=u;generalize y.run env=v;cases u<;>cases v<;>first|exact Pu.no|exact Pu.some λ_=>Pu.ok _
  .dsimp only;generalize x.run env=u;generalize y.run env=v;cases u<;>cases v<;>first|exact Pu.no|exact Pu.some λ_=>Pu.ok _
  .dsimp only;generalize x.run env=u;generalize y.run env=v;cases u<;>cases v<;>first|exact Pu.no|exact Pu.cond (Pu.some λ_=>Pu.ok _) Pu.no
 .dsimp only;generalize x.run env=u;generalize y.run env=v;cases u<;>cases v<;>first|exact Pu.no|exact Pu.some λ_=>Pu.ok _
 .cases P.eqGuardType P.depth t
  .simp only[cond_false];split<;>first|exact Pu.no|exact Pu.some λ_=>Pu.ok _
  .exact Pu.no
theorem jeM (b:UnOp)(x:OF):Pu λst=>(YR b x).run env st:=by
 unfold YR;split
 .dsimp only;generalize x.run env=v;cases v<;>first|exact Pu.no|exact Pu.ok _
 .dsimp only;generalize x.run env=v;cases v<;>first|exact Pu.no|exact Pu.some λ_=>Pu.ok _
 .exact Pu.bool λ_=>Pu.ok _
 .exact Pu.no
theorem jcK (t:TypeId)(x:OF)(lo hi mx:Option OF):Pu λst=>(Xa P t x lo hi mx).run env st:=by
 unfold Xa;split
 .split
  .exact Pu.str λs=>Pu.force λn=>Pu.opt λl=>Pu.opt λh=>Pu.cond (Pu.cond (Pu.ok _) Pu.no) Pu.no
  .exact Pu.no
 .split
  .split
   .dsimp only;generalize x.run env=v;cases v;case nils=>exact Pu.opt λl=>Pu.opt λh=>Pu.cond (Pu.cond (Pu.ok _) Pu.no) Pu.no
    case slice=>exact Pu.opt λl=>Pu.opt λh=>Pu.cond (Pu.cond (Pu.cond (Pu.force λk=>Pu.force λo=>Pu.force λc=>Pu.ok _) Pu.no) Pu.no) Pu.no
    case lst=>exact Pu.opt λl=>Pu.opt λh=>Pu.cond (Pu.cond (Pu.cond (Pu.ok _) Pu.no) Pu.no) Pu.no
    all_goals exact Pu.no
   .split
    .exact Pu.no
    .dsimp only;generalize x.run env=v;cases v;case slice=>exact Pu.opt λl=>Pu.nat λh=>Pu.nat λm=>Pu.cond (Pu.cond (Pu.cond (Pu.force λk=>Pu.force λo=>Pu.force λc=>Pu.ok _) Pu.no) Pu.no) Pu.no
     case lst=>exact Pu.opt λl=>Pu.nat λh=>Pu.nat λm=>Pu.cond (Pu.cond (Pu.cond (Pu.cond (Pu.ok _) Pu.no) Pu.no) Pu.no) Pu.no
     all_goals exact Pu.no
  .exact Pu.no
 .split
  .split
   .exact Pu.ptr λb o=>Pu.opt λl=>Pu.opt λh=>Pu.cond (Pu.cond (Pu.force λk=>Pu.force λo=>Pu.force λc=>Pu.ok _) Pu.no) Pu.no
   .exact Pu.no
  .exact Pu.no
 .exact Pu.no
theorem jcM (s:TypeId)(x:OF)(f:Nat):Pu λst=>(Y3 P s x f).run env st:=by
 unfold Y3;split
 .split
  .split
   .dsimp only;generalize x.run env=v;cases v;case ptr=>exact Pu.force λo=>Pu.ok _
    case lptr=>exact Pu.ok _
    all_goals exact Pu.no
   .exact Pu.no
  .exact Pu.no
 .exact Pu.no
theorem jl1 (s:TypeId)(x:OF)(f:Nat):Pu λst=>(Wy P s x f).run env st:=by
 unfold Wy;split
 .split
  .exact Pu.agg λcs=>Pu.some λv=>Pu.ok _
  .exact Pu.no
 .exact Pu.no
theorem jcL (t:TypeId)(x i:OF):Pu λst=>(XI P t x i).run env st:=by
 unfold XI;split
 .split
  .exact Pu.ptr λb o=>Pu.nat λi=>Pu.cond (Pu.force λo=>Pu.ok _) Pu.no
  .exact Pu.no
 .split
  .dsimp only;generalize x.run env=v;cases v;case slice=>exact Pu.nat λi=>Pu.cond (Pu.force λo=>Pu.ok _) Pu.no
   case lst=>exact Pu.nat λi=>Pu.cond (Pu.ok _) Pu.no
   all_goals exact Pu.no
  .exact Pu.no
 .exact Pu.no
theorem jl0 (t:TypeId)(x i:OF):Pu λst=>(vV P t x i).run env st:=by
 unfold vV;split
 .split
  .exact Pu.agg λcs=>Pu.nat λi=>Pu.cond (Pu.some λv=>Pu.ok _) Pu.no
  .exact Pu.no
 .exact Pu.str λs=>Pu.nat λi=>Pu.cond (Pu.ok _) Pu.no
 .exact Pu.no
theorem W6 (b:Builtin)(hb:b=.cap\/b=.min\/b=.max)(ts:Array TypeId)(l:List OF):Pu λst=>(qF P b ts l).run env st:=by
 unfold qF;split
 .rcases hb with h|h|h<;>cases h
 .unfold UH;split
  .dsimp only;rename_i x _ _ _ _ _ _;generalize OF.run _ env=v;cases v;case nils=>exact Pu.ok _
   case slice b o n c sz ex=>cases ex<;>first|exact Pu.no|exact Pu.ok _
   all_goals exact Pu.no
  .exact Pu.no
 .rcases hb with h|h|h<;>cases h
 .rcases hb with h|h|h<;>cases h
 .exact Pu.some λv=>Pu.ok _
 .exact Pu.some λv=>Pu.ok _
 .exact Pu.no
theorem jr5 (ts:Array TypeId)(l:List OF)(h:∀ t r,ts.toList=t :: r->∀ k e,P.underlying t≠some (.map k e)):Pu λst=>(qF P .len ts l).run env st:=by
 unfold qF;split
 .rename_i x t r ht;unfold wi;split
  .dsimp only;generalize OF.run _ env=v;cases v;case str=>exact Pu.force λ_=>Pu.ok _
   case zstr=>exact Pu.ok _
   all_goals exact Pu.no
  .exact Pu.ok _
  .dsimp only;generalize OF.run _ env=v;cases v;case nils=>exact Pu.ok _
   case slice=>exact Pu.ok _
   case lst=>exact Pu.ok _
   all_goals exact Pu.no
  .rename_i hu;exact absurd hu (h _ _ ht _ _)
  .exact Pu.no
 all_goals first|exact Pu.no|contradiction
theorem jiD (o:Op)(h:jY P o=.pure):Pu λst=>(jy P op o).run env st:=by
 cases o<;>simp only[jY] at h<;>try(cases h;done)
 case move x=>exact Pu.ok _
 case assign x=>exact Pu.ok _
 case pick c a b=>exact Pu.bool λq=>Pu.ok _
 case build t ps=>exact jl2 t _
 case nilCheck x=>exact k9 _
 case binOp b t x y s=>exact jcN _ _ _ _ _
 case unOp b t x=>exact jeM _ _
 case makeInterface t x=>
  simp only[jy];split
  .exact Pu.no
  .exact Pu.ok _
  .exact Pu.no
 case makeFunc f first caps=>
  cases f;case func f=>
   simp only[jy];split
   .exact Pu.ok _
   .exact Pu.no
  all_goals exact Pu.no
 case slice t x lo hi mx=>exact jcK _ _ _ _ _
 case fieldAddr s x f=>exact jcM _ _ _
 case field s x f=>exact jl1 _ _ _
 case indexAddr t x i=>exact jcL _ _ _
 case index t x i=>exact jl0 _ _ _
 case extract x i=>
  simp only[jy];generalize (op x).run env=v;cases v;case tup=>exact Pu.cond (Pu.ok _) Pu.no
  all_goals exact Pu.no
 case call c=>
  split at h
  .rename_i hc;simp only[jy,hc];split at h
   .rename_i t r ht;split at h
    .cases h
    .rename_i hnm;refine jr5 _ _ λt' r' ht' k e hm=>?_;rw[ht] at ht';cases ht';exact hnm k e hm
   .cases h
  .rename_i hc;simp only[jy,hc];exact W6 _ (.inl rfl) _ _
  .rename_i hc;simp only[jy,hc];exact W6 _ (.inr (.inl rfl)) _ _
  .rename_i hc;simp only[jy,hc];exact W6 _ (.inr (.inr rfl)) _ _
  .cases h
def Mk (F:St->ER):Prop:=∀ st v st',F st=.ok v st'->∃ o,st'=⟨st.nx+1,(j2 (jK st.nx)).run o st.h,st.dirty,st.fr⟩ /\
 ∀ st2,st2.nx=st.nx->F st2=.ok v ⟨st2.nx+1,(j2 (jK st2.nx)).run o st2.h,st2.dirty,st2.fr⟩
theorem Mk.no:Mk λ_=>.no:=λst v st' h=>by cases h
theorem Mk.cond {b:Bool}{F G:St->ER}(hF:Mk F)(hG:Mk G):Mk λst=>cond b (F st) (G st):=by cases b<;>assumption
theorem Mk.some {α:Type}{x:Option α}{F:α->St->ER}(h:∀ b,Mk (F b)):Mk λst=>jN x λb=>F b st:=by
 cases x<;>first|exact h _|exact Mk.no
theorem Mk.nat {x:AV}{F:Nat->St->ER}(h:∀ b,Mk (F b)):Mk λst=>qv x λb=>F b st:=by
 unfold qv;split
 .simp only[jF];exact h _
 .exact Mk.no
theorem Mk.force {n:Nat}{F:Nat->St->ER}(h:∀ b,Mk (F b)):Mk λst=>force n λb=>F b st:=by
 simp only[jF];exact h _
theorem Mk.alloc (o:AO)(f:Nat->AV):Mk λst=>st.alloc o λb st=>.ok (f b) st:=λst v st' h=>by
 simp only[St.alloc,jF] at h;cases h;refine⟨o,rfl,λst2 h2=>?_⟩;simp only[St.alloc,jF,h2]
theorem Mk.row (l:List AV):Mk λst=>newRow st l:=by
 unfold newRow;exact Mk.force λn=>Mk.alloc _ _
theorem jiN (o:Op)(h:jY P o=.makes):Mk λst=>(jy P op o).run env st:=by
 cases o<;>simp only[jY] at h<;>try(cases h;done)
 case alloc t=>
  simp only[jy];cases zeroCells P t with
  |none=>exact Mk.no
  |some z=>
   dsimp only;cases lall AV.cell z
   .exact Mk.no
   .exact Mk.row _
 case box t x=>exact Mk.cond (Mk.row _) Mk.no
 case buildSlice t n ps=>
  simp only[jy];unfold ZX;split
  .split
   .generalize cond _ _ false=cc;cases cc
    .exact Mk.no
    .exact Mk.some λcells=>Mk.cond (Mk.force λn=>Mk.alloc _ _) Mk.no
   .exact Mk.no
  .exact Mk.no
 case makeMap t r=>
  cases r with
  |none=>exact Mk.alloc _ _
  |some r=>exact Mk.no
 case makeSlice t l c=>
  simp only[jy];unfold wM;split
  .split
   .generalize cond _ _ false=cc;cases cc
    .exact Mk.no
    .exact Mk.nat λl=>Mk.nat λc=>Mk.cond (Mk.cond (Mk.cond (Mk.force λn=>Mk.alloc _ _) Mk.no) Mk.no) Mk.no
   .exact Mk.no
  .exact Mk.no
 case call c=>
  exfalso;split at h
  .split at h
   .split at h<;>cases h
   .cases h
  all_goals cases h
theorem jo4 {t:TypeId}{x:OF}{st st':St}{v:AV}(h:(Y1 P t x).run env st=.ok v st'):st'=st/\(qV P t).run (x.run env) st.h=some v:=by
 unfold Y1 at h;dsimp only at h;cases hk:(qV P t).run (x.run env) st.h with
 |none=>rw[hk] at h;cases h
 |some u=>rw[hk] at h;cases h;exact⟨rfl,rfl⟩
theorem Uk {t:TypeId}{b o:Nat}{h h2:T AO}(e:jv h b=jv h2 b):(qV P t).run (.ptr b o) h=(qV P t).run (.ptr b o) h2:=by
 unfold qV;split
 .simp only[e]
 .simp only[e]
 .rfl
theorem jiT {t:TypeId}{a v:AV}{h:T AO}(e:(qV P t).run a h=some v):(∃ b o,a=.ptr b o)\/∃ cs o,a=.lptr cs o:=by
 unfold qV at e;split at e
 .cases a<;>first|(cases e;done)|exact .inl ⟨_,_,rfl⟩|exact .inr ⟨_,_,rfl⟩
 .cases a<;>first|(cases e;done)|exact .inl ⟨_,_,rfl⟩|exact .inr ⟨_,_,rfl⟩
 .cases e
theorem jgD {t:TypeId}{cs:List AV}{o:Nat}(h h2:T AO):(qV P t).run (.lptr cs o) h=(qV P t).run (.lptr cs o) h2:=by
 unfold qV;split<;>rfl
end
def J5 (w:Bool)(st:St):St:=cond w (stW st) st
def unSt (w:Bool)(st st1:St):St:=cond w ⟨st1.nx,st1.h,st.dirty,st1.fr⟩ st1
theorem jia {st st1:St}{k:St->R}:unW st st1 k=cond (QcC st.nx st1.dirty) (k ⟨st1.nx,st1.h,st.dirty,st1.fr⟩) .no:=by
 simp only[unW,jF]
def OpR (P:Program)(op:Operand->OF)(w:Bool)(call:qG)(o:Op)(env:Env)(st:St)(v:AV)(st':St):Prop:=
 ∃ st1,(w=true->st.nx<=st1.dirty) /\
  match qy o with
  |some (f,args)=>∃ fid caps,(op f).run env=.fn fid caps/\call fid (yN (yj (λx=>(op x).run env) args) caps) (J5 w st)=.ok v st1/\st'=back st (unSt w st st1)
  |none=>(jy P op o).run env (J5 w st)=.ok v st1/\st'=unSt w st st1
def JL (P:Program)(op:Operand->OF)(o:Op)(env:Env)(v:AV)(st st':St):TE:=
 match jY P o with
 |.pure=>.none
 |.makes=>.none
 |.reads=>(match o with | .load _ a=>.rd ((op a).run env) v|_=>.none)
 |.writes=>.wr st.h st'.h
 |.other=>.wr st.h st'.h
theorem Qi {o:Op}{x:Operand×List Operand}(h:qy o=some x):jY P o=.other:=by
 unfold qy at h;split at h
 .rename_i c;split at h
  .rename_i f hf;simp only[jY,hf]
  .cases h
 .cases h
def OpP (op:Operand->OF)(call:qG)(o:Op)(env:Env)(st:St)(v:AV)(st':St):Prop:=
 ∃ f args fid caps st1,qy o=some (f,args)/\(op f).run env=.fn fid caps/\call fid (yN (yj (λx=>(op x).run env) args) caps) st=.pn v st1/\st'=back st st1
theorem jr9 {P:Program}{op:Operand->OF}{w:Bool}{call:qG}{o:Op}{env:Env}{st:St}{k:AV->TE->St->R}{kp:AV->St->R}(hw:w=true->jY P o=.other)
  (h:(opD P op w o).run call env st k kp≠.no):(∃ v st',OpR P op w call o env st v st'/\(opD P op w o).run call env st k kp=k v (JL P op o env v st st') st') \/
   (∃ v st',OpP op call o env st v st'/\(opD P op w o).run call env st k kp=kp v st'):=by
 unfold opD at h ⊢;unfold OpR OpP;cases hc:qy o with
 |some x=>
  obtain⟨f,args⟩:=x;rw[hc] at h;have ho:=Qi (P:=P) hc;dsimp only at h ⊢;cases w
  .simp only[cond_false] at h ⊢;cases hf:(op f).run env<;>rw[hf] at h<;>try(exact absurd rfl h)
   rename_i fid caps;dsimp only at h ⊢;cases he:call fid (yN (yj (λx=>(op x).run env) args) caps) st with
   |no=>rw[he] at h;exact absurd rfl h
   |pn v s=>exact .inr ⟨v,back st s,⟨f,args,fid,caps,s,rfl,hf,he,rfl⟩,rfl⟩
   |ok v s=>
    refine .inl ⟨v,back st s,⟨s,(λh=>by cases h),fid,caps,rfl,he,rfl⟩,?_⟩;simp only[JL,ho];rfl
  .simp only[cond_true] at h ⊢;cases hf:(op f).run env<;>rw[hf] at h<;>try(exact absurd rfl h)
   rename_i fid caps;dsimp only at h ⊢;cases he:call fid (yN (yj (λx=>(op x).run env) args) caps) (stW st) with
   |no=>rw[he] at h;exact absurd rfl h
   |pn v s=>rw[he] at h;exact absurd rfl h
   |ok v s=>
    rw[he] at h;dsimp only at h ⊢;rw[jia] at h ⊢;cases hb:QcC st.nx s.dirty
    .rw[hb] at h;exact absurd rfl h
    .rw[qi] at hb;refine .inl ⟨v,back st ⟨s.nx,s.h,st.dirty,s.fr⟩,⟨s,λ_=>hb,fid,caps,rfl,he,rfl⟩,?_⟩;simp only[JL,ho];rfl
 |none=>
  rw[hc] at h;have plain:∀ (w:Bool) (te:AV->T AO->T AO->Env->TE),(w=false)->(∀ v st',te v st.h st'.h env=JL P op o env v st st')->(X6 P op o te).run call env st k kp≠.no->
    ∃ v st',(∃ st1,(w=true->st.nx<=st1.dirty)/\(jy P op o).run env (J5 w st)=.ok v st1/\st'=unSt w st st1)/\(X6 P op o te).run call env st k kp=k v (JL P op o env v st st') st':=by
   intro w te hw hte hne;subst hw;unfold X6 at hne ⊢;dsimp only at hne ⊢;cases he:(jy P op o).run env st with
   |no=>rw[he] at hne;exact absurd rfl hne
   |pn v s=>rw[he] at hne;exact absurd rfl hne
   |ok v s=>
    refine⟨v,s,⟨s,(λh=>by cases h),he,rfl⟩,?_⟩;dsimp only;rw[hte]
  dsimp only at h ⊢;have hwf:jY P o≠.other->w=false:=λhne=>by
   cases w
   .rfl
   .exact absurd (hw rfl) hne
  left;split at h
  .rename_i hcl;exact plain w _ (hwf (by rw[hcl];simp)) (λv st'=>by simp only[JL,hcl]) h
  .rename_i hcl;exact plain w _ (hwf (by rw[hcl];simp)) (λv st'=>by simp only[JL,hcl]) h
  .rename_i hcl;exact plain w _ (hwf (by rw[hcl];simp)) (λv st'=>by simp only[JL,hcl]) h
  .exact absurd rfl h
  .rename_i hcl;exact plain w _ (hwf (by rw[hcl];simp)) (λv st'=>by simp only[JL,hcl]) h
  .rename_i o2 c2 o1 hcl;cases w
   .simp only[cond_false] at h ⊢;exact plain false _ rfl (λv st'=>by simp only[JL,hcl]) h
   .simp only[cond_true] at h ⊢;cases he:(jy P op o2).run env (stW st) with
    |no=>rw[he] at h;exact absurd rfl h
    |pn v s=>rw[he] at h;exact absurd rfl h
    |ok v s=>
     rw[he] at h;dsimp only at h ⊢;rw[jia] at h ⊢;cases hb:QcC st.nx s.dirty
     .rw[hb] at h;exact absurd rfl h
     .rw[qi] at hb;refine⟨v,⟨s.nx,s.h,st.dirty,s.fr⟩,⟨s,λ_=>hb,he,rfl⟩,?_⟩;simp only[JL,hcl];rfl
def yi (ops:Array Oper)(p:Nat):Option Tmp:=(ops[p]?).bind (·.dst)
def qg (ops:Array Oper):Nat->Lc
 |0=>[]
 |p+1=>qA (yi ops p) (qg ops p)
def qB (ops:Array Oper)(V:Nat->AV):Nat->List AV
 |0=>[]
 |p+1=>(yQ (yi ops p)).run (V p) (qB ops V p)
def Jj (E:Nat->TE):Nat->List TE
 |0=>[]
 |p+1=>E p :: Jj E p
def qC:Nat->Lc
 |0=>[]
 |p+1=>p :: qC p
theorem Xv {V W:Nat->AV}:∀ p,(∀ i,i<p->V i=W i)->qB ops V p=qB ops W p
 |0,_=>rfl
 |p+1,h=>by simp only[qB];rw[h p om,Xv p λi hi=>h i om]
theorem wz {V W:Nat->TE}:∀ p,(∀ i,i<p->V i=W i)->Jj V p=Jj W p
 |0,_=>rfl
 |p+1,h=>by simp only[Jj];rw[h p om,wz p λi hi=>h i om]
structure TrAt (P:Program)(call:qG)(U:Nat)(ops:Array Oper)(t:T AV)(ab:Bool)(p:Nat)(rs:List AV)(tb:List TE)(s:St)(x:Bool)(v:AV)(te:TE)(s':St)(o:Oper):Prop where
 hop:ops[p]? = some o
 out:ab=true->x=false
 want:ab=false->match ym (jS U (qg ops p)) ops o with|none=>x=true|some wf=>wf.run ⟨t,rs⟩=some x
 run:x=true->OpR P (jS U (qg ops p)) (yO P ops p o) call o.op ⟨t,rs⟩ s v s'/\te=JL P (jS U (qg ops p)) o.op ⟨t,rs⟩ v s s'/\held P (Qz o.op) te tb (partners P ops (qC p) p o)=true
 skip:x=false->v=qe/\te=.none/\s'=s
theorem kZ {i:Nat}{o:Oper}(h:yO P ops i o=true):jY P o.op=.other:=by
 unfold yO at h;simp only[ψ] at h;have:=h.1;unfold Qb at this;split at this
 .assumption
 .cases this
def jd0 (P:Program)(call:qG)(n U:Nat)(ops:Array Oper)(t:T AV)(fin:Lc->RD)(pan:Nat->Lc->Lc->AV->St->RD)(abs:Nat->Bool)(p:Nat)(V0:Nat->AV)(E0:Nat->TE)(st:St)(r:R):Prop:=
 ∃ (σ:Nat->St) (V:Nat->AV) (E:Nat->TE) (ex:Nat->Bool) (m:Nat),(∀ i,i<p->V i=V0 i)/\(∀ i,i<p->E i=E0 i)/\σ p=st/\p<=m /\
  (∀ i,p<=i->i<m->∃ o,TrAt P call U ops t (abs i) i (qB ops V i) (Jj E i) (σ i) (ex i) (V i) (E i) (σ (i+1)) o) /\
  ((m=ops.size/\r=(fin (qg ops m)).run call n t (qB ops V m) (Jj E m) (σ m)) \/
   (m<ops.size/\∃ o v st',ops[m]? = some o/\abs m=false/\(match ym (jS U (qg ops m)) ops o with|none=>True|some wf=>wf.run ⟨t,qB ops V m⟩=some true) /\
    OpP (jS U (qg ops m)) call o.op ⟨t,qB ops V m⟩ (σ m) v st'/\r=(pan m (qC m) (qg ops m) v st').run call n t (qB ops V m) (Jj E m) (σ m)))
theorem V8 {call:qG}{n U:Nat}{t:T AV}(fin:Lc->RD)(pan:Nat->Lc->Lc->AV->St->RD)(abs:Nat->Bool):∀ (k p:Nat),p+k=ops.size->∀ (V0:Nat->AV) (E0:Nat->TE) (st:St),
  (yr P U ops fin pan abs (Qag p k) (qC p) (qg ops p)).run call n t (qB ops V0 p) (Jj E0 p) st≠.no->
  jd0 P call n U ops t fin pan abs p V0 E0 st ((yr P U ops fin pan abs (Qag p k) (qC p) (qg ops p)).run call n t (qB ops V0 p) (Jj E0 p) st)
 |0,p,hp,V0,E0,st,h=>by
  have:p=ops.size:=om
  subst this;exact⟨λ_=>st,V0,E0,λ_=>true,ops.size,λ_ _=>rfl,λ_ _=>rfl,rfl,η _,λi h1 h2=>by omega,.inl ⟨rfl,rfl⟩⟩
 |k+1,p,hp,V0,E0,st,h=>by
  have hlt:p<ops.size:=om
  obtain⟨o,ho⟩:∃ o,ops[p]? = some o:=⟨ops[p],by simp[hlt]⟩;have hd:yi ops p=o.dst:=by simp[yi,ho]
  have e:yr P U ops fin pan abs (Qag p (k+1)) (qC p) (qg ops p) =
    cond (abs p) (U0 o.dst (yr P U ops fin pan abs (Qag (p+1) k) (qC (p+1)) (qg ops (p+1))))
     (QK (ym (jS U (qg ops p)) ops o) o.dst
      (JI P (jS U (qg ops p)) (yO P ops p o) (partners P ops (qC p) p o) o (yr P U ops fin pan abs (Qag (p+1) k) (qC (p+1)) (qg ops (p+1))) (pan p (qC p) (qg ops p)))
      (yr P U ops fin pan abs (Qag (p+1) k) (qC (p+1)) (qg ops (p+1)))):=by
   have e1:yr P U ops fin pan abs (p :: Qag (p+1) k) (qC p) (qg ops p)=(match ops[p]? with
    |some o=>cond (abs p) (U0 o.dst (yr P U ops fin pan abs (Qag (p+1) k) (p :: qC p) (qA o.dst (qg ops p))))
     (QK (ym (jS U (qg ops p)) ops o) o.dst
      (JI P (jS U (qg ops p)) (yO P ops p o) (partners P ops (qC p) p o) o (yr P U ops fin pan abs (Qag (p+1) k) (p :: qC p) (qA o.dst (qg ops p))) (pan p (qC p) (qg ops p)))
      (yr P U ops fin pan abs (Qag (p+1) k) (p :: qC p) (qA o.dst (qg ops p))))
    |none=>wt):=rfl
   rw[Qbn,e1,ho];simp only[qC,qg,hd]
  rw[e] at h ⊢;have follow:∀ (x:Bool) (v:AV) (te:TE) (st':St),TrAt P call U ops t (abs p) p (qB ops V0 p) (Jj E0 p) st x v te st' o->
    (yr P U ops fin pan abs (Qag (p+1) k) (qC (p+1)) (qg ops (p+1))).run call n t ((yQ o.dst).run v (qB ops V0 p)) (Qal te (Jj E0 p)) st'≠.no->
    jd0 P call n U ops t fin pan abs p V0 E0 st ((yr P U ops fin pan abs (Qag (p+1) k) (qC (p+1)) (qg ops (p+1))).run call n t ((yQ o.dst).run v (qB ops V0 p)) (Qal te (Jj E0 p)) st'):=by
   intro x v te st' htr hne;have hV:∀ i,i<p->(λi=>if i=p then v else V0 i) i=V0 i:=λi hi=>by simp only;rw[if_neg om]
   have hE:∀ i,i<p->(λi=>if i=p then te else E0 i) i=E0 i:=λi hi=>by simp only;rw[if_neg om]
   have h1:qB ops (λi=>if i=p then v else V0 i) (p+1)=(yQ o.dst).run v (qB ops V0 p):=by
    simp only[qB,hd,if_true];rw[Xv p hV]
   have h2:Jj (λi=>if i=p then te else E0 i) (p+1)=te :: Jj E0 p:=by
    simp only[Jj,if_true];rw[wz p hE]
   rw[<-h1,<-h2] at hne ⊢;obtain⟨σ,V,E,ex,m,k1,k2,k3,k6,k4,k5⟩:=V8 fin pan abs k (p+1) om _ _ st' hne;have g1:∀ i,i<p->V i=V0 i:=λi hi=>(k1 i om).trans (hV i hi);have g2:∀ i,i<p->E i=E0 i:=λi hi=>(k2 i om).trans (hE i hi);refine⟨λi=>if i=p then st else σ i,V,E,λi=>if i=p then x else ex i,m,g1,g2,by simp,om,λi hi hi2=>?_,?_⟩
   .by_cases hip:i=p
    .subst hip;refine⟨o,?_⟩;simp only[if_true];rw[if_neg om,k3,Xv i g1,wz i g2,k1 i om,k2 i om];simpa using htr
    .simp only[if_neg hip];rw[if_neg om];exact k4 i om hi2
   .simp only;rw[if_neg om];exact k5
  have step:abs p=false->(JI P (jS U (qg ops p)) (yO P ops p o) (partners P ops (qC p) p o) o (yr P U ops fin pan abs (Qag (p+1) k) (qC (p+1)) (qg ops (p+1))) (pan p (qC p) (qg ops p))).run call n t (qB ops V0 p) (Jj E0 p) st≠.no->
    (match ym (jS U (qg ops p)) ops o with|none=>true=true|some wf=>wf.run ⟨t,qB ops V0 p⟩=some true)->
    jd0 P call n U ops t fin pan abs p V0 E0 st ((JI P (jS U (qg ops p)) (yO P ops p o) (partners P ops (qC p) p o) o (yr P U ops fin pan abs (Qag (p+1) k) (qC (p+1)) (qg ops (p+1))) (pan p (qC p) (qg ops p))).run call n t (qB ops V0 p) (Jj E0 p) st):=by
   intro hab hne hw;unfold JI at hne ⊢;dsimp only at hne ⊢;rcases jr9 (λhwt=>kZ hwt) hne with ⟨v,st',hO,hk⟩|⟨v,st',hO,hk⟩
   .rw[hk] at hne ⊢;try dsimp only at hne ⊢
    cases hh:held P (Qz o.op) (JL P (jS U (qg ops p)) o.op ⟨t,qB ops V0 p⟩ v st st') (Jj E0 p) (partners P ops (qC p) p o)
    .rw[hh] at hne;exact absurd rfl hne
    .rw[hh] at hne;exact follow true v _ st' ⟨ho,(λh=>by simp_all),λ_=>hw,λ_=>⟨hO,rfl,hh⟩,(λh=>by cases h)⟩ hne
   .rw[hk];refine⟨λ_=>st,V0,E0,λ_=>true,p,λ_ _=>rfl,λ_ _=>rfl,rfl,η _,λi h1 h2=>by omega,.inr ⟨hlt,o,v,st',ho,hab,?_,hO,rfl⟩⟩;split at hw
    .trivial
    .exact hw
  cases hab:abs p
  .rw[hab] at h;simp only[cond_false] at h ⊢;unfold QK at h ⊢;cases hwf:ym (jS U (qg ops p)) ops o with
   |none=>
    rw[hwf] at h step;exact step hab h rfl
   |some wf=>
    rw[hwf] at h step;simp only at h ⊢ step;cases hb:wf.run ⟨t,qB ops V0 p⟩ with
    |none=>rw[hb] at h;exact absurd rfl h
    |some b=>
     rw[hb] at h step;dsimp only at h ⊢;cases b
     .exact follow false qe .none st ⟨ho,(λh=>by simp_all),(λ_=>by rw[hwf];exact hb),(λh=>by cases h),λ_=>⟨rfl,rfl,rfl⟩⟩ h
     .exact step hab h rfl
  .rw[hab] at h;exact follow false qe .none st ⟨ho,λ_=>rfl,(λh=>by simp_all),(λh=>by cases h),λ_=>⟨rfl,rfl,rfl⟩⟩ h
def Runs (P:Program)(o:Oper)(a:Act)(w:World)(R:Value->World->Prop):Prop:=
 (∃ x w',((execOp a.eval o).run P w=.ok (.value x) w'\/((execOp a.eval o).run P w=.ok .skip w'/\x=undef))/\R x w') \/
 (∃ f vs,(execOp a.eval o).run P w=.ok (.enter f vs) w/\Calls P f vs w λe w'=>∃ x,e=.returned x/\R x w')
theorem Runs.wp {P:Program}{o:Oper}{a:Act}{w:World}{R:Value->World->Prop}(h:Runs P o a w R){K:Act->World->Prop}{Q:Exit->Act->World->Prop}
  (hk:∀ x w',R x w'->K (a.put o.dst x) w'):o.wp P a w K Q:=by
 unfold Oper.wp;rcases h with ⟨x,w',h1,hR⟩|⟨f,vs,h1,h2⟩
 .rcases h1 with h1|⟨h1,rfl⟩
  .rw[h1];exact hk x w' hR
  .rw[h1];exact hk undef w' hR
 .rw[h1];exact Calls.mono h2 λe w' he=>by
   obtain⟨x,rfl,hR⟩:=he;exact hk x w' hR
theorem Runs.ex {o:Oper}{a:Act}{w:World}{R:Value->World->Prop}(h:Runs P o a w R):∃ x w',R x w':=by
 rcases h with ⟨x,w',_,hR⟩|⟨f,vs,_,h2⟩
 .exact⟨x,w',hR⟩
 .obtain⟨e,w',_,⟨x,_,hR⟩,_⟩:=h2 [];exact⟨x,w',hR⟩
def Ht (o:Op):Bool:=match o with | .defer _=>false|_=>true
theorem vK (w:Bool)(st st1:St):(unSt w st st1).h=st1.h/\(unSt w st st1).nx=st1.nx/\(unSt w st st1).fr=st1.fr:=by cases w<;>exact⟨rfl,rfl,rfl⟩
theorem VW (w:Bool)(st:St):(J5 w st).h=st.h/\(J5 w st).nx=st.nx/\(J5 w st).fr=st.fr:=by cases w<;>exact⟨rfl,rfl,rfl⟩
theorem Cleanly.unSt {ι ι':Inj}{w:Bool}{st st1:St}(h:Cleanly ι ι' (J5 w st) st1)(hd:w=true->st.nx<=st1.dirty):Cleanly ι ι' st (unSt w st st1):=by
 cases w
 .exact h
 .have hd:=hd rfl;exact⟨h.nx,η _,λb hb _=>h.keep b hb (Qat hb hd),h.above,h.u,h.le,h.n⟩
structure Left (ι:Inj)(w:World)(wch:Bool)(st:St)(v:AV)(st':St)(ι':Inj)(x:Value)(w':World):Prop where
 le:Le ι ι'
 v:VR ι' v x
 sim:Sim ι' st'.h st'.nx w'
 grew:Grew ι w ι' w'
 cl:Cleanly ι ι' st st'
 fr:st'.fr=st.fr
 quiet:wch=true->∀ b,b<st.nx->jv st'.h b=jv st.h b
theorem Va {P:Program}{call:qG}(hcall:JH P call){ι:Inj}{w:World}{o:Oper}{a:Act}{op:Operand->OF}{wch:Bool}{env:Env}{st:St}{v:AV}{st':St}
  (hno:Ht o.op=true) (hO:OpR P op wch call o.op env st v st') (k:Sim ι st.h st.nx w) (hx:∀ x∈o.op.operands.toList,VR ι ((op x).run env) (a.eval x)) :
  Runs P o a w λx w'=>∃ ι',Left ι w wch st v st' ι' x w':=by
 obtain⟨st1,hd,hO⟩:=hO;have k':Sim ι (J5 wch st).h (J5 wch st).nx w:=by rw[(VW wch st).1,(VW wch st).2.1];exact k
 have quiet:∀ {ι':Inj},Cleanly ι ι' (J5 wch st) st1->wch=true->∀ b,b<st.nx->jv st1.h b=jv st.h b:=by
  intro ι' hcl hw b hb;have h1:=hd hw;subst hw;exact hcl.keep b hb (Qat hb h1)
 cases hco:qy o.op with
 |some p=>
  obtain⟨f,args⟩:=p;rw[hco] at hO;dsimp only at hO;obtain⟨fid,caps,hfv,he,rfl⟩:=hO;have hcs:∃ c,o.op=.call c/\c.callee=.value f/\args=c.args.toList:=by
   unfold qy at hco;split at hco
   .rename_i c hoc;split at hco
    .rename_i f' hf';cases hco;exact⟨c,hoc,hf',rfl⟩
    .cases hco
   .cases hco
  obtain⟨c,hoc,hcf,rfl⟩:=hcs;rw[hoc] at hx;have hvf:=hx f (by simp[Op.operands,Call.operands,hcf]);rw[hfv] at hvf;simp only[VR] at hvf;obtain⟨cv,hcv,hcaps⟩:=hvf;simp only[yu,yG] at he;have hargs:VRs ι (c.args.toList.map (λx=>(op x).run env) ++ caps) ((c.args.map a.eval) ++ cv).toList:=by
   rw[Qcn,Qbz];exact(VRs.map_of _ λx hxm=>hx x (by simp[Op.operands,Call.operands];right;simpa using hxm)).append hcaps
  have hC:=hcall fid _ (J5 wch st) ι w ((c.args.map a.eval) ++ cv) k' hargs;rw[he] at hC;obtain⟨hen,hcs⟩:=hC;refine .inr ⟨fid,(c.args.map a.eval) ++ cv,VH hoc hcf hcv hen,Calls.mono hcs λe w' he=>?_⟩;obtain⟨x,rfl,ι',hl,hv,hs,hg,hcl⟩:=he;refine⟨x,rfl,ι',hl,hv,?_,hg,?_,rfl,?_⟩
  .show Sim ι' (unSt wch st st1).h (unSt wch st st1).nx w';rw[(vK wch st st1).1,(vK wch st st1).2.1];exact hs
  .have:=hcl.unSt hd;exact⟨this.nx,this.dirty,this.keep,this.above,this.u,this.le,this.n⟩
  .intro hw b hb;show jv (unSt wch st st1).h b=_;rw[(vK wch st st1).1];exact quiet hcl hw b hb
 |none=>
  rw[hco] at hO;dsimp only at hO;obtain⟨he,rfl⟩:=hO;have hcalm:ug o.op=true:=by
   cases hcc:ug o.op
   .exfalso;cases ho:o.op<;>rw[ho] at hcc hno hco he<;>simp only[ug] at hcc<;>try(cases hcc;done)
    case call c=>
     simp only[jy] at he;split at hcc
     .rename_i b hb;simp only[hb] at he;cases b<;>simp only[jbv] at hcc<;>try(cases hcc;done)
      have:qF P .recover c.argTypes (yj op c.args.toList)=NOE:=by
       unfold qF;split<;>first|rfl|contradiction|simp_all
      rw[this] at he;cases he
     .rename_i hnb;cases hcl:c.callee with
      |builtin b=>exact hnb b hcl
      |value f=>simp[qy,hcl] at hco
      |invoke r m=>rw[hcl] at he;cases he
    case defer c=>cases hno
   .rfl
  have hres:=jff (P:=P) (ρ:=a.eval) (op:=op) (env:=env) hcalm k' hx;rw[he] at hres;obtain⟨ι',x,w',hr,hl,hv,hs,hg,hcl,hfr⟩:=hres;refine .inl ⟨x,w',hr,ι',hl,hv,?_,hg,hcl.unSt hd,?_,?_⟩
  .rw[(vK wch st st1).1,(vK wch st st1).2.1];exact hs
  .rw[(vK wch st st1).2.2,hfr,(VW wch st).2.2]
  .intro hw b hb;rw[(vK wch st st1).1];exact quiet hcl hw b hb
open Classical in
def qK (A:Nat->Prop):Nat->Option Nat
 |0=>none
 |k+1=>if A k then some k else qK A k
theorem zg {B:Nat->Prop}:∀ m,(∀ p,p<m->(A p↔B p))->qK A m=qK B m
 |0,_=>rfl
 |m+1,h=>by
  simp only[qK];rw[zg m λp hp=>h p om];by_cases ha:A m
  .rw[if_pos ha,if_pos ((h m om).1 ha)]
  .rw[if_neg ha,if_neg λhb=>ha ((h m om).2 hb)]
theorem XG {k:Nat}:∀ m,qK A m=some k->k<m/\A k/\∀ p,k<p->p<m->¬ A p
 |0,h=>by cases h
 |m+1,h=>by
  simp only[qK] at h;by_cases ha:A m
  .rw[if_pos ha] at h;cases h;exact⟨om,ha,λp h1 h2=>by omega⟩
  .rw[if_neg ha] at h;obtain⟨h1,h2,h3⟩:=XG m h;refine⟨om,h2,λp h4 h5=>?_⟩;by_cases hp:p=m
   .rw[hp];exact ha
   .exact h3 p h4 om
theorem wQ :∀ m,qK A m=none->∀ p,p<m->¬ A p
 |0,_,p,hp=>by omega
 |m+1,h,p,hp=>by
  simp only[qK] at h;by_cases ha:A m
  .rw[if_pos ha] at h;cases h
  .rw[if_neg ha] at h;by_cases hpm:p=m
   .rw[hpm];exact ha
   .exact wQ m h p om
theorem jc5 {k m:Nat}(hk:k<m)(ha:A k)(hn:∀ p,k<p->p<m->¬ A p):qK A m=some k:=by
 cases h:qK A m with
 |none=>exact absurd ha (wQ m h k hk)
 |some j=>
  obtain⟨h1,h2,h3⟩:=XG m h;rcases Qco j k with h4|h4|h4
  .exact absurd ha (h3 k h4 hk)
  .rw[h4]
  .exact absurd h2 (hn j h4 h1)
theorem Z5 {q:Nat}:∀ m,q<=m->qK (λp=>p<q/\A p) m=qK A q
 |0,h=>by
  have:q=0:=om
  subst this;rfl
 |m+1,h=>by
  by_cases hq:q=m+1
  .subst hq;exact zg _ λp hp=>⟨λh=>h.2,λh=>⟨hp,h⟩⟩
  .simp only[qK];rw[if_neg om];exact Z5 m om
def tab (f:Nat->Option AO):Nat->T AO
 |0=>.e
 |n+1=>match f n with|some o=>(j2 (jK n)).run o (tab f n)|none=>tab f n
theorem yZ (f:Nat->Option AO)(b:Nat):∀ n,jv (tab f n) b=if b<n then f b else none
 |0=>by simp[tab,jsw]
 |n+1=>by
  simp only[tab];cases hf:f n with
  |none=>
   simp only;rw[yZ f b n];by_cases hb:b=n
   .subst hb;simp[hf]
   .by_cases h2:b<n
    .rw[if_pos h2,if_pos om]
    .rw[if_neg h2,if_neg om]
  |some o=>
   simp only;rw[jW,yZ f b n];by_cases hb:b=n
   .subst hb;simp[hf]
   .rw[if_neg hb];by_cases h2:b<n
    .rw[if_pos h2,if_pos om]
    .rw[if_neg h2,if_neg om]
theorem Sim.same {ι:Inj}{h h':T AO}{nx:Nat}{w:World}(k:Sim ι h nx w)(e:∀ b,ι b≠.unborn->jv h' b=jv h b):Sim ι h' nx w:=
 ⟨λb B S hb=>by
   obtain⟨o,x,h1,h2,h3⟩:=k.obj b B S hb;exact⟨o,x,by rw[e b (by rw[hb];simp)];exact h1,h2,h3⟩,
  λb hb o ho=>k.gone b hb o (by rw[<-e b (by rw[hb];simp)];exact ho),k.inj,k.born,k.glob⟩
theorem kH (U t:Nat):inU U t=U.testBit t:=by
 rw[Qaw,inU,qJ,Nat.testBit_eq_decide_div_mod_eq,decide_eq_true_iff];rw[show Nat.shiftRight U t=U >>> t from rfl,Nat.shiftRight_eq_div_pow];exact Iff.rfl
def jho (acc:Lc)(o:Oper):Nat:=o.after.toList.foldl (λs e=>cond (Qj e) (Nat.lor (Nat.lor s (Nat.pow 2 e.on)) (acc.getD e.on 0)) s) 0
theorem UK (l:List Oper)(o:Oper):q9 (l ++ [o])=q9 l ++ [jho (q9 l) o]:=by
 unfold q9;rw[Qca];rfl
theorem jeF {α:Type}{p:List α->Prop}(h0:p [])(h1:∀ l a,p l->p (l ++ [a]))(l:List α):p l:=by
 have key:∀ r:List α,p r.reverse:=by
  intro r;induction r with
  |nil=>exact h0
  |cons a r ih=>rw[List.reverse_cons];exact h1 _ _ ih
 have:=key l.reverse;rwa [List.reverse_reverse] at this
theorem HR (l:List Oper):(q9 l).length=l.length:=by
 refine jeF (p:=λl=>(q9 l).length=l.length) rfl (λl o ih=>?_) l;rw[UK,υ,υ,ih];rfl
theorem jeh (l:List Oper):∀ i o,l[i]? = some o->(q9 l).getD i 0=jho ((q9 l).take i) o:=by
 refine jeF (p:=λl=>∀ i o,l[i]? = some o->(q9 l).getD i 0=jho ((q9 l).take i) o) (λi o h=>by simp at h) (λl o ih i u h=>?_) l;rw[UK];have hlen:=HR l;by_cases hi:i<l.length
 .rw[Qbt hi] at h;have:=ih i u h;rw[Qab,Qbt om,<-Qab,this];rw[List.take_append_of_le_length om]
 .rw[QbK om] at h;have hi0:i - l.length=0:=by
   cases hn:i - l.length with
   |zero=>rfl
   |succ k=>rw[hn] at h;simp at h
  rw[hi0] at h;simp at h;subst h;have hi2:i=l.length:=om
  subst hi2;rw[Qab,QbK om,hlen];simp only[Nat.sub_self,List.getElem?_cons_zero,QaM];rw[<-hlen,List.take_left]
theorem jaZ (acc:Lc)(j:Nat):∀ (l:List Edge) (s:Nat),inU (l.foldl (λs e=>cond (Qj e) (Nat.lor (Nat.lor s (Nat.pow 2 e.on)) (acc.getD e.on 0)) s) s) j=true->
  inU s j=true\/∃ e∈l,Qj e=true/\(e.on=j\/inU (acc.getD e.on 0) j=true)
 |[],s,h=>.inl h
 |e :: l,s,h=>by
  rw[List.foldl_cons] at h;rcases jaZ acc j l _ h with h1|⟨e',he,h2,h3⟩
  .cases hb:Qj e
   .rw[hb] at h1;exact .inl h1
   .rw[hb] at h1;simp only[cond_true] at h1;rw[kH] at h1;have h2:((s |||2 ^ e.on) |||acc.getD e.on 0).testBit j=true:=h1;rw[Nat.testBit_or,Nat.testBit_or,QaE,QaE] at h2;rcases h2 with (h2|h2)|h2
    .exact .inl (by rw[kH];exact h2)
    .rw[Nat.testBit_two_pow] at h2;exact .inr ⟨e,by simp,hb,.inl (by simpa using h2)⟩
    .exact .inr ⟨e,by simp,hb,.inr (by rw[kH];exact h2)⟩
  .exact .inr ⟨e',by simp[he],h2,h3⟩
def bs (ops:Array Oper):Lc:=q9 ops.toList
def jd4 (ops:Array Oper)(S:Nat->Prop):Prop:=∀ i o,S i->ops[i]? = some o->∀ e∈o.after,Qj e=true->S e.on
def Ju (ops:Array Oper)(S:Nat->Prop)(i:Nat):Prop:=∃ o,ops[i]? = some o/\∀ e∈o.after,Qj e=true->S e.on
theorem WG {S:Nat->Prop}(hlow:∀ i o,ops[i]? = some o->∀ e∈o.after,Qj e=true->e.on<i)(hc:jd4 ops S)(j:Nat):∀ (m i:Nat),i<m->Ju ops S i->inU ((bs ops).getD i 0) j=true->S j
 |0,i,hi,_,_=>by omega
 |m+1,i,hi,hr,h=>by
  obtain⟨o,ho,hr⟩:=hr;rw[bs,jeh ops.toList i o (by rw[QbM];exact ho)] at h;rcases jaZ _ j _ 0 h with h1|⟨e,he,hb,h1⟩
  .simp[kH] at h1
  .have he':e∈o.after:=Qcp.1 he;have hlt:=hlow i o ho e he' hb;rcases h1 with h1|h1
   .rw[<-h1];exact hr e he' hb
   .have hS:=hr e he' hb;have h2:inU ((bs ops).getD e.on 0) j=true:=by
     rw[Qab,QbH,if_pos hlt,<-Qab] at h1;exact h1
    obtain⟨u,hu⟩:∃ u,ops[e.on]? = some u:=by
     have:i<ops.size:=(Qax.1 ho).1;exact⟨ops[e.on],by simp[Nat.lt_trans hlt this]⟩
    exact WG hlow hc j m e.on om ⟨u,hu,hc e.on u hS hu⟩ h2
structure Ctx (P:Program)(call:qG)(U N:Nat)(ops:Array Oper)(t:T AV)(ι0:Inj)(w0:World)(a0:Act)(σ:Nat->St)(V:Nat->AV)(E:Nat->TE)(ex ab:Nat->Bool):Prop where
 hcall:JH P call
 ok:Jx P ops=true
 dst:∀ o∈ops.toList,∀ x,o.dst=some x->x<N
 tr:∀ i,i<ops.size->∃ o,TrAt P call U ops t (ab i) i (qB ops V i) (Jj E i) (σ i) (ex i) (V i) (E i) (σ (i+1)) o
 rel0:Rel ι0 U N t [] [] (σ 0) a0 w0
section
variable {P:Program} {call:qG} {U N:Nat} {ops:Array Oper} {t:T AV} {ι0:Inj} {w0:World} {a0:Act} {σ:Nat->St} {V:Nat->AV} {E:Nat->TE} {ex ab:Nat->Bool}
theorem Vd (h:Jx P ops=true){i:Nat}{o:Oper}(hi:ops[i]? = some o) :
  (∀ e∈o.after,Qj e=true->e.on<i)/\Ht o.op=true/\(∀ cs b,o.op≠.select cs b) /\
  ∀ j u,j<i->ops[j]? = some u->yn (bs ops) i j=true\/(u.apart ops o=true /\
   ((QQ (jY P u.op) && acts (jY P o.op)) ||(acts (jY P u.op) && QQ (jY P o.op)) ||(Xj (jY P u.op) && acts (jY P o.op)))=false):=by
 unfold Jx at h;simp only[Qah,QaZ] at h;have hlt:i<ops.size:=(Qax.1 hi).1;have h1:=h i hlt;rw[hi] at h1;simp only[ψ,Qah,QaZ] at h1;obtain⟨⟨h2,h3⟩,h4⟩:=h1;refine⟨λe he hb=>?_,?_,?_,λj u hj hu=>?_⟩
 .have:=h2 e (Qcp.2 he);rw[hb] at this;simp only[cond_true] at this;rw[qi] at this;omega
 .unfold Ht;split
  .rename_i c hc;rw[hc] at h3;cases h3
  .rfl
 .intro cs b hc;rw[hc] at h3;cases h3
 .have:=h4 j hj;rw[hu] at this;simp only[QaE,ψ,QaO] at this;rcases this with h5|⟨h5,h6⟩
  .exact .inl h5
  .exact .inr ⟨h5,h6⟩
theorem Xd (b:Lc)(i j:Nat):yn b i j=yn b j i:=by unfold yn;rw[Bool.or_comm]
structure Free (P:Program)(ops:Array Oper)(o u:Oper):Prop where
 d1:∀ d,u.dst=some d->d∉o.looksAt ops
 d2:∀ d,o.dst=some d->d∉u.looksAt ops
 d3:∀ d,u.dst=some d->o.dst≠some d
 w1:¬ (QQ (jY P u.op)=true/\acts (jY P o.op)=true)
 w2:¬ (acts (jY P u.op)=true/\QQ (jY P o.op)=true)
theorem sep (h:Jx P ops=true){i j:Nat}{o u:Oper}(hi:ops[i]? = some o)(hj:ops[j]? = some u)(hne:i≠j) :
  yn (bs ops) i j=true\/(Free P ops o u/\(j<i->¬ (Xj (jY P u.op)=true/\acts (jY P o.op)=true))):=by
 rcases Qaq j i with hlt|hge
 .rcases (Vd h hi).2.2.2 j u hlt hj with h1|⟨h1,h2⟩
  .exact .inl h1
  .obtain⟨k1,k2,k3⟩:=Oper.apart_spec h1;simp only[QbW,Bool.and_eq_false_iff] at h2;obtain⟨⟨h3,h4⟩,h5⟩:=h2;refine .inr ⟨⟨k1,k3,k2,λ⟨x,y⟩=>?_,λ⟨x,y⟩=>?_⟩,λ_ ⟨x,y⟩=>?_⟩
   .rcases h3 with h3|h3
    .rw[x] at h3;cases h3
    .rw[y] at h3;cases h3
   .rcases h4 with h4|h4
    .rw[x] at h4;cases h4
    .rw[y] at h4;cases h4
   .rcases h5 with h5|h5
    .rw[x] at h5;cases h5
    .rw[y] at h5;cases h5
 .have hlt:i<j:=om
  rcases (Vd h hj).2.2.2 i o hlt hi with h1|⟨h1,h2⟩
  .exact .inl (by rw[Xd];exact h1)
  .obtain⟨k1,k2,k3⟩:=Oper.apart_spec h1;simp only[QbW,Bool.and_eq_false_iff] at h2;obtain⟨⟨h3,h4⟩,h5⟩:=h2;refine .inr ⟨⟨k3,k1,λd h1 h2=>k2 d h2 h1,λ⟨x,y⟩=>?_,λ⟨x,y⟩=>?_⟩,λhh=>by omega⟩
   .rcases h4 with h4|h4
    .rw[y] at h4;cases h4
    .rw[x] at h4;cases h4
   .rcases h3 with h3|h3
    .rw[y] at h3;cases h3
    .rw[x] at h3;cases h3
theorem uC (h:Jx P ops=true):∀ i o,ops[i]? = some o->∀ e∈o.after,Qj e=true->e.on<i:=λi o hi=>(Vd h hi).1
theorem jdK (h:Jx P ops=true){i j:Nat}{o:Oper}(hi:ops[i]? = some o)(hb:inU ((bs ops).getD i 0) j=true):j<i:=by
 refine WG (S:=λp=>p<i) (uC h) (λk u hk hu e he hbe=>?_) j (i+1) i om ⟨o,hi,uC h i o hi⟩ hb;have:=uC h k u hu e he hbe;show e.on<i;have hk:k<i:=hk;omega
theorem vC (h:Jx P ops=true){S:Nat->Prop}(hc:jd4 ops S){p q:Nat}{u o:Oper}(hp:ops[p]? = some u)(hq:ops[q]? = some o)(hr:Ju ops S q)(hn:¬ S q)(ho:yn (bs ops) q p=true):S p↔p<q:=by
 unfold yn at ho;rw[QaE] at ho;rcases ho with ho|ho
 .have h1:=WG (uC h) hc p (q+1) q om hr ho;exact⟨λ_=>jdK h hq ho,λ_=>h1⟩
 .have hlt:=jdK h hp ho;refine⟨λhS=>absurd (WG (uC h) hc q (p+1) p om ⟨u,hp,hc p u hS hp⟩ ho) hn,λh=>by omega⟩
theorem uW (x:Nat):∀ q,match qK (λp=>yi ops p=some x) q with
  |some k=>∃ i,idx x (qg ops q)=some i/\(qB ops V q).getD i .bad=V k
  |none=>idx x (qg ops q)=none
 |0=>rfl
 |q+1=>by
  have ih:=uW x q;simp only[qK];by_cases hd:yi ops q=some x
  .rw[if_pos hd];refine⟨0,?_,?_⟩
   .simp only[qg,hd,qA,idx,if_true]
   .simp only[qB,hd,yQ];rfl
  .rw[if_neg hd];cases hd':yi ops q with
   |none=>
    simp only[qg,qB,hd',qA,yQ];exact ih
   |some d=>
    have hne:d≠x:=λe=>hd (by rw[hd',e]);simp only[qg,qB,hd',qA,yQ,idx,if_neg hne];cases hl:qK (λp=>yi ops p=some x) q with
    |none=>
     rw[hl] at ih;simp only at ih ⊢;rw[ih];rfl
    |some k=>
     rw[hl] at ih;simp only at ih ⊢;obtain⟨i,h1,h2⟩:=ih;exact⟨i+1,by rw[h1];rfl,by simpa using h2⟩
theorem jjN (x q:Nat):(jS U (qg ops q) (.tmp x)).run ⟨t,qB ops V q⟩=match qK (λp=>yi ops p=some x) q with
  |some k=>V k
  |none=>cond (inU U x) (zI t x) .bad:=by
 have h:=uW (ops:=ops) (V:=V) x q;simp only[jS,Hm];cases hl:qK (λp=>yi ops p=some x) q with
 |some k=>
  rw[hl] at h;simp only at h ⊢;obtain⟨i,h1,h2⟩:=h;rw[h1];simp only[Qau,zM];exact h2
 |none=>
  rw[hl] at h;simp only at h ⊢;rw[h];simp only[Qbh];cases inU U x
  .rfl
  .simp only[cond_true,zI];cases (QX (jK x)).run t<;>rfl
def Chg (σ:Nat->St)(p b:Nat):Prop:=((σ p).nx<=b/\b<(σ (p+1)).nx)\/jv (σ (p+1)).h b≠jv (σ p).h b
def jnj (σ:Nat->St)(b:Nat):Option Nat->Option AO
 |some k=>jv (σ (k+1)).h b
 |none=>jv (σ 0).h b
def cur (σ:Nat->St)(m:Nat)(S:Nat->Prop)(b:Nat):Option AO:=jnj σ b (qK (λp=>S p/\Chg σ p b) m)
theorem wa (b:Nat):∀ q,jnj σ b (qK (λp=>Chg σ p b) q)=jv (σ q).h b
 |0=>rfl
 |q+1=>by
  simp only[qK];by_cases hc:Chg σ q b
  .rw[if_pos hc];rfl
  .rw[if_neg hc,wa b q];have:¬ (jv (σ (q+1)).h b≠jv (σ q).h b):=λh=>hc (.inr h);exact(Classical.not_not.1 this).symm
structure StF (P:Program)(σ:Nat->St)(ex:Nat->Bool)(ops:Array Oper)(p:Nat)(o:Oper):Prop where
 nx:(σ p).nx<=(σ (p+1)).nx
 above:∀ b,(σ (p+1)).nx<=b->jv (σ (p+1)).h b=jv (σ p).h b
 fr:(σ (p+1)).fr=(σ p).fr
 watched:yO P ops p o=true->∀ b,b<(σ p).nx->jv (σ (p+1)).h b=jv (σ p).h b
 calm:acts (jY P o.op)=false->∀ b,b<(σ p).nx->jv (σ (p+1)).h b=jv (σ p).h b
 same:Xj (jY P o.op)=false->acts (jY P o.op)=false->σ (p+1)=σ p
theorem Ku {op:Operand->OF}{wch:Bool}{o:Op}{env:Env}{st:St}{v:AV}{st':St}(hO:OpR P op wch call o env st v st')(h:jY P o=.pure) :
  st'=st/\qy o=none/\∀ st2,(jy P op o).run env st2=.ok v st2:=by
 obtain⟨st1,hd,hO⟩:=hO;have hco:qy o=none:=by
  cases hc:qy o with
  |none=>rfl
  |some x=>have:=Qi (P:=P) hc;rw[h] at this;cases this
 rw[hco] at hO;dsimp only at hO;obtain⟨h1,rfl⟩:=hO;obtain⟨h2,h3⟩:=jiD (P:=P) (op:=op) (env:=env) o h _ _ _ h1;subst h2;refine⟨?_,hco,h3⟩;cases wch<;>rfl
theorem Ue {op:Operand->OF}{o:Op}{env:Env}{st:St}{v:AV}{st':St}(hO:OpR P op false call o env st v st')(h:jY P o=.reads) :
  st'=st/\qy o=none/\∃ ty a,o=.load ty a/\(qV P ty).run ((op a).run env) st.h=some v:=by
 obtain⟨st1,hd,hO⟩:=hO;have hco:qy o=none:=by
  cases hc:qy o with
  |none=>rfl
  |some x=>have:=Qi (P:=P) hc;rw[h] at this;cases this
 rw[hco] at hO;dsimp only at hO;obtain⟨h1,rfl⟩:=hO;cases o<;>simp only[jY] at h<;>try(cases h;done)
 case load ty a=>
  obtain⟨h2,h3⟩:=jo4 (P:=P) h1;exact⟨h2,hco,ty,a,rfl,h3⟩
 case call c=>
  exfalso;split at h
  .split at h
   .split at h<;>cases h
   .cases h
  all_goals cases h
theorem jan {op:Operand->OF}{o:Op}{env:Env}{st:St}{v:AV}{st':St}(hO:OpR P op false call o env st v st')(h:jY P o=.makes) :
  qy o=none/\∃ ob,st'=⟨st.nx+1,(j2 (jK st.nx)).run ob st.h,st.dirty,st.fr⟩ /\
   ∀ st2,st2.nx=st.nx->(jy P op o).run env st2=.ok v ⟨st2.nx+1,(j2 (jK st2.nx)).run ob st2.h,st2.dirty,st2.fr⟩:=by
 obtain⟨st1,hd,hO⟩:=hO;have hco:qy o=none:=by
  cases hc:qy o with
  |none=>rfl
  |some x=>have:=Qi (P:=P) hc;rw[h] at this;cases this
 rw[hco] at hO;dsimp only at hO;obtain⟨h1,rfl⟩:=hO;obtain⟨ob,h2,h3⟩:=jiN (P:=P) (op:=op) (env:=env) o h _ _ _ h1;exact⟨hco,ob,h2,h3⟩
theorem vG {i:Nat}{o:Oper}{c:Cl}(h:jY P o.op=c)(hc:c≠.other):yO P ops i o=false:=by
 cases hw:yO P ops i o
 .rfl
 .exact absurd ((kZ hw).symm.trans h) (λe=>hc e.symm)
theorem KN (c:Cl):c=.pure\/c=.reads\/c=.makes\/acts c=true:=by
 cases c
 .exact .inl rfl
 .exact .inr (.inl rfl)
 .exact .inr (.inr (.inl rfl))
 .exact .inr (.inr (.inr rfl))
 .exact .inr (.inr (.inr rfl))
theorem Ctx.step (c:Ctx P call U N ops t ι0 w0 a0 σ V E ex ab){p:Nat}(hp:p<ops.size){o:Oper}(ho:ops[p]? = some o){ι:Inj}{a:Act}{w:World}(r:Rel ι U N t (qg ops p) (qB ops V p) (σ p) a w) :
  StF P σ ex ops p o/\∃ ι' a' w',Rel ι' U N t (qg ops (p+1)) (qB ops V (p+1)) (σ (p+1)) a' w'/\Le ι ι'/\Cleanly ι ι' (σ p) (σ (p+1)):=by
 obtain⟨o',htr⟩:=c.tr p hp;have:o'=o:=by have:=htr.hop;rw[ho] at this;cases this;rfl
 subst this;have hmem:o'∈ops.toList:=Qcp.2 (Array.mem_of_getElem? ho);have hd:yi ops p=o'.dst:=by simp[yi,ho]
 have e1:qg ops (p+1)=qA o'.dst (qg ops p):=by simp only[qg,hd]
 have e2:qB ops V (p+1)=(yQ o'.dst).run (V p) (qB ops V p):=by simp only[qB,hd]
 rw[e1,e2];cases hx:ex p
 .obtain⟨h1,h2,h3⟩:=htr.skip hx;rw[h3,h1];refine⟨⟨by rw[h3];exact η _,λb _=>by rw[h3],by rw[h3],λ_ b _=>by rw[h3],λ_ b _=>by rw[h3],λ_ _=>h3⟩,ι,a.put o'.dst undef,w,r.put (c.dst o' hmem) (vJ ι),Le.refl ι,Cleanly.refl ι _⟩
 .obtain⟨h1,h2,h3⟩:=htr.run hx;obtain⟨x,w',ι',hl⟩:=(Va c.hcall (Vd c.ok ho).2.1 h1 r.sim λx _=>r.opd x).ex;refine⟨⟨hl.cl.nx,hl.cl.above,hl.fr,hl.quiet,λha b hb=>?_,λhm ha=>?_⟩,ι',a.put o'.dst x,w',?_,hl.le,hl.cl⟩
  .rcases KN (jY P o'.op) with h4|h4|h4|h4
   .rw[(Ku h1 h4).1]
   .rw[vG h4 hac] at h1;rw[(Ue h1 h4).1]
   .rw[vG h4 hac] at h1;obtain⟨_,ob,h5,_⟩:=jan h1 h4;rw[h5];show jv ((j2 (jK (σ p).nx)).run ob (σ p).h) b=_;rw[jW,if_neg om]
   .rw[ha] at h4;cases h4
  .rcases KN (jY P o'.op) with h4|h4|h4|h4
   .exact(Ku h1 h4).1
   .rw[vG h4 hac] at h1;exact(Ue h1 h4).1
   .rw[h4] at hm;cases hm
   .rw[ha] at h4;cases h4
  .exact(r.mono hl.le hl.sim hl.fr).put (c.dst o' hmem) hl.v
theorem Ctx.can (c:Ctx P call U N ops t ι0 w0 a0 σ V E ex ab):∀ p,p<=ops.size->∃ ι a w,Rel ι U N t (qg ops p) (qB ops V p) (σ p) a w/\Le ι0 ι/\Cleanly ι0 ι (σ 0) (σ p)
 |0,_=>⟨ι0,a0,w0,c.rel0,Le.refl ι0,Cleanly.refl ι0 _⟩
 |p+1,hp=>by
  obtain⟨ι,a,w,r,hl,hc⟩:=c.can p om;obtain⟨_,ι',a',w',r',hl',hc'⟩:=c.step om (o:=ops[p]) (by simp[show p<ops.size by omega]) r;exact⟨ι',a',w',r',hl.trans hl',hc.trans hc'⟩
theorem Ctx.stf (c:Ctx P call U N ops t ι0 w0 a0 σ V E ex ab){p:Nat}{o:Oper}(ho:ops[p]? = some o):StF P σ ex ops p o:=by
 have hp:p<ops.size:=(Qax.1 ho).1;obtain⟨ι,a,w,r,_⟩:=c.can p om;exact(c.step hp ho r).1
theorem Ctx.nx_mono (c:Ctx P call U N ops t ι0 w0 a0 σ V E ex ab){p:Nat}:∀ q,p<=q->q<=ops.size->(σ p).nx<=(σ q).nx
 |0,h,_=>by
  have:p=0:=om
  subst this;exact η _
 |q+1,h,hq=>by
  by_cases hpq:p=q+1
  .subst hpq;exact η _
  .exact χ (c.nx_mono q om om) (c.stf (p:=q) (o:=ops[q]) (by simp[show q<ops.size by omega])).nx
theorem Ctx.chg (c:Ctx P call U N ops t ι0 w0 a0 σ V E ex ab){p b:Nat}{o:Oper}(ho:ops[p]? = some o)(h:Chg σ p b)(hb:b<(σ p).nx):acts (jY P o.op)=true/\yO P ops p o=false/\jv (σ (p+1)).h b≠jv (σ p).h b:=by
 have s:=c.stf ho;rcases h with ⟨h,_⟩|h
 .omega
 .refine⟨?_,?_,h⟩
  .cases ha:acts (jY P o.op)
   .exact absurd (s.calm ha b hb) h
   .rfl
  .cases ha:yO P ops p o
   .rfl
   .exact absurd (s.watched ha b hb) h
theorem Ctx.chg_lt (c:Ctx P call U N ops t ι0 w0 a0 σ V E ex ab){p b:Nat}{o:Oper}(ho:ops[p]? = some o)(h:Chg σ p b):b<(σ (p+1)).nx:=by
 rcases h with ⟨_,h⟩|h
 .exact h
 .rcases Qaq b (σ (p+1)).nx with h1|h1
  .exact h1
  .exact absurd ((c.stf ho).above b h1) h
end
structure Inv (P:Program)(call:qG)(U N:Nat)(ops:Array Oper)(t:T AV)(ι0:Inj)(w0:World)(a0:Act)(σ:Nat->St)(V:Nat->AV)(ab:Nat->Bool)(S:Nat->Prop)(ι:Inj)(a:Act)(w:World):Prop where
 size:N<=a.tmps.size
 ds:DRs ι (σ 0).fr a.defers
 le:Le ι0 ι
 grew:Grew ι0 w0 ι w
 slot:∀ x,match qK (λp=>S p/\yi ops p=some x) ops.size with
  |some k=>VR ι (V k) (a.tmps.getD x undef)
  |none=>inU U x=true->VR ι (zI t x) (a.tmps.getD x undef)
 sim:Sim ι (tab (cur σ ops.size S) (σ ops.size).nx) (σ ops.size).nx w
 birth:∀ b,ι b≠.unborn->ι0 b≠.unborn\/∃ p,p<ops.size/\S p/\(σ p).nx<=b/\b<(σ (p+1)).nx
 born:∀ p,p<ops.size->S p->∀ b,(σ p).nx<=b->b<(σ (p+1)).nx->ι b≠.unborn
 closed:jd4 ops S
 live:∀ p,S p->ab p=false
section
variable {P:Program} {call:qG} {U N:Nat} {ops:Array Oper} {t:T AV} {ι0:Inj} {w0:World} {a0:Act} {σ:Nat->St} {V:Nat->AV} {E:Nat->TE} {ex ab:Nat->Bool}
variable {S:Nat->Prop} {ι:Inj} {a:Act} {w:World}
theorem Q6 {p:Nat}(hp:p<ops.size):ops[p]? = some ops[p]:=by simp[hp]
theorem Ctx.born0 (c:Ctx P call U N ops t ι0 w0 a0 σ V E ex ab){b:Nat}(h:ι0 b≠.unborn):b<(σ 0).nx:=c.rel0.sim.born b h
theorem Inv.canon (c:Ctx P call U N ops t ι0 w0 a0 σ V E ex ab)(I:Inv P call U N ops t ι0 w0 a0 σ V ab S ι a w){b q:Nat}(hb:ι b≠.unborn)(hq:q<=ops.size)(hbq:b<(σ q).nx){ιc:Inj}(hc:Cleanly ι0 ιc (σ 0) (σ q)):ιc b≠.unborn:=by
 rcases I.birth b hb with h|⟨p,hp,hS,h1,h2⟩
 .exact hc.le b h
 .exact hc.n b (χ (c.nx_mono p (Qae _) om) h1) hbq
theorem Inv.maker (c:Ctx P call U N ops t ι0 w0 a0 σ V E ex ab)(I:Inv P call U N ops t ι0 w0 a0 σ V ab S ι a w){b p:Nat}(hb:ι b≠.unborn)(hp:p<ops.size)(h1:(σ p).nx<=b)(h2:b<(σ (p+1)).nx):S p:=by
 rcases I.birth b hb with h|⟨p',hp',hS,h3,h4⟩
 .have:=c.born0 h;have:=c.nx_mono (p:=0) p om om;omega
 .rcases Qco p p' with h5|h5|h5
  .have:=c.nx_mono (p:=p+1) p' om om;omega
  .rw[h5];exact hS
  .have:=c.nx_mono (p:=p'+1) p om om;omega
theorem Inv.looks (c:Ctx P call U N ops t ι0 w0 a0 σ V E ex ab)(I:Inv P call U N ops t ι0 w0 a0 σ V ab S ι a w){q:Nat}{o:Oper}(ho:ops[q]? = some o)(hr:Ju ops S q)(hn:¬ S q){x:Nat}(hx:x∈o.looksAt ops) :
  VR ι ((jS U (qg ops q) (.tmp x)).run ⟨t,qB ops V q⟩) (a.tmps.getD x undef):=by
 have hq:q<ops.size:=(Qax.1 ho).1;have e:qK (λp=>S p/\yi ops p=some x) ops.size=qK (λp=>yi ops p=some x) q:=by
  rw[<-Z5 ops.size (Qbo hq)];refine zg _ λp hp=>?_;refine and_congr_left λhd=>?_;by_cases hpq:p=q
  .subst hpq;exact⟨λh=>absurd h hn,λh=>by omega⟩
  .have hu:=Q6 hp;rcases sep c.ok ho hu (λe=>hpq e.symm) with h|⟨h,_⟩
   .exact vC c.ok I.closed hu ho hr hn h
   .have hd':(ops[p]).dst=some x:=by simpa[yi,hu] using hd
    exact absurd hx (h.d1 x hd')
 have hs:=I.slot x;rw[jjN,<-e];cases hl:qK (λp=>S p/\yi ops p=some x) ops.size with
 |some k=>rw[hl] at hs;exact hs
 |none=>
  rw[hl] at hs;simp only at hs ⊢;cases hu:inU U x
  .simp[VR]
  .exact hs hu
theorem Inv.opnd (c:Ctx P call U N ops t ι0 w0 a0 σ V E ex ab)(I:Inv P call U N ops t ι0 w0 a0 σ V ab S ι a w){q:Nat}{o:Oper}(ho:ops[q]? = some o)(hr:Ju ops S q)(hn:¬ S q) :
  ∀ x∈o.op.operands.toList,VR ι ((jS U (qg ops q) x).run ⟨t,qB ops V q⟩) (a.eval x):=by
 intro x hx;cases x with
 |tmp x=>
  have:x∈o.looksAt ops:=List.mem_append_left _ (List.mem_filterMap.2 ⟨.tmp x,hx,rfl⟩);exact I.looks c ho hr hn this
 |const v=>exact WI ι v
 |global g=>simp[jS,VR]
 |func f=>simp only[jS,VR,Act.eval];exact⟨#[],rfl,by simp[VRs]⟩
theorem Inv.want {x:Bool}(c:Ctx P call U N ops t ι0 w0 a0 σ V E ex ab)(I:Inv P call U N ops t ι0 w0 a0 σ V ab S ι a w){q:Nat}{o:Oper}(ho:ops[q]? = some o)(hr:Ju ops S q)(hn:¬ S q)
  (htr:match ym (jS U (qg ops q)) ops o with|none=>x=true|some wf=>wf.run ⟨t,qB ops V q⟩=some x) :
  Region.wanted o (yielded ops a.tmps)=x:=by
 unfold ym at htr;unfold Region.wanted;cases hg:o.guard with
 |none=>rw[hg] at htr;exact htr.symm
 |some jw=>
  obtain⟨j,want⟩:=jw;rw[hg] at htr;simp only at htr ⊢;cases hd:(ops[j]?).bind (·.dst) with
  |none=>rw[hd] at htr;simp at htr
  |some d=>
   rw[hd] at htr;simp only at htr;have hv:=I.looks c ho hr hn (x:=d) (by simp[Oper.looksAt,hg,hd]);generalize (jS U (qg ops q) (.tmp d)).run ⟨t,qB ops V q⟩=v at htr hv;have hy:yielded ops a.tmps j=match a.tmps[d]? with|some (.bool b)=>some b|_=>none:=by
    unfold yielded;rw[hd];rfl
   rw[hy];have jv:a.tmps.getD d undef=(a.tmps[d]?).getD undef:=by simp[QbZ]
   rw[jv] at hv;split at htr
   .rename_i b;simp only[Option.some.injEq] at htr;simp only[VR] at hv;cases hq:a.tmps[d]? with
    |none=>rw[hq] at hv;simp[undef] at hv
    |some y=>
     rw[hq] at hv;simp only[QaM] at hv;subst hv;simp only;rw[<-htr];cases b<;>cases want<;>rfl
   .cases htr
   .rename_i h1 h2;simp only[Option.some.injEq] at htr;rw[<-htr];have hnb:=jeR hv (λb e=>h1 b e) (λe=>h2 e);cases hq:a.tmps[d]? with
    |none=>rfl
    |some y=>
     rw[hq] at hnb;simp only[QaM] at hnb;cases y<;>first|rfl|(exact absurd rfl (hnb _))
theorem DRs.hide {ι ι0:Inj}{n:Nat}(hn:∀ b,ι0 b≠.unborn->b<n):∀ (ps:List (FuncId×List AV)) (l0 l:List Deferred),DRs ι0 ps l0->DRs ι ps l->DRs (Ev.hide ι n) ps l
 |[],_,_,_,k=>k
 |p :: ps,l0,l,k0,k=>by
  simp only[DRs] at k0 k ⊢;obtain⟨cap,dargs,ds,rfl,h1,h2⟩:=k;obtain⟨cap0,dargs0,ds0,rfl,h10,h20⟩:=k0;exact⟨cap,dargs,ds,rfl,VRs.hide hn _ _ _ h10 h1,DRs.hide hn ps _ _ h20 h2⟩
def Add (S:Nat->Prop)(q:Nat)(p:Nat):Prop:=S p\/p=q
theorem Inv.next (c:Ctx P call U N ops t ι0 w0 a0 σ V E ex ab)(I:Inv P call U N ops t ι0 w0 a0 σ V ab S ι a w){q:Nat}{o:Oper}(ho:ops[q]? = some o)(hr:Ju ops S q)(hn:¬ S q)(hab:ab q=false)
  {ι':Inj} {x:Value} {w':World} (hl:Le ι ι') (hg:Grew ι w ι' w') (hv:VR ι' (V q) x) (hs:Sim ι' (tab (cur σ ops.size (Add S q)) (σ ops.size).nx) (σ ops.size).nx w')
  (hb1:∀ b,ι' b≠.unborn->ι b≠.unborn\/((σ q).nx<=b/\b<(σ (q+1)).nx)) (hb2:∀ b,(σ q).nx<=b->b<(σ (q+1)).nx->ι' b≠.unborn) :
  Inv P call U N ops t ι0 w0 a0 σ V ab (Add S q) ι' (a.put o.dst x) w':=by
 have hq:q<ops.size:=(Qax.1 ho).1;have hmem:o∈ops.toList:=Qcp.2 (Array.mem_of_getElem? ho);have hdq:yi ops q=o.dst:=by simp[yi,ho]
 refine⟨by rw[jcI];exact I.size,by rw[gF];exact DRs.mono hl _ _ I.ds,I.le.trans hl,I.grew.trans hg,λy=>?_,hs,λb hb=>?_,λp hp hS b h1 h2=>?_,λi u hS hu e he hbe=>?_,λp hS=>hS.elim (I.live p) (λe=>e▸hab)⟩
 .by_cases hy:o.dst=some y
  .have e:qK (λp=>Add S q p/\yi ops p=some y) ops.size=some q:=by
    refine jc5 hq ⟨.inr rfl,by rw[hdq,hy]⟩ λp h1 h2 ⟨h3,h4⟩=>?_;have hS:S p:=h3.resolve_right om;have hu:=Q6 h2;rcases sep c.ok ho hu om with h|⟨h,_⟩
    .have:=(vC c.ok I.closed hu ho hr hn h).1 hS;omega
    .have hd':(ops[p]).dst=some y:=by simpa[yi,hu] using h4
     exact h.d3 y hd' hy
   rw[e];simp only;have hlt:y<a.tmps.size:=Qat (c.dst o hmem y hy) I.size;rw[hy,U7 a y x y hlt,if_pos rfl];exact hv
  .have e:qK (λp=>Add S q p/\yi ops p=some y) ops.size=qK (λp=>S p/\yi ops p=some y) ops.size:=by
    refine zg _ λp hp=>and_congr_left λhd=>?_;refine⟨λh=>h.resolve_right λe=>hy ?_,.inl⟩;subst e;rw[<-hdq];exact hd
   have hg:(a.put o.dst x).tmps.getD y undef=a.tmps.getD y undef:=by
    cases hd:o.dst with
    |none=>rfl
    |some d=>
     rw[U7 a d x y (Qat (c.dst o hmem d hd) I.size),if_neg (λe=>hy (by rw[hd,e]))]
   rw[e,hg];have:=I.slot y;cases hl':qK (λp=>S p/\yi ops p=some y) ops.size with
   |some k=>rw[hl'] at this;exact VR.mono hl _ _ this
   |none=>rw[hl'] at this;exact λhu=>VR.mono hl _ _ (this hu)
 .rcases hb1 b hb with h|h
  .rcases I.birth b h with h|⟨p,h1,h2,h3⟩
   .exact .inl h
   .exact .inr ⟨p,h1,.inl h2,h3⟩
  .exact .inr ⟨q,hq,.inr rfl,h⟩
 .rcases hS with hS|hS
  .exact hl.born (I.born p hp hS b h1 h2)
  .subst hS;exact hb2 b h1 h2
 .rcases hS with hS|hS
  .exact .inl (I.closed i u hS hu e he hbe)
  .subst hS;obtain⟨o',ho',h⟩:=hr;rw[ho'] at hu;cases hu;exact .inl (h e he hbe)
theorem Y7 {q b:Nat}(h:¬ Chg σ q b):cur σ ops.size (Add S q) b=cur σ ops.size S b:=by
 unfold cur
 congr 1
 refine zg _ λp hp=>?_;refine and_congr_left λhc=>?_;exact⟨λh'=>h'.resolve_right λe=>h (by rw[<-e];exact hc),.inl⟩
theorem Inv.still (c:Ctx P call U N ops t ι0 w0 a0 σ V E ex ab)(I:Inv P call U N ops t ι0 w0 a0 σ V ab S ι a w){q:Nat}{o:Oper}(ho:ops[q]? = some o)(hr:Ju ops S q)(hn:¬ S q)(hab:ab q=false)(hsame:σ (q+1)=σ q)
  {ι':Inj} {x:Value} {w':World} (hl:Le ι ι') (hg:Grew ι w ι' w') (hv:VR ι' (V q) x) (hs:Sim ι' (tab (cur σ ops.size S) (σ ops.size).nx) (σ ops.size).nx w') (hu:∀ b,b<(σ ops.size).nx->ι b=.unborn->ι' b=.unborn) :
  Inv P call U N ops t ι0 w0 a0 σ V ab (Add S q) ι' (a.put o.dst x) w':=by
 refine I.next c ho hr hn hab hl hg hv ?_ (λb hb=>.inl λh=>hb (hu b (hs.born b hb) h)) (λb h1 h2=>by rw[hsame] at h2;omega)
 refine hs.same λb _=>?_;rw[yZ,yZ];split
 .refine Y7 λh=>?_;rcases h with h|h
  .rw[hsame] at h;omega
  .rw[hsame] at h;exact h rfl
 .rfl
theorem Inv.low (c:Ctx P call U N ops t ι0 w0 a0 σ V E ex ab)(I:Inv P call U N ops t ι0 w0 a0 σ V ab S ι a w){q:Nat}{o:Oper}(ho:ops[q]? = some o)(hr:Ju ops S q)(hn:¬ S q)
  (hk:Xj (jY P o.op)=true\/acts (jY P o.op)=true) {b p:Nat} (hp:p<ops.size) (hb:b<(σ (q+1)).nx) (hS:S p) (hc:Chg σ p b):p<q:=by
 have hu:=Q6 hp;rcases Qco p q with h|h|h
 .exact h
 .subst h;exact absurd hS hn
 .exfalso;have hmono:=c.nx_mono (p:=q+1) p om om;obtain⟨h1,h2,h3⟩:=c.chg hu hc om;rcases sep c.ok hu ho om with h4|⟨h4,h5⟩
  .rw[Xd] at h4;have:=(vC c.ok I.closed hu ho hr hn h4).1 hS;omega
  .rcases hk with hk|hk
   .exact h5 h ⟨hk,h1⟩
   .have hw1:=h4.w1;have hw2:=h4.w2;have ho1:Qb (jY P (ops[p]).op)=true:=by
     cases hcl:jY P (ops[p]).op<;>rw[hcl] at h1 hw2<;>simp_all [acts,QQ,Qb]
    have ho2:Qb (jY P o.op)=true:=by
     cases hcl:jY P o.op<;>rw[hcl] at hk hw1<;>simp_all [acts,QQ,Qb]
    have hwt:yO P ops p ops[p]=true:=by
     unfold yO;simp only[ψ,QaO,ho1,true_and];rw[List.all_eq_false];refine⟨q,by simp;omega,?_⟩;have hne:QcA p q=false:=by
      cases hbq:QcA p q
      .rfl
      .rw[qJ] at hbq;omega
     have hno:yn (q9 ops.toList) p q=false:=by
      cases hoo:yn (q9 ops.toList) p q
      .rfl
      .exfalso;have hoo':yn (bs ops) q p=true:=by rw[Xd];exact hoo
       have:=(vC c.ok I.closed hu ho hr hn hoo').1 hS;omega
     simp[ho,hne,ho2,hno]
    rw[hwt] at h2;cases h2
theorem Inv.ahead (c:Ctx P call U N ops t ι0 w0 a0 σ V E ex ab)(I:Inv P call U N ops t ι0 w0 a0 σ V ab S ι a w){q:Nat}{o:Oper}(ho:ops[q]? = some o)(hr:Ju ops S q)(hn:¬ S q)
  (hk:acts (jY P o.op)=true) {b p:Nat} (hb:ι b≠.unborn) (hpq:p<q) (hc:Chg σ p b):S p:=by
 have hq:q<ops.size:=(Qax.1 ho).1;have hp:p<ops.size:=om
 have hu:=Q6 hp;rcases Qaq b (σ p).nx with h|h
 .obtain⟨h1,h2,h3⟩:=c.chg hu hc h;by_cases hoo:yn (bs ops) q p=true
  .exact(vC c.ok I.closed hu ho hr hn hoo).2 hpq
  .exfalso;obtain⟨h4,_⟩:=(sep c.ok ho hu om).resolve_left hoo;have hw1:=h4.w1;have hw2:=h4.w2;have ho1:Qb (jY P (ops[p]).op)=true:=by
    cases hcl:jY P (ops[p]).op<;>rw[hcl] at h1 hw1<;>simp_all [acts,QQ,Qb]
   have ho2:Qb (jY P o.op)=true:=by
    cases hcl:jY P o.op<;>rw[hcl] at hk hw2<;>simp_all [acts,QQ,Qb]
   have hwt:yO P ops p ops[p]=true:=by
    unfold yO;simp only[ψ,QaO,ho1,true_and];rw[List.all_eq_false];refine⟨q,by simp;omega,?_⟩;have hne:QcA p q=false:=by
     cases hbq:QcA p q
     .rfl
     .rw[qJ] at hbq;omega
    have hno:yn (q9 ops.toList) p q=false:=by
     cases hoo2:yn (q9 ops.toList) p q
     .rfl
     .exact absurd (by rw[Xd];exact hoo2) hoo
    simp[ho,hne,ho2,hno]
   rw[hwt] at h2;cases h2
 .exact I.maker c hb hp h (c.chg_lt hu hc)
end
section
variable {P:Program} {call:qG} {U N:Nat} {ops:Array Oper} {t:T AV} {ι0:Inj} {w0:World} {a0:Act} {σ:Nat->St} {V:Nat->AV} {E:Nat->TE} {ex ab:Nat->Bool}
variable {S:Nat->Prop} {ι:Inj} {a:Act} {w:World}
theorem Inv.bound (c:Ctx P call U N ops t ι0 w0 a0 σ V E ex ab)(I:Inv P call U N ops t ι0 w0 a0 σ V ab S ι a w){b k:Nat}(hk:k<=ops.size)(hbk:b<(σ k).nx){B T:Nat}(hb:ι b=.at B T)
  {o:AO} {x:Obj} (ho:jv (σ k).h b=some o) (hx:OR ι T o x):obnd (σ k).nx o:=by
 obtain⟨ιc,ac,wc,r,_,hc⟩:=c.can k hk;have hbc:=I.canon c (by rw[hb];simp) hk hbk hc;cases hι:ιc b with
 |unborn=>exact absurd hι hbc
 |dead=>
  have:=r.sim.gone b hι o ho;subst this;exact hx.elim
 |«at» B' T'=>
  obtain⟨o',x',h1,h2,h3⟩:=r.sim.obj b B' T' hι;rw[ho] at h1;cases h1;exact⟨ιc,T',x',r.sim.born,h3⟩
theorem Inv.seen (c:Ctx P call U N ops t ι0 w0 a0 σ V E ex ab)(I:Inv P call U N ops t ι0 w0 a0 σ V ab S ι a w){q:Nat}{o:Oper}(ho:ops[q]? = some o)(hr:Ju ops S q)(hn:¬ S q)
  (hk:Xj (jY P o.op)=true\/acts (jY P o.op)=true) {h2:T AO} (hh:∀ b,b<(σ q).nx->ι b≠.unborn->jv h2 b=cur σ ops.size S b) :
  Sim (hide ι (σ q).nx) h2 (σ q).nx w:=by
 have hq:q<ops.size:=(Qax.1 ho).1;have hM:=c.nx_mono (p:=q) ops.size om om;have hq1:=(c.stf ho).nx;refine⟨λb B T hb=>?_,λb hb o' ho'=>?_,λb b' B T T' h1 h2=>?_,λb hb=>?_,⟨⟨I.sim.glob.1.1,λb S' e=>I.sim.glob.1.2 b S' (zO e).1⟩,λB vs hB=>⟨(I.sim.glob.2 B vs hB).1,λb S' e=>(I.sim.glob.2 B vs hB).2 b S' (zO e).1⟩⟩⟩
 .obtain⟨hb1,hb2⟩:=zO hb;obtain⟨ob,x,h1,h3,h4⟩:=I.sim.obj b B T hb1;rw[yZ,if_pos om] at h1;refine⟨ob,x,by rw[hh b hb2 (by rw[hb1];simp)];exact h1,h3,?_⟩;have:obnd (σ q).nx ob:=by
   unfold cur at h1;cases hl:qK (λp=>S p/\Chg σ p b) ops.size with
   |none=>
    rw[hl] at h1;rcases Qaq b (σ 0).nx with h0|h0
    .exact(I.bound c (Qae _) h0 hb1 h1 h4).mono (c.nx_mono q (Qae _) om)
    .exfalso;rcases I.birth b (by rw[hb1];simp) with h5|⟨p,h5,h6,h7⟩
     .have:=c.born0 h5;omega
     .exact wQ _ hl p h5 ⟨h6,.inl h7⟩
   |some k=>
    rw[hl] at h1;obtain⟨h5,⟨h6,h7⟩,_⟩:=XG _ hl;have h8:=I.low c ho hr hn hk h5 om h6 h7;exact(I.bound c (k:=k+1) om (c.chg_lt (Q6 h5) h7) hb1 h1 h4).mono (c.nx_mono q om om)
  exact this.hide h4
 .unfold hide at hb;dsimp only at hb;split at hb
  .rename_i hlt;rw[hh b hlt (by rw[hb];simp)] at ho';exact I.sim.gone b hb o' (by rw[yZ,if_pos om];exact ho')
  .cases hb
 .exact I.sim.inj b b' B T T' (zO h1).1 (zO h2).1
 .unfold hide at hb;dsimp only at hb;split at hb
  .assumption
  .exact absurd rfl hb
theorem Inv.hidden (c:Ctx P call U N ops t ι0 w0 a0 σ V E ex ab)(I:Inv P call U N ops t ι0 w0 a0 σ V ab S ι a w){q:Nat}{o:Oper}(ho:ops[q]? = some o)(hr:Ju ops S q)(hn:¬ S q) :
  ∀ x∈o.op.operands.toList,VR (hide ι (σ q).nx) ((jS U (qg ops q) x).run ⟨t,qB ops V q⟩) (a.eval x):=by
 intro x hx;have h1:=I.opnd c ho hr hn x hx;have hq:q<ops.size:=(Qax.1 ho).1;obtain⟨ιc,ac,wc,r,_,_⟩:=c.can q om;exact VR.hide r.sim.born _ _ _ (r.opd x) h1
theorem Inv.merge (c:Ctx P call U N ops t ι0 w0 a0 σ V E ex ab)(I:Inv P call U N ops t ι0 w0 a0 σ V ab S ι a w){q:Nat}{o:Oper}(ho:ops[q]? = some o)(hr:Ju ops S q)(hn:¬ S q)(hab:ab q=false)
  {st2 st2':St} (hn1:st2.nx=(σ q).nx) (hn2:st2'.nx=(σ (q+1)).nx) {wch:Bool} {ι':Inj} {x:Value} {w':World} (L:Left (hide ι (σ q).nx) w wch st2 (V q) st2' ι' x w')
  (hh:∀ b,b<(σ (q+1)).nx->ι' b≠.unborn->(b<(σ q).nx->ι b≠.unborn)->jv st2'.h b=cur σ ops.size (Add S q) b) :
  ∃ ι2,Inv P call U N ops t ι0 w0 a0 σ V ab (Add S q) ι2 (a.put o.dst x) w':=by
 have hq:q<ops.size:=(Qax.1 ho).1;have hq1:=(c.stf ho).nx;have hM:=c.nx_mono (p:=q+1) ops.size om om;have hu:∀ b,b<(σ q).nx->ι b=.unborn->ι' b=.unborn:=λb hb hub=>by
  refine L.cl.u b (by rw[hn1];exact hb) ?_;unfold hide;dsimp only;rw[if_pos hb];exact hub
 have hnew:∀ b,(σ q).nx<=b->b<(σ (q+1)).nx->ι b=.unborn:=λb h1 h2=>by
  cases hb:ι b with
  |unborn=>rfl
  |dead=>exact absurd (I.maker c (by rw[hb];simp) hq h1 h2) hn
  |«at» B T=>exact absurd (I.maker c (by rw[hb];simp) hq h1 h2) hn
 have hb':∀ b,ι' b≠.unborn->b<(σ (q+1)).nx:=λb hb=>by rw[<-hn2];exact L.sim.born b hb
 have hfz:∀ B vs,ι'.g B=some vs->∀ b S,(if b<(σ (q+1)).nx then ι' b else ι b)≠.at B S:=λB vs hB b S hb=>by
  by_cases h1:b<(σ (q+1)).nx
  .rw[if_pos h1] at hb;exact(L.sim.glob.2 B vs hB).2 b S hb
  .rw[if_neg h1] at hb;rcases L.grew.gl B vs hB with h|⟨_,⟨d,T,h⟩|h⟩
   .exact(I.sim.glob.2 B vs h).2 b S hb
   .obtain⟨h2,h3⟩:=zO h;have:=I.sim.inj d b B T S h2 hb;omega
   .have:=I.sim.lt hb;omega
 have le2:Le ι' ⟨λb=>if b<(σ (q+1)).nx then ι' b else ι b,ι'.g⟩:=⟨λb hb=>.inl (if_pos (hb' b hb)),λ_ _ h=>h⟩;have le1:Le ι ⟨λb=>if b<(σ (q+1)).nx then ι' b else ι b,ι'.g⟩:=by
  refine⟨λb hb=>?_,L.le.2⟩;by_cases h1:b<(σ (q+1)).nx
  .simp only[if_pos h1];rcases Qaq b (σ q).nx with h2|h2
   .have e:hide ι (σ q).nx b=ι b:=by unfold hide;dsimp only;rw[if_pos h2]
    have:=L.le.1 b (by rw[e];exact hb);rwa [e] at this
   .exact absurd (hnew b h2 h1) hb
  .simp only[if_neg h1];exact .inl trivial
 refine⟨⟨λb=>if b<(σ (q+1)).nx then ι' b else ι b,ι'.g⟩,I.next c ho hr hn hab le1 ?_ (VR.mono le2 _ _ L.v) ?_ ?_ ?_⟩
 .refine⟨L.grew.os,L.grew.tape,L.grew.output,L.grew.size,λk hk hno=>L.grew.keep k hk λb T hb=>hno b T (zO hb).1,λb B T hb=>?_,λB vs hB=>(L.grew.gl B vs hB).elim .inl λh=>.inr ⟨⟨h.1.1,hfz B vs hB⟩,h.2.elim (λ⟨d,T,hd⟩=>.inl ⟨d,T,(zO hd).1⟩) .inr⟩⟩;by_cases h1:b<(σ (q+1)).nx
  .simp only[if_pos h1] at hb;rcases L.grew.new b B T hb with ⟨d,T',h2⟩|h2
   .exact .inl ⟨d,T',(zO h2).1⟩
   .exact .inr h2
  .simp only[if_neg h1] at hb;exact .inl ⟨b,T,hb⟩
 .refine⟨λb B T hb=>?_,λb hb o' ho'=>?_,λb b' B T T' h1 h2=>?_,λb hb=>?_,⟨⟨L.sim.glob.1.1,λb T hb=>by
   by_cases h1:b<(σ (q+1)).nx
   .simp only[if_pos h1] at hb;exact L.sim.glob.1.2 b T hb
   .simp only[if_neg h1] at hb;exact I.sim.glob.1.2 b T hb⟩,λB vs hB=>⟨(L.sim.glob.2 B vs hB).1,hfz B vs hB⟩⟩⟩
  .by_cases h1:b<(σ (q+1)).nx
   .simp only[if_pos h1] at hb;obtain⟨ob,y,h2,h3,h4⟩:=L.sim.obj b B T hb;refine⟨ob,y,?_,h3,OR.mono le2 _ _ h4⟩
    .rw[yZ,if_pos om,<-hh b h1 (by rw[hb];simp) λh5 h6=>by rw[hu b h5 h6] at hb;cases hb];exact h2
   .simp only[if_neg h1] at hb;obtain⟨ob,y,h2,h3,h4⟩:=I.sim.obj b B T hb;have hbM:b<(σ ops.size).nx:=I.sim.born b (by rw[hb];simp);have hnc:¬ Chg σ q b:=λh=>h1 (c.chg_lt ho h);refine⟨ob,y,?_,?_,OR.mono le1 _ _ h4⟩
    .rw[yZ,if_pos hbM,Y7 hnc];rw[yZ,if_pos hbM] at h2;exact h2
    .rw[L.grew.keep B (I.sim.lt hb) λd T' hd=>?_]
     .exact h3
     .obtain⟨h5,h6⟩:=zO hd;have:=I.sim.inj d b B T' T h5 hb;omega
  .by_cases h1:b<(σ (q+1)).nx
   .simp only[if_pos h1] at hb;rw[yZ,if_pos om,<-hh b h1 (by rw[hb];simp) λh5 h6=>by rw[hu b h5 h6] at hb;cases hb] at ho';exact L.sim.gone b hb o' ho'
   .simp only[if_neg h1] at hb;have hbM:b<(σ ops.size).nx:=I.sim.born b (by rw[hb];simp);have hnc:¬ Chg σ q b:=λh=>h1 (c.chg_lt ho h);rw[yZ,if_pos hbM,Y7 hnc] at ho';exact I.sim.gone b hb o' (by rw[yZ,if_pos hbM];exact ho')
  .have mixed:∀ b b' B T T',b<(σ (q+1)).nx->¬ b'<(σ (q+1)).nx->ι' b=.at B T->ι b'=.at B T'->False:=by
    intro b b' B T T' h3 h4 h5 h6;have h7:=I.sim.lt h6;rcases L.grew.new b B T h5 with ⟨d,T2,h8⟩|h8
    .obtain⟨h9,h10⟩:=zO h8;have:=I.sim.inj d b' B T2 T' h9 h6;omega
    .omega
   by_cases h3:b<(σ (q+1)).nx<;>by_cases h4:b'<(σ (q+1)).nx
   .simp only[if_pos h3] at h1;simp only[if_pos h4] at h2;exact L.sim.inj b b' B T T' h1 h2
   .simp only[if_pos h3] at h1;simp only[if_neg h4] at h2;exact(mixed b b' B T T' h3 h4 h1 h2).elim
   .simp only[if_neg h3] at h1;simp only[if_pos h4] at h2;exact(mixed b' b B T' T h4 h3 h2 h1).elim
   .simp only[if_neg h3] at h1;simp only[if_neg h4] at h2;exact I.sim.inj b b' B T T' h1 h2
  .by_cases h1:b<(σ (q+1)).nx
   .omega
   .simp only[if_neg h1] at hb;exact I.sim.born b hb
 .intro b hb;by_cases h1:b<(σ (q+1)).nx
  .simp only[if_pos h1] at hb;rcases Qaq b (σ q).nx with h2|h2
   .exact .inl λh3=>hb (hu b h2 h3)
   .exact .inr ⟨h2,h1⟩
  .simp only[if_neg h1] at hb;exact .inl hb
 .intro b h1 h2;simp only[if_pos h2];exact L.cl.n b (by rw[hn1];exact h1) (by rw[hn2];exact h2)
theorem Inv.acting (c:Ctx P call U N ops t ι0 w0 a0 σ V E ex ab)(I:Inv P call U N ops t ι0 w0 a0 σ V ab S ι a w){q:Nat}{o:Oper}(ho:ops[q]? = some o)(hr:Ju ops S q)(hn:¬ S q)(hab:ab q=false)
  (hk:acts (jY P o.op)=true) {wch:Bool} (hO:OpR P (jS U (qg ops q)) wch call o.op ⟨t,qB ops V q⟩ (σ q) (V q) (σ (q+1))) :
  Runs P o a w λx w'=>∃ ι2,Inv P call U N ops t ι0 w0 a0 σ V ab (Add S q) ι2 (a.put o.dst x) w':=by
 have hq:q<ops.size:=(Qax.1 ho).1;have hq1:=(c.stf ho).nx;have hcur:∀ b,b<(σ q).nx->ι b≠.unborn->jv (σ q).h b=cur σ ops.size S b:=λb hb hub=>by
  unfold cur;rw[<-wa b q,<-Z5 ops.size (Qbo hq)]
  congr 1
  refine zg _ λp hp=>and_congr_left λhc=>?_;exact⟨λh=>I.ahead c ho hr hn hk hub h hc,λh=>I.low c ho hr hn (.inr hk) hp om h hc⟩
 have hsim:=I.seen c ho hr hn (.inr hk) hcur;have hruns:=Va c.hcall (Vd c.ok ho).2.1 hO hsim (I.hidden c ho hr hn);have key:∀ x w',(∃ ι',Left (hide ι (σ q).nx) w wch (σ q) (V q) (σ (q+1)) ι' x w')->∃ ι2,Inv P call U N ops t ι0 w0 a0 σ V ab (Add S q) ι2 (a.put o.dst x) w':=by
  intro x w' ⟨ι',L⟩;refine I.merge c ho hr hn hab rfl rfl L λb hb hb' hold=>?_;unfold cur;rw[<-wa b (q+1),<-Z5 ops.size (show q+1<=ops.size from hq)]
  congr 1
  refine zg _ λp hp=>and_congr_left λhc=>⟨λh=>?_,λh=>?_⟩
  .by_cases hpq:p=q
   .exact .inr hpq
   .have hlt:p<q:=om
    refine .inl (I.ahead c ho hr hn hk (hold ?_) hlt hc);have:=c.chg_lt (Q6 hp) hc;have:=c.nx_mono (p:=p+1) q om om;omega
  .rcases h with h|h
   .have:=I.low c ho hr hn (.inr hk) hp hb h hc;omega
   .omega
 rcases hruns with ⟨x,w',h1,h2⟩|⟨f,vs,h1,h2⟩
 .exact .inl ⟨x,w',h1,key x w' h2⟩
 .exact .inr ⟨f,vs,h1,Calls.mono h2 λe w' ⟨x,h3,h4⟩=>⟨x,h3,key x w' h4⟩⟩
theorem Runs.mono {P:Program}{o:Oper}{a:Act}{w:World}{R R':Value->World->Prop}(h:Runs P o a w R)(hR:∀ x w',R x w'->R' x w'):Runs P o a w R':=by
 rcases h with ⟨x,w',h1,h2⟩|⟨f,vs,h1,h2⟩
 .exact .inl ⟨x,w',h1,hR x w' h2⟩
 .exact .inr ⟨f,vs,h1,Calls.mono h2 λe w' ⟨x,h3,h4⟩=>⟨x,h3,hR x w' h4⟩⟩
theorem Inv.making (c:Ctx P call U N ops t ι0 w0 a0 σ V E ex ab)(I:Inv P call U N ops t ι0 w0 a0 σ V ab S ι a w){q:Nat}{o:Oper}(ho:ops[q]? = some o)(hr:Ju ops S q)(hn:¬ S q)(hab:ab q=false)
  (hk:jY P o.op=.makes) (hO:OpR P (jS U (qg ops q)) false call o.op ⟨t,qB ops V q⟩ (σ q) (V q) (σ (q+1))) :
  Runs P o a w λx w'=>∃ ι2,Inv P call U N ops t ι0 w0 a0 σ V ab (Add S q) ι2 (a.put o.dst x) w':=by
 have hq:q<ops.size:=(Qax.1 ho).1;have hm:Xj (jY P o.op)=true:=by rw[hk];rfl
 obtain⟨hco,ob,h1,h2⟩:=jan hO hk;generalize hst:(⟨(σ q).nx,tab (cur σ ops.size S) (σ q).nx,0,[]⟩:St)=st2;have hnx:st2.nx=(σ q).nx:=by rw[<-hst]
 have hnx1:(σ (q+1)).nx=(σ q).nx+1:=by rw[h1]
 have h3:=h2 st2 hnx;have hO2:OpR P (jS U (qg ops q)) false call o.op ⟨t,qB ops V q⟩ st2 (V q) ⟨st2.nx+1,(j2 (jK st2.nx)).run ob st2.h,st2.dirty,st2.fr⟩:=by
  refine⟨⟨st2.nx+1,(j2 (jK st2.nx)).run ob st2.h,st2.dirty,st2.fr⟩,λh=>(by cases h),?_⟩;rw[hco];exact⟨h3,rfl⟩
 have hsim:Sim (hide ι (σ q).nx) st2.h st2.nx w:=by
  rw[hnx];refine I.seen c ho hr hn (.inl hm) λb hb _=>?_;rw[<-hst];show jv (tab _ _) b=_;rw[yZ,if_pos hb]
 refine(Va c.hcall (Vd c.ok ho).2.1 hO2 hsim (I.hidden c ho hr hn)).mono ?_;intro x w' ⟨ι',L⟩;refine I.merge c ho hr hn hab hnx (by rw[hnx1];show st2.nx+1=_;rw[hnx]) L λb hb hb' hold=>?_;show jv ((j2 (jK st2.nx)).run ob st2.h) b=_;rw[jW,hnx];by_cases hbq:b=(σ q).nx
 .rw[if_pos hbq];unfold cur;have hchg:Chg σ q b:=.inl ⟨om,hb⟩;have e:qK (λp=>Add S q p/\Chg σ p b) ops.size=some q:=by
   refine jc5 hq ⟨.inr rfl,hchg⟩ λp h4 h5 ⟨h6,h7⟩=>?_;have:=I.low c ho hr hn (.inl hm) h5 hb (h6.resolve_right om) h7;omega
  rw[e];show _=jv (σ (q+1)).h b;rw[h1];show _=jv ((j2 (jK (σ q).nx)).run ob (σ q).h) b;rw[jW,if_pos hbq]
 .rw[if_neg hbq];have hlt:b<(σ q).nx:=om
  have hnc:¬ Chg σ q b:=λh=>by
   rcases h with h|h
   .omega
   .refine h ?_;rw[h1];show jv ((j2 (jK (σ q).nx)).run ob (σ q).h) b=_;rw[jW,if_neg hbq]
  rw[Y7 hnc,<-hst];show jv (tab _ _) b=_;rw[yZ,if_pos hlt]
end
def jcP (P:Program)(t:TypeId)(x:TE)(tb:List TE)(p:Nat×TypeId):Bool:=
 match x with
 |.rd a v=>(match yt .none tb p.1 with | .wr pre post=>cond (jZ P t a v pre) (jZ P t a v post) false | .rd _ _=>false | .none=>true)
 |.wr pre post=>(match yt .none tb p.1 with | .rd a v=>cond (jZ P p.2 a v pre) (jZ P p.2 a v post) false | .wr _ _=>false | .none=>true)
 |.none=>true
theorem jjg {x:TE}{tb:List TE}(y:Nat×TypeId)(l:List (Nat×TypeId)):held P t x tb (y :: l)=cond (jcP P t x tb y) (held P t x tb l) false:=by
 cases x<;>rfl
theorem je6 {x:TE}{tb:List TE}:∀ {l:List (Nat×TypeId)},held P t x tb l=true->∀ {p:Nat×TypeId},p∈l->jcP P t x tb p=true
 |[],_,p,hm=>by simp at hm
 |y :: l,h,p,hm=>by
  rw[jjg] at h;obtain⟨h1,h2⟩:=qN h;rcases QaT.1 hm with rfl|hm
  .exact h1
  .exact je6 h2 hm
theorem jjy:∀ i k,k<i->(qC i)[k]? = some (i - 1 - k)
 |0,k,h=>by omega
 |i+1,0,h=>by simp[qC]
 |i+1,k+1,h=>by
  simp only[qC,List.getElem?_cons_succ];rw[jjy i k om]
  congr 1
  omega
theorem jih {E:Nat->TE}:∀ i k,k<i->yt .none (Jj E i) k=E (i - 1 - k)
 |0,k,h=>by omega
 |i+1,0,h=>by simp[Jj]
 |i+1,k+1,h=>by
  have:=jih (E:=E) i k om;simp only[zM,Jj,μ] at this ⊢;rw[this]
  congr 1
  omega
theorem uz {b o:Nat}{v:AV}{h:T AO}(e:jZ P t (.ptr b o) v h=true):(qV P t).run (.ptr b o) h=some v:=by
 unfold jZ at e;dsimp only at e;split at e
 .rename_i u hu;rw[hu,jpj e]
 .cases e
section
variable {P:Program} {call:qG} {U N:Nat} {ops:Array Oper} {t:T AV} {ι0:Inj} {w0:World} {a0:Act} {σ:Nat->St} {V:Nat->AV} {E:Nat->TE} {ex ab:Nat->Bool}
variable {S:Nat->Prop} {ι:Inj} {a:Act} {w:World}
theorem Ctx.tr_at (c:Ctx P call U N ops t ι0 w0 a0 σ V E ex ab){p:Nat}{o:Oper}(ho:ops[p]? = some o):TrAt P call U ops t (ab p) p (qB ops V p) (Jj E p) (σ p) (ex p) (V p) (E p) (σ (p+1)) o:=by
 obtain⟨o',htr⟩:=c.tr p (Qax.1 ho).1;have:o'=o:=by have:=htr.hop;rw[ho] at this;cases this;rfl
 rw[<-this];exact htr
theorem Ctx.te_act (c:Ctx P call U N ops t ι0 w0 a0 σ V E ex ab){p b:Nat}{o:Oper}(ho:ops[p]? = some o)(ha:acts (jY P o.op)=true)(hne:jv (σ (p+1)).h b≠jv (σ p).h b) :
  ex p=true/\E p=.wr (σ p).h (σ (p+1)).h:=by
 have htr:=c.tr_at ho;cases hx:ex p
 .exact absurd (by rw[(htr.skip hx).2.2]) hne
 .refine⟨rfl,?_⟩;rw[(htr.run hx).2.1];unfold JL;cases hcl:jY P o.op<;>rw[hcl] at ha<;>first|rfl|cases ha
theorem Ctx.pair (c:Ctx P call U N ops t ι0 w0 a0 σ V E ex ab){i j:Nat}{o u:Oper}(hi:ops[i]? = some o)(hj:ops[j]? = some u)(hji:j<i)(hx:ex i=true)(hno:yn (bs ops) i j=false)
  (hk:(reads (jY P u.op)=true/\acts (jY P o.op)=true)\/(acts (jY P u.op)=true/\reads (jY P o.op)=true)) :
  (match E i with
   |.rd a v=>(match E j with | .wr pre post=>cond (jZ P (Qz o.op) a v pre) (jZ P (Qz o.op) a v post) false | .rd _ _=>false | .none=>true)
   |.wr pre post=>(match E j with | .rd a v=>cond (jZ P (Qz u.op) a v pre) (jZ P (Qz u.op) a v post) false | .wr _ _=>false | .none=>true)
   |.none=>true)=true:=by
 have htr:=c.tr_at hi;have hheld:=(htr.run hx).2.2;have hmem:(i - 1 - j,Qz u.op)∈partners P ops (qC i) i o:=by
  unfold partners;rw[List.mem_filterMap];refine⟨(j,i - 1 - j),?_,?_⟩
  .rw[List.mem_zipIdx_iff_getElem?];show(qC i)[i - 1 - j]? = some j;rw[jjy i _ om]
   congr 1
   omega
  .simp only[hj];have hb:(((reads (jY P u.op) && acts (jY P o.op)) ||(acts (jY P u.op) && reads (jY P o.op))) && !yn (q9 ops.toList) i j)=true:=by
    have:yn (q9 ops.toList) i j=false:=hno;rw[this];rcases hk with ⟨h1,h2⟩|⟨h1,h2⟩<;>simp[h1,h2]
   rw[hb];simp only[cond_true,Qz]
 have h:=je6 hheld hmem;unfold jcP at h;simp only at h;rw[jih i _ om] at h;have e:i - 1 - (i - 1 - j)=j:=om
 rw[e] at h;exact h
theorem Inv.loading (c:Ctx P call U N ops t ι0 w0 a0 σ V E ex ab)(I:Inv P call U N ops t ι0 w0 a0 σ V ab S ι a w){q:Nat}{o:Oper}(ho:ops[q]? = some o)(hr:Ju ops S q)(hn:¬ S q)
  (hx:ex q=true) {ty:TypeId} {ad:Operand} (hop:o.op=.load ty ad) (hv:(qV P ty).run ((jS U (qg ops q) ad).run ⟨t,qB ops V q⟩) (σ q).h=some (V q)) :
  (qV P ty).run ((jS U (qg ops q) ad).run ⟨t,qB ops V q⟩) (tab (cur σ ops.size S) (σ ops.size).nx)=some (V q):=by
 have hq:q<ops.size:=(Qax.1 ho).1;have hvr:=I.opnd c ho hr hn ad (by rw[hop];simp[Op.operands]);have hE:E q=.rd ((jS U (qg ops q) ad).run ⟨t,qB ops V q⟩) (V q):=by
  rw[((c.tr_at ho).run hx).2.1,hop];rfl
 obtain⟨ιc,ac,wc,r,_,_⟩:=c.can q om;have hvc:=r.opd ad;generalize (jS U (qg ops q) ad).run ⟨t,qB ops V q⟩=addr at hv hvr hE hvc ⊢;obtain⟨b,off,rfl⟩|⟨cs,off,rfl⟩:=jiT (P:=P) hv;rotate_left
 .rw[jgD (h2:=(σ q).h)];exact hv
 have hb:ι b≠.unborn:=by simp only[VR] at hvr;exact hvr.1
 have hbq:b<(σ q).nx:=r.sim.born b (by simp only[VR] at hvc;exact hvc.1);have hM:=c.nx_mono (p:=q) ops.size om om;have hrd:reads (jY P o.op)=true:=by rw[hop];rfl
 have hty:Qz o.op=ty:=by rw[hop];rfl
 have wq:∀ p,p<ops.size->p≠q->(S p↔¬ p<q)->Chg σ p b->(qV P ty).run (.ptr b off) (σ p).h=some (V q)/\(qV P ty).run (.ptr b off) (σ (p+1)).h=some (V q):=by
  intro p hp hpq hS hc;have hu:=Q6 hp;have hbp:b<(σ p).nx:=by
   rcases Qaq b (σ p).nx with h|h
   .exact h
   .exfalso;have hlt:=c.chg_lt hu hc;have h1:=I.maker c hb hp h hlt;have h2:=hS.1 h1;have:=c.nx_mono (p:=q) p om om;omega
  obtain⟨h1,h2,h3⟩:=c.chg hu hc hbp;obtain⟨hxp,hEp⟩:=c.te_act hu h1 h3;have hno:yn (bs ops) q p=false:=by
   cases hoo:yn (bs ops) q p
   .rfl
   .have:=vC c.ok I.closed hu ho hr hn hoo;exfalso;by_cases hlt:p<q
    .exact hS.1 (this.2 hlt) hlt
    .exact hlt (this.1 (hS.2 hlt))
  by_cases hlt:p<q
  .have h:=c.pair ho hu hlt hx hno (.inr ⟨h1,hrd⟩);rw[hE,hEp] at h;simp only[hty] at h;obtain⟨h4,h5⟩:=qN h;exact⟨uz h4,uz h5⟩
  .have h:=c.pair hu ho om hxp (by rw[Xd];exact hno) (.inl ⟨hrd,h1⟩);rw[hE,hEp] at h;simp only[hty] at h;obtain⟨h4,h5⟩:=qN h;exact⟨uz h4,uz h5⟩
 have stay:∀ p,¬ Chg σ p b->(qV P ty).run (.ptr b off) (σ (p+1)).h=(qV P ty).run (.ptr b off) (σ p).h:=λp h=>by
  refine Uk ?_;exact Classical.not_not.1 λh2=>h (.inr h2)
 have down:∀ d k,k+d=q->(∀ p,k<=p->p<q->Chg σ p b->¬ S p)->(qV P ty).run (.ptr b off) (σ k).h=some (V q):=by
  intro d;induction d with
  |zero=>
   intro k hk _;have:k=q:=om
   rw[this];exact hv
  |succ d ih=>
   intro k hk hno;by_cases hc:Chg σ k b
   .have hns:=hno k (η _) om hc;exact(wq k om om ⟨λh=>absurd h hns,λh=>absurd (by omega:k<q) h⟩ hc).1
   .rw[<-stay k hc];exact ih (k+1) om λp h1 h2=>hno p om h2
 have goal:∀ h2:T AO,jv h2 b=cur σ ops.size S b->(qV P ty).run (.ptr b off) h2=some (V q):=by
  intro h2 hh;unfold cur at hh;cases hl:qK (λp=>S p/\Chg σ p b) ops.size with
  |none=>
   rw[hl] at hh;rw[Uk (h2:=(σ 0).h) hh];exact down q 0 om λp _ h1 h3 h4=>wQ _ hl p om ⟨h4,h3⟩
  |some k=>
   rw[hl] at hh;obtain⟨h3,⟨h4,h5⟩,h6⟩:=XG _ hl;rw[Uk (h2:=(σ (k+1)).h) hh];rcases Qco k q with h7|h7|h7
   .exact down (q - (k+1)) (k+1) om λp h8 h9 h10 h11=>h6 p om om ⟨h11,h10⟩
   .subst h7;exact absurd h4 hn
   .exact(wq k h3 om ⟨λ_=>by omega,λ_=>h4⟩ h5).2
 refine goal _ ?_;rw[yZ,if_pos om]
theorem Inv.step (c:Ctx P call U N ops t ι0 w0 a0 σ V E ex ab)(I:Inv P call U N ops t ι0 w0 a0 σ V ab S ι a w){q:Nat}{o:Oper}(ho:ops[q]? = some o)(hr:Ju ops S q)(hn:¬ S q)(hab:ab q=false){K:Act->World->Prop}{Q:Exit->Act->World->Prop}
  (hk:∀ ι' a' w',Inv P call U N ops t ι0 w0 a0 σ V ab (Add S q) ι' a' w'->K a' w'):wpOp P ops Q q K a w:=by
 have htr:=c.tr_at ho;have hw:=I.want c ho hr hn (htr.want hab);have still:∀ ι' x w',V q=qe->σ (q+1)=σ q->x=undef->w'=w->ι'=ι->Inv P call U N ops t ι0 w0 a0 σ V ab (Add S q) ι' (a.put o.dst x) w':=by
  intro ι' x w' h1 h2 h3 h4 h5;subst h3;subst h4;subst h5;exact I.still c ho hr hn hab h2 (Le.refl _) (Grew.refl _ _) (by rw[h1];exact vJ _) I.sim λ_ _ h=>h
 unfold wpOp;simp only[ho];cases hx:ex q
 .rw[hw,hx];simp only[QaP,if_false];obtain⟨h1,h2,h3⟩:=htr.skip hx;exact hk ι _ _ (still ι undef w h1 h3 rfl rfl rfl)
 .rw[hw,hx];simp only[if_true];left;obtain⟨hO,hE,_⟩:=htr.run hx;have done:Runs P o a w (λx w'=>∃ ι2,Inv P call U N ops t ι0 w0 a0 σ V ab (Add S q) ι2 (a.put o.dst x) w')->o.wp P a w K Q:=λh=>
   h.wp λx w' ⟨ι2,h2⟩=>hk ι2 _ _ h2
  have quiet:σ (q+1)=σ q->qy o.op=none->(jy P (jS U (qg ops q)) o.op).run ⟨t,qB ops V q⟩ ⟨(σ ops.size).nx,tab (cur σ ops.size S) (σ ops.size).nx,0,[]⟩=.ok (V q) ⟨(σ ops.size).nx,tab (cur σ ops.size S) (σ ops.size).nx,0,[]⟩->
    Runs P o a w (λx w'=>∃ ι2,Inv P call U N ops t ι0 w0 a0 σ V ab (Add S q) ι2 (a.put o.dst x) w'):=by
   intro hs hco he;have hO2:OpR P (jS U (qg ops q)) false call o.op ⟨t,qB ops V q⟩ ⟨(σ ops.size).nx,tab (cur σ ops.size S) (σ ops.size).nx,0,[]⟩ (V q) ⟨(σ ops.size).nx,tab (cur σ ops.size S) (σ ops.size).nx,0,[]⟩:=by
    refine⟨⟨(σ ops.size).nx,tab (cur σ ops.size S) (σ ops.size).nx,0,[]⟩,λh=>(by cases h),?_⟩;rw[hco];exact⟨he,rfl⟩
   refine(Va c.hcall (Vd c.ok ho).2.1 hO2 I.sim (I.opnd c ho hr hn)).mono ?_;intro x w' ⟨ι',L⟩;exact⟨ι',I.still c ho hr hn hab hs L.le L.grew L.v L.sim L.cl.u⟩
  rcases KN (jY P o.op) with h4|h4|h4|h4
  .obtain⟨h1,h2,h3⟩:=Ku hO h4;exact done (quiet h1 h2 (h3 _))
  .rw[vG h4 hac] at hO;obtain⟨h1,h2,ty,ad,h3,h5⟩:=Ue hO h4;refine done (quiet h1 h2 ?_);have:=I.loading c ho hr hn hx h3 h5;rw[h3];show(Y1 P ty (jS U (qg ops q) ad)).run _ _=_;unfold Y1;dsimp only;rw[this]
  .rw[vG h4 hac] at hO;exact done (I.making c ho hr hn hab h4 hO)
  .exact done (I.acting c ho hr hn hab h4 hO)
theorem Inv.last (c:Ctx P call U N ops t ι0 w0 a0 σ V E ex ab)(I:Inv P call U N ops t ι0 w0 a0 σ V ab S ι a w)(hall:∀ p,p<ops.size->S p) :
  Rel ι U N ((zY U (qg ops ops.size)).run (qB ops V ops.size) t) [] [] (σ ops.size) a w/\Cleanly ι0 ι (σ 0) (σ ops.size):=by
 obtain⟨ιc,ac,wc,r,_,hc⟩:=c.can ops.size (η _);have hslot:=I.slot;have e:∀ x,qK (λp=>S p/\yi ops p=some x) ops.size=qK (λp=>yi ops p=some x) ops.size:=λx=>
  zg _ λp hp=>⟨λh=>h.2,λh=>⟨hall p hp,h⟩⟩
 have hfr:∀ q,q<=ops.size->(σ q).fr=(σ 0).fr:=by
  intro q;induction q with
  |zero=>intro _;rfl
  |succ q ih=>intro hq;rw[(c.stf (Q6 (by omega:q<ops.size))).fr];exact ih om
 have r2:Rel ι U N t (qg ops ops.size) (qB ops V ops.size) (σ ops.size) a w:=by
  refine⟨?_,I.size,λx hu hi=>?_,λx i hi=>?_,r.len,by rw[hfr _ (η _)];exact I.ds⟩
  .refine I.sim.same λb hb=>?_;rw[yZ,if_pos (I.sim.born b hb)];unfold cur;rw[<-wa b ops.size]
   congr 1
   exact zg _ λp hp=>⟨λh=>⟨hall p hp,h⟩,λh=>h.2⟩
  .have h1:=uW (ops:=ops) (V:=V) x ops.size;have h2:=hslot x;rw[e x] at h2;cases hl:qK (λp=>yi ops p=some x) ops.size with
   |none=>rw[hl] at h2;exact h2 hu
   |some k=>
    rw[hl] at h1;obtain⟨i,h3,_⟩:=h1;rw[hi] at h3;cases h3
  .have h1:=uW (ops:=ops) (V:=V) x ops.size;have h2:=hslot x;rw[e x] at h2;cases hl:qK (λp=>yi ops p=some x) ops.size with
   |none=>rw[hl] at h1;simp only at h1;rw[h1] at hi;cases hi
   |some k=>
    rw[hl] at h1 h2;obtain⟨i',h3,h4⟩:=h1;rw[hi] at h3;cases h3;rw[h4];exact h2
 refine⟨r2.flush,hc.nx,hc.dirty,hc.keep,hc.above,λb hb hu=>?_,λb hb=>I.le.born hb,λb h1 h2=>?_⟩
 .cases hι:ι b with
  |unborn=>rfl
  |dead|«at»=>
   rcases I.birth b (by rw[hι];simp) with h|⟨p,hp,_,h3,_⟩
   .exact absurd hu h
   .have:=c.nx_mono (p:=0) p om om;omega
 .have find:∀ q,q<=ops.size->b<(σ q).nx->∃ p,p<q/\(σ p).nx<=b/\b<(σ (p+1)).nx:=by
   intro q;induction q with
   |zero=>intro _ h;omega
   |succ q ih=>
    intro hq h;rcases Qaq b (σ q).nx with h3|h3
    .obtain⟨p,h4,h5⟩:=ih om h3;exact⟨p,om,h5⟩
    .exact⟨q,om,h3,h⟩
  obtain⟨p,h3,h4,h5⟩:=find ops.size (η _) h2;exact I.born p h3 (hall p h3) b h4 h5
end
theorem jdM (e:Edge):Region.binds .any e=Qj e:=by
 unfold Region.binds Qj;cases e.ground<;>rfl
def In (listed:Array Bool)(p:Nat):Prop:=listed.getD p false=true
theorem jtI {listed:Array Bool}{q:Nat}(hq:q<listed.size):In (listed.setIfInBounds q true)=Add (In listed) q:=by
 funext p
 unfold In Add;refine propext ?_;by_cases h:p=q
 .subst h;simp[hq]
 .rw[getD_set_ne false (λe=>h e.symm)];simp[In,h]
def left (listed:Array Bool):Nat:=(ω listed.size).countP λp=>!listed.getD p false
theorem HX {P:Program}{call:qG}{U N:Nat}{ops:Array Oper}{t:T AV}{ι0:Inj}{w0:World}{a0:Act}{σ:Nat->St}{V:Nat->AV}{E:Nat->TE}{ex ab:Nat->Bool}
  (c:Ctx P call U N ops t ι0 w0 a0 σ V E ex ab) {Q:Exit->Act->World->Prop}
  (hQ:∀ ι a w,Inv P call U N ops t ι0 w0 a0 σ V ab (λp=>p<ops.size) ι a w->Q .normal a w)
  (hP:∀ q S ι a w K,q<ops.size->Inv P call U N ops t ι0 w0 a0 σ V ab S ι a w->¬ S q->Ju ops S q->ab q=true->wpOp P ops Q q K a w) :
  ∀ (fuel:Nat) (listed:Array Bool) (a:Act) (w:World),listed.size=ops.size->left listed<=fuel->
   (∃ ι,Inv P call U N ops t ι0 w0 a0 σ V ab (In listed) ι a w)->wpAny P .any ops Q fuel listed a w:=by
 have hready:∀ (listed:Array Bool),listed.size=ops.size->∀ j∈Region.ready .any ops listed,j<ops.size/\¬ In listed j/\Ju ops (In listed) j:=by
  intro listed hs j hj;obtain⟨h0,o,ho,h1⟩:=mem_ready.1 hj;have hlt:j<ops.size:=(Qax.1 ho).1;refine⟨hlt,?_,o,ho,λe he hb=>h1 e he (by rw[jdM];exact hb)⟩;unfold In;have hls:j<listed.size:=om
  simp[hls] at h0 ⊢;exact h0
 have hend:∀ (listed:Array Bool),listed.size=ops.size->Region.ready .any ops listed=[]->∀ p,p<ops.size->In listed p:=by
  intro listed hs hr p;induction p using Nat.strongRecOn with
  |ind p ih=>
   intro hp;cases hin:listed.getD p false
   .exfalso;have hmem:p∈Region.ready .any ops listed:=by
     rw[mem_ready];have ho:=Q6 hp;refine⟨?_,ops[p],ho,λe he hb=>?_⟩
     .have hls:p<listed.size:=om
      simp[hls] at hin ⊢;exact hin
     .have hlt:=uC c.ok p _ ho e he (by rw[<-jdM];exact hb);exact ih e.on hlt om
    rw[hr] at hmem;cases hmem
   .exact hin
 have hfin:∀ (listed:Array Bool),listed.size=ops.size->(∀ p,p<ops.size->In listed p)->∀ a w,(∃ ι,Inv P call U N ops t ι0 w0 a0 σ V ab (In listed) ι a w)->Q .normal a w:=by
  intro listed hs hall a w ⟨ι,I⟩;have:In listed=λp=>p<ops.size:=by
   funext p
   refine propext ⟨λh=>?_,hall p⟩;unfold In at h;rcases Qaq p listed.size with h1|h1
   .omega
   .simp[Array.getElem?_eq_none h1] at h
  rw[this] at I;exact hQ ι a w I
 intro fuel;induction fuel with
 |zero=>
  intro listed a w hs hl hI;have hall:∀ p,p<ops.size->In listed p:=by
   intro p hp;unfold left at hl;have:(ω listed.size).countP (λp=>!listed.getD p false)=0:=om
   rw[List.countP_eq_zero] at this;have:=this p hae;unfold In;simpa using this
  refine⟨?_,hfin listed hs hall a w hI⟩;cases hr:Region.ready .any ops listed with
  |nil=>rfl
  |cons j l=>
   have:=hready listed hs j (by rw[hr];simp);exact absurd (hall j this.1) this.2.1
 |succ fuel ih=>
  intro listed a w hs hl hI;refine⟨λhr=>hfin listed hs (hend listed hs hr) a w hI,λj hj=>?_⟩;obtain⟨h1,h2,h3⟩:=hready listed hs j hj;obtain⟨ι,I⟩:=hI;cases hab:ab j;case true=>exact hP j _ ι a w _ h1 I h2 h3 hab
  refine I.step c (Q6 h1) h3 h2 hab λι' a' w' I'=>?_;refine ih (listed.setIfInBounds j true) a' w' (by simp[hs]) ?_ ⟨ι',by rw[jtI om];exact I'⟩;unfold left at hl ⊢;have hlt:(ω (listed.setIfInBounds j true).size).countP (λp=>!(listed.setIfInBounds j true).getD p false)<(ω listed.size).countP (λp=>!listed.getD p false):=by
   have hsz:(listed.setIfInBounds j true).size=listed.size:=by simp
   rw[hsz];have hjs:j<listed.size:=om
   have key:∀ n,(ω n).countP (λp=>!(listed.setIfInBounds j true).getD p false)+(if j<n then 1 else 0)=(ω n).countP (λp=>!listed.getD p false):=by
    intro n;induction n with
    |zero=>simp
    |succ n ihn=>
     rw[Qbs,List.countP_append,List.countP_append];by_cases hjn:j=n
     .subst hjn;have e1:(listed.setIfInBounds j true).getD j false=true:=by simp[hjs]
      have e2:listed.getD j false=false:=by
       cases hg:listed.getD j false
       .rfl
       .exact absurd hg h2
      rw[if_neg (Qba _)] at ihn;rw[if_pos (QaW _)];rw[Qcq,Qcq,e1,e2];simp only[Bool.not_true,Bool.not_false,if_true,QaP,if_false];omega
     .rw[Qcq,Qcq,getD_set_ne false hjn];have:(if j<n+1 then 1 else 0)=(if j<n then 1 else 0):=by
       by_cases h:j<n
       .rw[if_pos h,if_pos om]
       .rw[if_neg h,if_neg om]
      rw[this];omega
   have:=key listed.size;rw[if_pos hjs] at this;omega
  omega
theorem kX {n:Nat}(p:Nat):¬ In (QaK n false) p:=by
 unfold In;by_cases h:p<n<;>simp[h]
theorem Inv.first {P:Program}{call:qG}{U N:Nat}{ops:Array Oper}{t:T AV}{ι0:Inj}{w0:World}{a0:Act}{σ:Nat->St}{V:Nat->AV}{E:Nat->TE}{ex ab:Nat->Bool}
  (c:Ctx P call U N ops t ι0 w0 a0 σ V E ex ab):Inv P call U N ops t ι0 w0 a0 σ V ab (In (QaK ops.size false)) ι0 a0 w0:=by
 have hr0:=c.rel0;have hnone:∀ (A:Nat->Prop) m,qK (λp=>In (QaK ops.size false) p/\A p) m=none:=by
  intro A m;cases hl:qK (λp=>In (QaK ops.size false) p/\A p) m with
  |none=>rfl
  |some k=>exact absurd (XG _ hl).2.1.1 (kX k)
 refine⟨hr0.size,hr0.ds,Le.refl _,Grew.refl _ _,λx=>?_,?_,λb hb=>.inl hb,λp _ h=>absurd h (kX p),λi o h=>absurd h (kX i),λp h=>absurd h (kX p)⟩
 .rw[hnone];exact λhu=>hr0.env x hu rfl
 .have hmono:=c.nx_mono (p:=0) ops.size (Qae _) (η _);have:Sim ι0 (tab (cur σ ops.size (In (QaK ops.size false))) (σ ops.size).nx) (σ 0).nx w0:=by
   refine hr0.sim.same λb hb=>?_;have:=hr0.sim.born b hb;rw[yZ,if_pos om];unfold cur;rw[hnone];rfl
  exact⟨this.obj,this.gone,this.inj,λb hb=>Qat (this.born b hb) hmono,this.glob⟩
theorem je0 (n:Nat):left (QaK n false)<=n:=by
 unfold left;refine χ List.countP_le_length ?_;simp
theorem Inv.panics {P:Program}{call:qG}{U N:Nat}{ops:Array Oper}{t:T AV}{ι0:Inj}{w0:World}{a0:Act}{σ:Nat->St}{V:Nat->AV}{E:Nat->TE}{ex ab:Nat->Bool}
  {S:Nat->Prop} {ι:Inj} {a:Act} {w:World}
  (c:Ctx P call U N ops t ι0 w0 a0 σ V E ex ab) (I:Inv P call U N ops t ι0 w0 a0 σ V ab S ι a w) {q:Nat} {o:Oper} (ho:ops[q]? = some o) (hr:Ju ops S q) (hn:¬ S q) (hexq:ex q=false)
  (hout:∀ p,p<ops.size->ab p=false->jdw U ops p=true)
  (hahead:∀ p,p<q->∀ u,ops[p]? = some u->(Xj (jY P u.op) ||acts (jY P u.op))=true->inU ((q9 ops.toList).getD q 0) p=true)
  (hwant:match ym (jS U (qg ops q)) ops o with|none=>True|some wf=>wf.run ⟨t,qB ops V q⟩=some true)
  {v:AV} {st':St} (hO:OpP (jS U (qg ops q)) call o.op ⟨t,qB ops V q⟩ (σ q) v st') {K:Act->World->Prop} {Q:Exit->Act->World->Prop}
  (hQ:Post ι0 U N w0 (σ 0) (.pn v t st') Q):wpOp P ops Q q K a w:=by
 have hq:q<ops.size:=(Qax.1 ho).1;obtain⟨f,args,fid,caps,st1,hco,hfv,he,rfl⟩:=hO;have hcl:=Qi (P:=P) hco;have hact:acts (jY P o.op)=true:=by rw[hcl];rfl
 have hcur:∀ b,b<(σ q).nx->ι b≠.unborn->jv (σ q).h b=cur σ ops.size S b:=λb hb hub=>by
  unfold cur;rw[<-wa b q,<-Z5 ops.size (Qbo hq)]
  congr 1
  refine zg _ λp hp=>and_congr_left λhc=>?_;exact⟨λh=>I.ahead c ho hr hn hact hub h hc,λh=>I.low c ho hr hn (.inr hact) hp (by have:=(c.stf ho).nx;omega) h hc⟩
 have hsim:=I.seen c ho hr hn (.inr hact) hcur;have hx:=I.hidden c ho hr hn;have hw:Region.wanted o (yielded ops a.tmps)=true:=by
  have:match ym (jS U (qg ops q)) ops o with|none=>true=true|some wf=>wf.run ⟨t,qB ops V q⟩=some true:=by
   split at hwant
   .rfl
   .exact hwant
  exact I.want c ho hr hn this
 unfold wpOp;simp only[ho];rw[hw];simp only[if_true];left;have hcs:∃ c,o.op=.call c/\c.callee=.value f/\args=c.args.toList:=by
  unfold qy at hco;split at hco
  .rename_i c hoc;split at hco
   .rename_i f' hf';cases hco;exact⟨c,hoc,hf',rfl⟩
   .cases hco
  .cases hco
 obtain⟨cl,hoc,hcf,rfl⟩:=hcs;rw[hoc] at hx;have hvf:=hx f (by simp[Op.operands,Call.operands,hcf]);rw[hfv] at hvf;simp only[VR] at hvf;obtain⟨cv,hcv,hcaps⟩:=hvf;simp only[yu,yG] at he;have hargs:VRs (hide ι (σ q).nx) (cl.args.toList.map (λx=>(jS U (qg ops q) x).run ⟨t,qB ops V q⟩) ++ caps) ((cl.args.map a.eval) ++ cv).toList:=by
  rw[Qcn,Qbz];exact(VRs.map_of _ λx hxm=>hx x (by simp[Op.operands,Call.operands];right;simpa using hxm)).append hcaps
 have hC:=c.hcall fid _ (σ q) (hide ι (σ q).nx) w ((cl.args.map a.eval) ++ cv) hsim hargs;rw[he] at hC;obtain⟨hen,hcs⟩:=hC;unfold Oper.wp;rw[VH hoc hcf hcv hen];simp only[Oper.upon];refine Calls.mono hcs λe w' he=>?_;obtain⟨x,rfl,ι',hl,hv,hs,hg,hcl'⟩:=he;obtain⟨ιc,ac,wc,r,_,hcc⟩:=c.can q om;have hle0:Le ι0 (hide ι (σ q).nx):=⟨λb hb=>by
  have h1:=c.born0 hb;have h2:=c.nx_mono (p:=0) q (Qae _) om;unfold hide;dsimp only;rw[if_pos om];exact I.le.1 b hb,I.le.2⟩
 have hgrew:Grew ι0 w0 ι' w':=by
  refine⟨hg.os.trans I.grew.os,hg.tape.trans I.grew.tape,hg.output.trans I.grew.output,χ I.grew.size hg.size,λk hk hno=>?_,λb B T hb=>?_,λB vs hB=>?_⟩
  .rw[hg.keep k (Qat hk I.grew.size) λb T hb=>?_]
   .exact I.grew.keep k hk hno
   .rcases I.grew.new b k T (zO hb).1 with ⟨d,T',h3⟩|h3
    .exact hno d T' h3
    .omega
  .rcases hg.new b B T hb with ⟨d,T',h3⟩|h3
   .exact I.grew.new d B T' (zO h3).1
   .exact .inr (χ I.grew.size h3)
  .rcases hg.gl B vs hB with h3|⟨h3,h4⟩
   .rcases I.grew.gl B vs h3 with h5|⟨h5,h6⟩
    .exact .inl h5
    .have h7:Froz (hide ι (σ q).nx) w B vs:=⟨h5.1,λb S e=>h5.2 b S (zO e).1⟩;exact .inr ⟨h7.grew hg,h6⟩
   .refine .inr ⟨h3,?_⟩;rcases h4 with ⟨d,T,h4⟩|h4
    .exact I.grew.new d B T (zO h4).1
    .exact .inr (χ I.grew.size h4)
 have hbornq:∀ b,(σ 0).nx<=b->b<(σ q).nx->ι b≠.unborn:=by
  intro b h1 h2;have find:∀ k,k<=q->b<(σ k).nx->∃ p,p<k/\(σ p).nx<=b/\b<(σ (p+1)).nx:=by
   intro k;induction k with
   |zero=>intro _ h;omega
   |succ k ih=>
    intro hk h;rcases Qaq b (σ k).nx with h3|h3
    .obtain⟨p,h4,h5⟩:=ih om h3;exact⟨p,om,h5⟩
    .exact⟨k,om,h3,h⟩
  obtain⟨p,h3,h4,h5⟩:=find q (η _) h2;have hu:=Q6 (show p<ops.size by omega);have hma:(Xj (jY P (ops[p]).op) ||acts (jY P (ops[p]).op))=true:=by
   cases hm:Xj (jY P (ops[p]).op)
   .cases ha:acts (jY P (ops[p]).op)
    .have:=(c.stf hu).same hm ha;rw[this] at h5;omega
    .rfl
   .rfl
  have hbit:=hahead p h3 _ hu hma;have hS:S p:=WG (uC c.ok) I.closed p (q+1) q om hr hbit;exact I.born p om hS b h4 h5
 have hnxq:=c.nx_mono (p:=0) q (Qae _) om;have hclean:Cleanly ι0 ι' (σ 0) (back (σ q) st1):=by
  have hmid:Cleanly ι0 (hide ι (σ q).nx) (σ 0) (σ q):=by
   refine⟨hcc.nx,hcc.dirty,hcc.keep,hcc.above,λb hb hu=>?_,λb hb=>?_,λb h1 h2=>?_⟩
   .unfold hide;dsimp only;split
    .cases hι:ι b with
     |unborn=>rfl
     |dead|«at»=>
      rcases I.birth b (by rw[hι];simp) with h|⟨p,hp,_,h3,_⟩
      .exact absurd hu h
      .have:=c.nx_mono (p:=0) p om om;omega
    .rfl
   .exact hle0.born hb
   .unfold hide;dsimp only;rw[if_pos h2];exact hbornq b h1 h2
  have:=hmid.trans hcl';exact⟨this.nx,this.dirty,this.keep,this.above,this.u,this.le,this.n⟩
 refine hQ ι' a w' x (hle0.trans hl) ?_ hgrew hclean hv;have hfr:(back (σ q) st1).fr=(σ 0).fr:=by
  have key:∀ k,k<=ops.size->(σ k).fr=(σ 0).fr:=by
   intro k;induction k with
   |zero=>intro _;rfl
   |succ k ih=>intro hk;rw[(c.stf (Q6 (by omega:k<ops.size))).fr];exact ih om
  exact key q om
 refine⟨hs,I.size,λy hy _=>?_,λy i hi=>(by simp[idx] at hi),rfl,?_⟩
 .have hsl:=I.slot y;have:qK (λp=>S p/\yi ops p=some y) ops.size=none:=by
   cases hl':qK (λp=>S p/\yi ops p=some y) ops.size with
   |none=>rfl
   |some k=>
    exfalso;obtain⟨h1,⟨h2,h3⟩,_⟩:=XG _ hl';have h4:=hout k h1 (I.live k h2);have hu:=Q6 h1;unfold jdw at h4;rw[hu] at h4;have h5:(ops[k]).dst=some y:=by simpa[yi,hu] using h3
    simp only[h5] at h4;rw[hy] at h4;cases h4
  rw[this] at hsl;have h6:=hsl hy;have h7:VR ι0 (zI t y) (a0.tmps.getD y undef):=c.rel0.env y hy rfl;have h8:VR (hide ι (σ q).nx) (zI t y) (a.tmps.getD y undef):=VR.hide (λb hb=>Qat (c.born0 hb) hnxq) _ _ _ h7 h6;exact VR.mono hl _ _ h8
 .rw[hfr];exact DRs.mono hl _ _ (DRs.hide (λb hb=>Qat (c.born0 hb) hnxq) _ _ _ c.rel0.ds I.ds)
theorem jfj (hm:P.follows .mixedOrders=true):Zd P:=by
 intro call hcall n U N ops hok hdst ι t st a w Q id r hp;have hne:(wV P U ops).run call n t [] [] st≠.no:=by
  intro h;rw[h] at hp;exact hp
 unfold wV at hne hp;rw[List.range_eq_range'] at hne hp;have htr:=V8 (P:=P) (call:=call) (n:=n) (U:=U) (ops:=ops) (t:=t) (XX U) (Yr P U ops) (λ_=>false) ops.size 0 om (λ_=>.bad) (λ_=>.none) st hne;have hr0:∀ s:St,s=st->Rel ι U N t [] [] s a { w with drawn:=w.drawn+1 }:=λs hs=>by
  rw[hs];exact⟨r.sim.drew,r.size,r.env,r.recs,r.len,r.ds⟩
 obtain⟨σ,V,E,ex,m,_,_,h3,_,h4,h5⟩:=htr;have e0:(yr P U ops (XX U) (Yr P U ops) (λ_=>false) (Qag 0 ops.size) (qC 0) (qg ops 0)).run call n t (qB ops (λ_=>.bad) 0) (Jj (λ_=>.none) 0) st
   = (yr P U ops (XX U) (Yr P U ops) (λ_=>false) (Qag 0 ops.size) [] []).run call n t [] [] st:=rfl
 rw[e0] at h5;rcases h5 with ⟨rfl,h5⟩|⟨hmlt,o,v,st',ho,_,hwant,hO,h5⟩
 .rw[h5] at hp;have c:Ctx P call U N ops t ι { w with drawn:=w.drawn+1 } a σ V E ex (λ_=>false):=⟨hcall,hok,hdst,λi hi=>h4 i (Qae _) hi,hr0 _ h3⟩;refine wp_region_any hm (HX c ?_ ?_ ops.size _ a _ hac (je0 _) ⟨ι,Inv.first c⟩)
  .intro ι' a' w' I;obtain⟨hr,hc⟩:=I.last c λp hp=>hp;rw[h3] at hc;exact hp ι' a' w' I.le hr ((Grew.drew ι w).trans I.grew) hc
  .intro q S ι' a' w' K _ _ _ _ h;cases h
 ·
  rw[h5] at hp;unfold Yr at hp;generalize hpo:jbt P U ops m=po at hp;cases po
  .exact hp.elim
  simp only[cond_true] at hp;have e1:QcF ops.size m=ops.size - m:=rfl;rw[e1] at hp;generalize hrr:(yr P U ops (XX U) (λ_ _ _ _ _=>wt) (JK ops m) (Qag m (ops.size - m)) (qC m) (qg ops m)).run call n t (qB ops V m) (Jj E m) (σ m)=rr at hp;have hgo:∃ t2 s2,rr=.go t2 s2:=by
   cases rr<;>first|exact⟨_,_,rfl⟩|exact hp.elim
  obtain⟨t2,s2,rfl⟩:=hgo;simp only at hp;have htr2:=V8 (P:=P) (call:=call) (n:=n) (U:=U) (ops:=ops) (t:=t) (XX U) (λ_ _ _ _ _=>wt) (JK ops m) (ops.size - m) m om V E (σ m) (by rw[hrr];simp);rw[hrr] at htr2;obtain⟨σ2,V2,E2,ex2,m2,g1,g2,g3,g4,g5,g6⟩:=htr2;have hm2:m2=ops.size:=by
   rcases g6 with ⟨h,_⟩|⟨_,o2,v2,s3,_,_,_,_,h⟩
   .exact h
   .cases h
  subst hm2;have habs:JK ops m m=true:=by
   unfold JK;have:QcA m m=true:=by rw[qJ]
   rw[this];rfl
  have hlow:∀ k,k<m->JK ops m k=false:=by
   intro k hk;unfold JK;rw[QbW];refine⟨?_,?_⟩
   .cases hb:QcA k m
    .rfl
    .rw[qJ] at hb;omega
   .cases hb:inU ((q9 ops.toList).getD k 0) m
    .rfl
    .have:=jdK hok (Q6 (show k<ops.size by omega)) hb;omega
  have c:Ctx P call U N ops t ι { w with drawn:=w.drawn+1 } a (λi=>if i<=m then σ i else σ2 i) V2 E2 (λi=>if i<m then ex i else ex2 i) (JK ops m):=by
   refine⟨hcall,hok,hdst,λi hi=>?_,?_⟩
   .by_cases him:i<m
    .obtain⟨o1,k1⟩:=h4 i (Qae _) him;refine⟨o1,?_⟩;rw[hlow i him];simp only[if_pos him,if_pos (Qbo him),if_pos (show i+1<=m from him)];rw[Xv i λj hj=>g1 j om,wz i λj hj=>g2 j om,g1 i him,g2 i him];exact k1
    .obtain⟨o1,k1⟩:=g5 i om hi;refine⟨o1,?_⟩;simp only[if_neg him,if_neg (show ¬ i+1<=m by omega)];have:(if i<=m then σ i else σ2 i)=σ2 i:=by
      by_cases h:i<=m
      .have:i=m:=om
       rw[if_pos h,this,g3]
      .rw[if_neg h]
     rw[this];exact k1
   .have:(if 0<=m then σ 0 else σ2 0)=st:=by rw[if_pos (Qae _),h3]
    exact hr0 _ this
  have hV:∀ j,j<m->V2 j=V j:=g1;refine wp_region_any hm (HX c ?_ ?_ ops.size _ a _ hac (je0 _) ⟨ι,Inv.first c⟩)
  .intro ι' a' w' I;have:=I.live m hmlt;rw[habs] at this;cases this
  .intro q S ι' a' w' K hq I hn hr habq;have hqm:q=m:=by
    unfold JK at habq;rw[QaE] at habq;rcases habq with h|h
    .rw[qJ] at h;exact h
    .exfalso;have hS:S m:=WG (uC hok) I.closed m (q+1) q om hr h;have:=I.live m hS;rw[habs] at this;cases this
   subst hqm;unfold jbt at hpo;rw[ψ,Qah,Qah] at hpo;obtain⟨hpo1,hpo2⟩:=hpo;have hex:(if q<q then ex q else ex2 q)=false:=by
    rw[if_neg (Qba _)];obtain⟨o1,k1⟩:=g5 q (η _) hmlt;exact k1.out habs
   refine I.panics c ho hr hn (by simpa using hex) (λp hp1 hp2=>?_) (λp hp1 u hu hma=>?_) ?_ (v:=v) (st':=st') ?_ ?_
   .have:=hpo1 p (by simp;exact hp1);rw[hp2] at this;simpa using this
   .have:=hpo2 p (by simp;exact hp1);rw[hu] at this;simp only[QaE,QaO] at this;rcases this with h|h
    .exact h
    .rw[hma] at h;cases h
   .rw[Xv q hV];exact hwant
   .rw[Xv q hV];simp only[η,if_true];exact hO
   .have e2:(if 0<=q then σ 0 else σ2 0)=st:=by rw[if_pos (Qae _),h3]
    show Post ι U N _ (if 0<=q then σ 0 else σ2 0) _ Q;rw[e2];exact Post.step (Le.refl ι) (Grew.drew ι w) (Cleanly.refl ι st) hp
end Go.Ev
end
noncomputable section
namespace Go.Ev
open Go.ChangeShapes Go.WideShapes Go.ChangeAt Go.RowKit
theorem jmk {W W':World}(h1:W'.os=W.os)(h2:W'.output=W.output)(h3:∀ k,k<W.heap.size->W'.heap[k]? = W.heap[k]?)(may:MemPlace->Prop):W.keptBut W' may:=by
 refine⟨h1,h2,λi hi=>?_⟩;rw[h3 i hi];cases h:W.heap[i]? with
 |none=>rfl
 |some o=>
  cases o<;>first|exact⟨rfl,rfl,rfl,λ_ _=>rfl⟩|exact .inr ⟨rfl,rfl⟩|rfl
theorem jgN {W W':World}(h3:∀ k,k<W.heap.size->W'.heap[k]? = W.heap[k]?){a:Addr}(ha:a.block<W.heap.size):W'.frozen? a=W.frozen? a:=by
 unfold World.frozen?;rw[h3 a.block ha]
theorem post_kept {H:Type}{enc:TypeId×Value->H}{P:Program}{f:Func}{s:ChangeSpec}{apart fresh handsOn again:Bool}{W W':World}{args:Array Value}{v:Value}{ds gs:List (DataW H)}{before pa pv:List MemPlace}
  (hW:DataW.Whole enc P f.params.toList s.vars apart W args.toList ds gs before)
  (hres:∀ (b:Nat) (sp:Nat->Bool) (hd:Bool),DataW.TrodAll enc P W' b sp hd f.resultTypes.toList (v.resultList f.resultTypes.size) (s.fn H (ds ++ gs)).results [])
  (hargs:∀ sp:Nat->Bool,(∀ p∈before,sp p.block=true)->DataW.TrodAll enc P W' 0 sp true f.params.toList args.toList (s.fn H (ds ++ gs)).args pa)
  (hvars:∀ sp:Nat->Bool,(∀ p∈before,sp p.block=true)->DataW.TrodVars enc P W' sp s.vars (s.fn H (ds ++ gs)).vars pv)
  (hps:before=pa ++ pv) (hos:W'.os=W.os) (hout:W'.output=W.output) (hk:∀ k,k<W.heap.size->W'.heap[k]? = W.heap[k]?)
  (hok:∀ (j:Nat) (t:TypeId) (r:Value),f.resultTypes[j]? = some t->(v.resultList f.resultTypes.size)[j]? = some r->Value.okWide P W' .any 0 t r) :
  s.post enc P f apart fresh handsOn again W args v W':=by
 have hlt:∀ p∈before,p.block<W.heap.size:=λp hp=>hW.lt p hp;have hold:∀ p∈before,(λb=>decide (b<W.heap.size)) p.block=true:=λp hp=>by simpa using hlt p hp
 refine⟨ds,gs,before,[],pa,pv,hW,hres _ _ _,hargs _ hold,hvars _ hold,jmk hos hout hk _,λ_=>?_⟩;obtain⟨_,_,_,_,_,hz,hn⟩:=hW;refine⟨hok,_,_,([] ++ pa) ++ pv,⟨[] ++ pa,pv,trodAll_append (hargs _ (λ_ _=>rfl)) (hres _ _ _),hvars _ (λ_ _=>rfl),rfl,?_,?_⟩,?_⟩
 .intro b off hp;have hp':MemPlace.cell b off∈before:=by rw[hps];simpa using hp
  rw[jgN hk (hlt _ hp')];exact hz b off hp'
 .intro ha;have:=hn ha;rw[hps] at this;simpa using this
 .intro p hp _;rw[hps];simpa using hp
end Go.Ev
end
noncomputable section
namespace Go.Ev
open Go.RowKit
section
def fzs (f:AV->Option (AV×Lc)):List AV->Option (List AV×Lc)
 |[]=>some ([],[])
 |x :: l=>match f x,fzs f l with
  |some (y,ks),some (l',js)=>some (y :: l',ks ++ js)
  |_,_=>none
def fz:Nat->T AO->AV->Option (AV×Lc)
 |0,_,_=>none
 |d+1,h,v=>match v with
  |.agg cs=>(fzs (fz d h) cs).map λp=>(.agg p.1,p.2)
  |.tup cs=>(fzs (fz d h) cs).map λp=>(.tup p.1,p.2)
  |.iface t x=>(fz d h x).map λp=>(.iface t p.1,p.2)
  |.slice b o len _ sz _=>match jv h b with
   |some (.row n zl z cs)=>cond (QcC (QcD o (QcE len sz)) n) ((fzs (fz d h) (jR zl z cs (QcE len sz) o)).map λp=>(.lst len p.1,b :: p.2)) none
   |_=>none
  |.nils=>some (.lst 0 [],[])
  |.xlst n cs=>some (.lst n cs,[])
  |.fn f caps=>(fzs (fz d h) caps).map λp=>(.fn f p.1,p.2)
  |.ptr _ _=>none
  |.map _=>none
  |.bad=>none
  |v=>some (v,[])
def kills (ks:Lc)(st:St):St:=
 ⟨st.nx,ks.foldr (λb h=>(j2 (jK b)).run .dead h) st.h,ks.foldr min st.dirty,st.fr⟩
theorem JQ (ks:Lc)(h:T AO)(c:Nat):jv (ks.foldr (λb h=>(j2 (jK b)).run .dead h) h) c=if c∈ks then some .dead else jv h c:=by
 induction ks with
 |nil=>simp
 |cons b ks ih=>
  rw[QbV,jW];by_cases hb:c=b
  .subst hb;simp
  .rw[if_neg hb,ih];simp[hb]
theorem jeb (ks:Lc)(n c:Nat)(h:c<ks.foldr min n):c<n/\c∉ks:=by
 induction ks with
 |nil=>exact⟨h,by simp⟩
 |cons b ks ih=>
  rw[QbV] at h;obtain⟨h1,h2⟩:=ih om;exact⟨h1,by simp only[QaT,not_or];exact⟨om,h2⟩⟩
theorem jmi (ks:Lc)(n:Nat):ks.foldr min n<=n:=by
 induction ks with
 |nil=>exact η _
 |cons b ks ih=>rw[QbV];omega
def Y8 (w:World)(B:Nat):Option (List Value):=match w.heap[B]? with|some (.cells c _ _)=>some c.toList|_=>none
theorem Z7 {w:World}{ι ι':Inj}{f:AV->Option (AV×Lc)}(hf:∀ v x v' ks,VR ι v x->f v=some (v',ks)->(∀ b∈ks,∀ B S,ι b=.at B S->ι'.g B=Y8 w B)->VR ι'.gone v' x/\(v.cell=true->v'.cell=true)) :
  ∀ (l:List AV) (vs:List Value) (l':List AV) (ks:Lc),VRs ι l vs->fzs f l=some (l',ks)->(∀ b∈ks,∀ B S,ι b=.at B S->ι'.g B=Y8 w B)->VRs ι'.gone l' vs/\(l.all AV.cell=true->l'.all AV.cell=true)/\l'.length=l.length
 |[],vs,l',ks,hv,he,_=>by
  simp only[fzs,Option.some.injEq,Prod.mk.injEq] at he;obtain⟨rfl,rfl⟩:=he;exact⟨hv,λh=>h,rfl⟩
 |x :: l,vs,l',ks,hv,he,hg=>by
  simp only[VRs] at hv;obtain⟨v,vs,rfl,h1,h2⟩:=hv;simp only[fzs] at he;split at he<;>try(cases he;done)
  rename_i y k1 l1 k2 e1 e2;simp only[Option.some.injEq,Prod.mk.injEq] at he;obtain⟨rfl,rfl⟩:=he;obtain⟨q1,q2⟩:=hf x v y k1 h1 e1 λb hb=>hg b (List.mem_append_left _ hb);obtain⟨q3,q4,q5⟩:=Z7 hf l vs l1 k2 h2 e2 λb hb=>hg b (List.mem_append_right _ hb);refine⟨by simp only[VRs];exact⟨v,vs,rfl,q1,q3⟩,λhc=>?_,by simp[q5]⟩;simp only[QaC,ψ] at hc ⊢;exact⟨q2 hc.1,q4 hc.2⟩
theorem yy {α β:Type}{x:Option α}{f:α->β}{b:β}(h:x.map f=some b):∃ a,x=some a/\f a=b:=by
 cases x with
 |none=>cases h
 |some a=>cases h;exact⟨a,rfl,rfl⟩
theorem jaV {w:World}{B:Nat}{c:Array Value}{e:TypeId}{f:Nat×Nat}(h:w.heap[B]? = some (.cells c e f)):Y8 w B=some c.toList:=by
 unfold Y8;rw[h]
theorem Wm {ι:Inj}{h:T AO}{nx:Nat}{w:World}(k:Sim ι h nx w){b n zl:Nat}{z:List AV}{cs:T AV}{o m:Nat}(hb:ι b≠.unborn)(hrow:jv h b=some (.row n zl z cs))(hle:o+m<=n) :
  ∃ B S c e f,ι b=.at B S/\w.heap[B]? = some (.cells c e f)/\o+m<=c.size/\VRs ι (jR zl z cs m o) ((c.toList.drop o).take m):=by
 obtain⟨B,S,c,elem,lo,hi,e1,hw,hcs,hnS,_,hcell⟩:=k.row hb hrow;refine⟨B,S,c,elem,_,e1,hw,om,VRs.of_get ?_ λi hi=>?_⟩
 .rw[qm];simp only[Qas,Qav,Qan,Qac,List.length_range];omega
 .rw[qm] at hi ⊢;simp only[Qac,List.length_range] at hi;obtain⟨_,v,hv,hr⟩:=hcell (o+i) om;have e2:(List.map (λj=>qD zl z cs (o+j)) (ω m)).getD i .bad=qD zl z cs (o+i):=by
   simp only[Qaf,Qbf,Qcb hi,Qau,QaM]
  have e3:((c.toList.drop o).take m).getD i undef=v:=by
   rw[W8 hi (by rw[Qan];omega)];rw[Qaf,QbM,hv];rfl
  rw[e2,e3];exact hr
theorem uK {h:T AO}{nx:Nat}{w:World}{ι ι':Inj}(k:Sim ι h nx w)(hg:∀ B vs,ι.g B=some vs->ι'.g B=some vs):∀ (d:Nat) (v:AV) (x:Value) (v':AV) (ks:Lc),VR ι v x->fz d h v=some (v',ks)->
  (∀ b∈ks,∀ B S,ι b=.at B S->ι'.g B=Y8 w B)->VR ι'.gone v' x/\(v.cell=true->v'.cell=true)
 |0,v,x,v',ks,_,he,_=>by cases he
 |d+1,v,x,v',ks,hv,he,hc=>by
  have ih:=uK k hg d;cases v<;>simp only[fz] at he;case ptr=>cases he
  case map=>cases he
  case bad=>cases he
  case bool=>cases he;exact⟨hv,λh=>h⟩
  case int=>cases he;exact⟨hv,λh=>h⟩
  case str=>cases he;exact⟨hv,λh=>h⟩
  case zstr=>cases he;exact⟨hv,λh=>h⟩
  case nilp=>cases he;exact⟨hv,λh=>h⟩
  case nilm=>cases he;exact⟨hv,λh=>h⟩
  case nilf=>cases he;exact⟨hv,λh=>h⟩
  case nilif=>cases he;exact⟨hv,λh=>h⟩
  case nils=>
   cases he;simp only[VR] at hv ⊢;subst hv;exact⟨⟨none,0,rfl,η _,rfl,λh=>absurd h (Qba _)⟩,λ_=>rfl⟩
  case lst n cs=>cases he;exact⟨VR.gmono hg (.lst n cs) x hv,λh=>h⟩
  case lptr cs o=>cases he;exact⟨VR.gmono hg (.lptr cs o) x hv,λh=>h⟩
  case xlst n cs=>
   cases he;have:=VR.gmono hg (.xlst n cs) x hv;simp only[VR] at this ⊢;obtain⟨p,rfl,h1,h2⟩:=this;exact⟨⟨p,n,rfl,η _,h1,h2⟩,λ_=>rfl⟩
  case agg cs=>
   obtain⟨⟨l,js⟩,h1,h2⟩:=yy he;cases h2;simp only[VR] at hv ⊢;obtain⟨a,rfl,hv⟩:=hv;exact⟨⟨a,rfl,(Z7 ih cs _ l js hv h1 hc).1⟩,λh=>by cases h⟩
  case tup cs=>
   obtain⟨⟨l,js⟩,h1,h2⟩:=yy he;cases h2;simp only[VR] at hv ⊢;obtain⟨a,rfl,hv⟩:=hv;exact⟨⟨a,rfl,(Z7 ih cs _ l js hv h1 hc).1⟩,λh=>by cases h⟩
  case fn f caps=>
   obtain⟨⟨l,js⟩,h1,h2⟩:=yy he;cases h2;simp only[VR] at hv ⊢;obtain⟨a,rfl,hv⟩:=hv;exact⟨⟨a,rfl,(Z7 ih caps _ l js hv h1 hc).1⟩,λ_=>rfl⟩
  case iface t y=>
   obtain⟨⟨l,js⟩,h1,h2⟩:=yy he;cases h2;simp only[VR] at hv ⊢;obtain⟨u,rfl,hv⟩:=hv;exact⟨⟨u,rfl,(ih y u l js hv h1 hc).1⟩,λ_=>rfl⟩
  case slice b o len cap sz ex=>
   split at he<;>try(cases he;done)
   rename_i n zl z cs hrow;cases hle:QcC (QcD o (QcE len sz)) n
   .rw[hle] at he;cases he
   rw[hle] at he;simp only[cond] at he;rw[qi] at hle;have hle':o+len * sz<=n:=hle;obtain⟨⟨l,js⟩,h1,h2⟩:=yy he;cases h2;simp only[VR] at hv;obtain⟨hb,hlc,a,C,rfl,hC,_,ha⟩:=hv;obtain⟨B,S,c,e,f,e1,hw,hsz,hcells⟩:=Wm k hb hrow hle';have hB:=hc b hac B S e1;rw[jaV hw] at hB;have hall:(jR zl z cs (QcE len sz) o).all AV.cell=true:=(QH (st:=⟨nx,h,0,[]⟩) k hb hrow hle).1;obtain⟨q1,q2,q3⟩:=Z7 ih (jR zl z cs (QcE len sz) o) _ l js hcells h1 λb' hb'=>hc b' (Qcc _ hb');have hll:l.length=len * sz:=by
    rw[q3,qm];simp
   refine⟨?_,λ_=>rfl⟩;simp only[VR];refine⟨some a,C,rfl,om,q2 hall,λh0=>⟨B,o,c.toList,?_,hB,by rw[hll,Qan];omega,by rw[hll];exact q1⟩⟩;rcases (ha B S e1).1 with h4|h4
   .omega
   .rw[h4]
theorem Uo {h:T AO}{f:AV->Option (AV×Lc)}{p:Nat->Prop}(hf:∀ v v' ks,f v=some (v',ks)->∀ b∈ks,p b):∀ (l l':List AV) (ks:Lc),fzs f l=some (l',ks)->∀ b∈ks,p b
 |[],l',ks,he,b,hb=>by
  simp only[fzs,Option.some.injEq,Prod.mk.injEq] at he;obtain⟨rfl,rfl⟩:=he;cases hb
 |x :: l,l',ks,he,b,hb=>by
  simp only[fzs] at he;split at he<;>try(cases he;done)
  rename_i y k1 l1 k2 e1 e2;simp only[Option.some.injEq,Prod.mk.injEq] at he;obtain⟨rfl,rfl⟩:=he;rcases QaH.1 hb with hb|hb
  .exact hf x y k1 e1 b hb
  .exact Uo (h:=h) hf l l1 k2 e2 b hb
theorem jn5 {h:T AO}:∀ (d:Nat) (v v':AV) (ks:Lc),fz d h v=some (v',ks)->∀ b∈ks,∃ n zl z cs,jv h b=some (.row n zl z cs)
 |0,v,v',ks,he,_,_=>by cases he
 |d+1,v,v',ks,he,b,hb=>by
  have ih:=jn5 (h:=h) d;cases v<;>simp only[fz] at he<;>first|(cases he;cases hb;done)|(cases he;done)|skip
  case agg cs=>obtain⟨⟨l,js⟩,h1,h2⟩:=yy he;cases h2;exact Uo (h:=h) ih _ _ _ h1 b hb
  case tup cs=>obtain⟨⟨l,js⟩,h1,h2⟩:=yy he;cases h2;exact Uo (h:=h) ih _ _ _ h1 b hb
  case fn f cs=>obtain⟨⟨l,js⟩,h1,h2⟩:=yy he;cases h2;exact Uo (h:=h) ih _ _ _ h1 b hb
  case iface t x=>obtain⟨⟨l,js⟩,h1,h2⟩:=yy he;cases h2;exact ih _ _ _ h1 b hb
  case slice b' o len cap sz ex=>
   split at he<;>try(cases he;done)
   rename_i n zl z cs hrow;cases hle:QcC (QcD o (QcE len sz)) n
   .rw[hle] at he;cases he
   rw[hle] at he;simp only[cond] at he;obtain⟨⟨l,js⟩,h1,h2⟩:=yy he;cases h2;rcases QaT.1 hb with hb|hb
   .subst hb;exact⟨n,zl,z,cs,hrow⟩
   .exact Uo (h:=h) ih _ _ _ h1 b hb
open Classical in
def Inj.ice (ι:Inj)(p:Nat->Prop)(w:World):Nat->Option (List Value):=λB=>match ι.g B with
 |some vs=>some vs
 |none=>if ∃ b S,p b/\ι b=.at B S then Y8 w B else none
theorem YG {ι:Inj}{p:Nat->Prop}{w:World}{B:Nat}{vs:List Value}(h:ι.g B=some vs):ι.ice p w B=some vs:=by
 unfold Inj.ice;rw[h]
theorem vw {ι:Inj}{p:Nat->Prop}{w:World}{b B S:Nat}(hgl:Gl ι w)(hb:p b)(e:ι b=.at B S):ι.ice p w B=Y8 w B:=by
 unfold Inj.ice;cases hg:ι.g B with
 |some vs=>exact absurd e ((hgl.2 B vs hg).2 b S)
 |none=>exact if_pos ⟨b,S,hb,e⟩
theorem Xk {ι:Inj}{p:Nat->Prop}{w:World}{B:Nat}{vs:List Value}(h:ι.ice p w B=some vs):ι.g B=some vs\/∃ b S,p b/\ι b=.at B S/\Y8 w B=some vs:=by
 unfold Inj.ice at h;cases hg:ι.g B with
 |some us=>rw[hg] at h;exact .inl h
 |none=>
  rw[hg] at h;dsimp only at h;split at h
  .rename_i hh;obtain⟨b,S,h1,h2⟩:=hh;exact .inr ⟨b,S,h1,h2,h⟩
  .cases h
theorem VJ {ι:Inj}{h:T AO}{nx:Nat}{w:World}(k:Sim ι h nx w){b B S:Nat}{vs:List Value}(e:ι b=.at B S)(hc:Y8 w B=some vs) :
  ∃ c elem lo hi,w.heap[B]? = some (.cells c elem (lo,hi))/\c.toList=vs/\True:=by
 obtain⟨o,x,_,hx,hr⟩:=k.obj b B S e;unfold Y8 at hc;rw[hx] at hc;cases o with
 |row n zl z cs=>
  simp only[OR] at hr;obtain⟨c,elem,lo,hi,rfl,h1,h2,h3,_⟩:=hr;simp only[Option.some.injEq] at hc;exact⟨c,elem,lo,hi,hx,hc,trivial⟩
 |map es=>simp only[OR] at hr;obtain⟨_,_,rfl,_⟩:=hr;cases hc
 |iter s pos=>simp only[OR] at hr;obtain⟨_,rfl,_⟩:=hr;cases hc
 |dead=>exact hr.elim
def Inj.killed (ι:Inj)(ks:Lc)(w:World):Inj:=⟨λc=>if c∈ks then .dead else ι c,ι.ice (·∈ks) w⟩
theorem Xh {ι:Inj}{ks:Lc}{w:World}{c B S:Nat}(h:(ι.killed ks w) c=.at B S):ι c=.at B S/\c∉ks:=by
 simp only[Inj.killed] at h;split at h
 .cases h
 .exact⟨h,by assumption⟩
theorem jjl {ι:Inj}{w:World}{st:St}(k:Sim ι st.h st.nx w){ks:Lc}(hks:∀ b∈ks,ι b≠.unborn->∃ B S,ι b=.at B S)(hb0:∀ b∈ks,ι b≠.unborn) :
  Le ι (ι.killed ks w)/\Sim (ι.killed ks w) (kills ks st).h (kills ks st).nx w/\Grew ι w (ι.killed ks w) w/\Cleanly ι (ι.killed ks w) st (kills ks st):=by
 have le:Le ι (ι.killed ks w):=⟨λc hc=>by
  simp only[Inj.killed];split
  .exact .inr rfl
  .exact .inl rfl,λB vs h=>YG h⟩
 have froz:∀ B vs,(ι.killed ks w).g B=some vs->Froz (ι.killed ks w) w B vs:=λB vs h=>by
  rcases Xk h with h1|⟨b,S,h1,h2,h3⟩
  .have:=k.glob.2 B vs h1;exact⟨this.1,λb S e=>this.2 b S (Xh e).1⟩
  .refine⟨?_,λc T e=>?_⟩
   .exact VJ k h2 h3
   .obtain⟨e1,e2⟩:=Xh e;have:=k.inj b c B S T h2 e1;exact e2 (this▸h1)
 have gr:Grew ι w (ι.killed ks w) w:=⟨rfl,rfl,rfl,η _,λ_ _ _=>rfl,λb B S e=>.inl ⟨b,S,(Xh e).1⟩,λB vs h=>by
  rcases Xk h with h1|⟨b,S,h1,h2,h3⟩
  .exact .inl h1
  .exact .inr ⟨froz B vs h,.inl ⟨b,S,h2⟩⟩⟩
 refine⟨le,⟨λb B S e=>?_,λb e o ho=>?_,λb c B S T e1 e2=>k.inj b c B S T (Xh e1).1 (Xh e2).1,λb hb=>k.born b λh=>hb ?_,⟨⟨k.glob.1.1,λb S e=>k.glob.1.2 b S (Xh e).1⟩,froz⟩⟩,gr,?_⟩
 .obtain⟨e1,e2⟩:=Xh e;obtain⟨o,x,h1,h2,h3⟩:=k.obj b B S e1;exact⟨o,x,by simp only[kills];rw[JQ,if_neg e2];exact h1,h2,OR.mono le _ _ h3⟩
 .simp only[kills] at ho;rw[JQ] at ho;split at ho
  .cases ho;rfl
  .rename_i hn;simp only[Inj.killed,if_neg hn] at e;exact k.gone b e o ho
 .simp only[Inj.killed];split
  .rename_i hm;exact absurd h (hb0 b hm)
  .exact h
 .refine⟨η _,jmi ks _,λb _ hd=>?_,λb hb=>?_,λb _ hu=>?_,λb hb=>?_,λb h1 h2=>absurd h2 (Nat.not_lt.2 h1)⟩
  .simp only[kills];rw[JQ,if_neg (jeb ks _ b hd).2]
  .simp only[kills];rw[JQ,if_neg];intro hm;have:=k.born b (hb0 b hm);have hb':st.nx<=b:=hb;omega
  .simp only[Inj.killed];rw[if_neg λhm=>hb0 b hm hu];exact hu
  .simp only[Inj.killed];split
   .simp
   .exact hb
theorem je8 {ι:Inj}{h:T AO}{nx:Nat}{w:World}(k:Sim ι h nx w):∀ (d:Nat) (v:AV) (x:Value) (v':AV) (ks:Lc),VR ι v x->fz d h v=some (v',ks)->∀ b∈ks,ι b≠.unborn
 |0,v,x,v',ks,_,he,_,_=>by cases he
 |d+1,v,x,v',ks,hv,he,b,hb=>by
  have ih:=je8 k d;have ihs:∀ (l:List AV) (vs:List Value) (l':List AV) (ks:Lc),VRs ι l vs->fzs (fz d h) l=some (l',ks)->∀ b∈ks,ι b≠.unborn:=by
   intro l;induction l with
   |nil=>
    intro vs l' ks _ he b hb;simp only[fzs,Option.some.injEq,Prod.mk.injEq] at he;obtain⟨rfl,rfl⟩:=he;cases hb
   |cons y l ihl=>
    intro vs l' ks hv he b hb;simp only[VRs] at hv;obtain⟨v,vs,rfl,h1,h2⟩:=hv;simp only[fzs] at he;split at he<;>try(cases he;done)
    rename_i y' k1 l1 k2 e1 e2;simp only[Option.some.injEq,Prod.mk.injEq] at he;obtain⟨rfl,rfl⟩:=he;rcases QaH.1 hb with hb|hb
    .exact ih _ _ _ _ h1 e1 b hb
    .exact ihl vs l1 k2 h2 e2 b hb
  cases v<;>simp only[fz] at he<;>first|(cases he;cases hb;done)|(cases he;done)|skip
  case agg cs=>obtain⟨⟨l,js⟩,h1,h2⟩:=yy he;cases h2;simp only[VR] at hv;obtain⟨a,rfl,hv⟩:=hv;exact ihs _ _ _ _ hv h1 b hb
  case tup cs=>obtain⟨⟨l,js⟩,h1,h2⟩:=yy he;cases h2;simp only[VR] at hv;obtain⟨a,rfl,hv⟩:=hv;exact ihs _ _ _ _ hv h1 b hb
  case fn f cs=>obtain⟨⟨l,js⟩,h1,h2⟩:=yy he;cases h2;simp only[VR] at hv;obtain⟨a,rfl,hv⟩:=hv;exact ihs _ _ _ _ hv h1 b hb
  case iface t y=>obtain⟨⟨l,js⟩,h1,h2⟩:=yy he;cases h2;simp only[VR] at hv;obtain⟨u,rfl,hv⟩:=hv;exact ih _ _ _ _ hv h1 b hb
  case slice b' o len cap sz ex=>
   split at he<;>try(cases he;done)
   rename_i n zl z cs hrow;cases hle:QcC (QcD o (QcE len sz)) n
   .rw[hle] at he;cases he
   rw[hle] at he;simp only[cond] at he;rw[qi] at hle;have hle':o+len * sz<=n:=hle;obtain⟨⟨l,js⟩,h1,h2⟩:=yy he;cases h2;simp only[VR] at hv;obtain⟨hb',_⟩:=hv;rcases QaT.1 hb with hb|hb
   .subst hb;exact hb'
   .obtain⟨B,S,c,e,f,e1,hw,hsz,hcells⟩:=Wm k hb' hrow hle';exact ihs (jR zl z cs (QcE len sz) o) _ _ _ hcells h1 b hb
end
section
def jbq (run:List AV->St->ER)(args:List AV)(st:St):ER:=
 match fzs (fz 9 st.h) args with
 |some (aZ,ks)=>(match run aZ st0 with
  |.ok v s=>(match fz 9 s.h v with|some (v',_)=>.ok v' (kills ks st)|none=>.no)
  |.pn v s=>(match fz 9 s.h v with|some (v',_)=>.pn v' (kills ks st)|none=>.no)
  |.no=>.no)
 |none=>.no
def jgJ (run:List AV->St->ER)(args:List AV)(st:St):ER:=
 match run args st with
 |.ok v s=>(match fz 9 s.h v with|some (v',ks)=>.ok v' (kills ks s)|none=>.no)
 |r=>r
def XU (P:Program)(f:FuncId)(run:List AV->St->ER):Prop:=
 ∀ (args:List AV) (st:St) (ι:Inj) (w:World) (vs:Array Value),Sim ι st.h st.nx w->VRs ι args vs.toList->
  match run args st with
  |.no=>True
  |.ok v st'=>Enters P f/\Calls P f vs w λe w'=>∃ x,e=.returned x/\Jv ι w st st' v x w'
  |.pn v st'=>Enters P f/\Calls P f vs w λe w'=>∃ x,e=.panicked [{ v:=x,recovered:=false }]/\Jv ι w st st' v x w'
theorem KG {ι:Inj}{w:World}{st:St}(k:Sim ι st.h st.nx w){d:Nat}{v v':AV}{x:Value}{ks:Lc}(hv:VR ι v x)(he:fz d st.h v=some (v',ks)) :
  ∃ ι1,Le ι ι1/\Sim ι1 (kills ks st).h (kills ks st).nx w/\Grew ι w ι1 w/\Cleanly ι ι1 st (kills ks st)/\VR ι1.gone v' x:=by
 have hb0:=je8 k d v x v' ks hv he;have hks:∀ b∈ks,ι b≠.unborn->∃ B S,ι b=.at B S:=λb hb h0=>by
  obtain⟨n,zl,z,cs,hrow⟩:=jn5 d v v' ks he b hb;obtain⟨B,S,_,_,_,_,e,_⟩:=k.row h0 hrow;exact⟨B,S,e⟩
 obtain⟨h1,h2,h3,h4⟩:=jjl k hks hb0;exact⟨_,h1,h2,h3,h4,(uK k (λB vs h=>YG h) d v x v' ks hv he λb hb B S e=>vw (p:=(·∈ks)) k.glob hb e).1⟩
theorem jsr {P:Program}{f:FuncId}{run:List AV->St->ER}(h:XU P f run):XU P f (jgJ run):=by
 intro args st ι w vs k hv;have h1:=h args st ι w vs k hv;unfold jgJ;cases hr:run args st with
 |no=>trivial
 |pn v s=>rw[hr] at h1;exact h1
 |ok v s=>
  rw[hr] at h1;dsimp only at h1 ⊢;cases he:fz 9 s.h v with
  |none=>trivial
  |some p=>
   obtain⟨v',ks⟩:=p;refine⟨h1.1,Calls.mono h1.2 λe w' ⟨x,e1,ι',q1,q2,q3,q4,q5⟩=>⟨x,e1,?_⟩⟩;obtain⟨ι1,r1,r2,r3,r4,r5⟩:=KG q3 q2 he;exact⟨ι1,q1.trans r1,VR.mono (Le.gone ι1) _ _ r5,r2,q4.trans r3,q5.trans r4⟩
theorem jaf {ι1:Inj}{w w':World}{st1:St}(k:Sim ι1 st1.h st1.nx w){s:St}{v v':AV}{x:Value}{js:Lc}(h:Jv ι1.gone w st0 s v x w')(he:fz 9 s.h v=some (v',js)):Jv ι1 w st1 st1 v' x w':=by
 obtain⟨ι0',le0,hv',sim',gr',cl'⟩:=h
 let ι2:Inj:=⟨ι1.f,ι0'.ice (λ_=>True) w'⟩
 have noat:∀ B vs,ι2.g B=some vs->ι1.g B=some vs\/w.heap.size<=B:=λB vs h=>by
  rcases Xk h with h|⟨b,S,_,h,_⟩
  .rcases gr'.gl B vs h with h|⟨_,⟨c,S,h⟩|h⟩
   .exact .inl h
   .cases h
   .exact .inr h
  .rcases gr'.new b B S h with ⟨c,S',h⟩|h
   .cases h
   .exact .inr h
 have froz:∀ B vs,ι2.g B=some vs->Froz ι2 w' B vs:=λB vs h=>by
  refine⟨?_,λb S e=>?_⟩
  .rcases Xk h with h|⟨b,S,_,h,h2⟩
   .exact(sim'.glob.2 B vs h).1
   .exact VJ sim' h h2
  .have e:ι1 b=.at B S:=e;rcases noat B vs h with h1|h1
   .exact(k.glob.2 B vs h1).2 b S e
   .have:=k.lt e;omega
 have keep:∀ j,j<w.heap.size->w'.heap[j]? = w.heap[j]?:=λj hj=>gr'.keep j hj λb S e=>by cases e
 have le:Le ι1 ι2:=⟨λ_ _=>.inl rfl,λB vs h=>YG (le0.2 B vs h)⟩;have gr:Grew ι1 w ι2 w':=⟨gr'.os,gr'.tape,gr'.output,gr'.size,λj hj _=>keep j hj,λb B S e=>.inl ⟨b,S,e⟩,λB vs h=>(noat B vs h).elim .inl λh1=>.inr ⟨froz B vs h,.inr h1⟩⟩;have hv2:=(uK (ι':=ι2) sim' (λB vs h=>YG h) 9 v x v' js hv' he λb hb B S e=>vw sim'.glob trivial e).1;refine⟨ι2,le,VR.mono (Le.gone ι2) _ _ hv2,⟨λb B S e=>?_,k.gone,k.inj,k.born,⟨⟨sim'.glob.1.1,k.glob.1.2⟩,froz⟩⟩,gr,?_⟩
 .have e:ι1 b=.at B S:=e;obtain⟨o,y,h1,h2,h3⟩:=k.obj b B S e;exact⟨o,y,h1,(keep B (k.lt e)).trans h2,OR.mono le _ _ h3⟩
 .have:=Cleanly.refl ι1 st1;exact⟨this.nx,this.dirty,this.keep,this.above,this.u,this.le,this.n⟩
theorem joO {P:Program}{f:FuncId}{run:List AV->St->ER}(h:XU P f run):XU P f (jbq run):=by
 intro args st ι w vs k hv;unfold jbq;cases he:fzs (fz 9 st.h) args with
 |none=>trivial
 |some p=>
  obtain⟨aZ,ks⟩:=p;dsimp only;have hvt:VR ι (.tup args) (.tuple vs):=by simp only[VR];exact⟨vs,rfl,hv⟩
  have het:fz 10 st.h (.tup args)=some (.tup aZ,ks):=by
   show((fzs (fz 9 st.h) args).map λp=>(AV.tup p.1,p.2))=_;rw[he];rfl
  obtain⟨ι1,r1,r2,r3,r4,r5⟩:=KG k hvt het;have hva:VRs ι1.gone aZ vs.toList:=by
   simp only[VR] at r5;obtain⟨a,e,r5⟩:=r5;cases e;exact r5
  have sim0:Sim ι1.gone st0.h st0.nx w:=⟨λb B S e=>(by cases e),λb e=>(by cases e),λb b' B S S' e=>(by cases e),λb e=>absurd rfl e,
   ⟨⟨r2.glob.1.1,λb S e=>(by cases e)⟩,λB vs h=>⟨(r2.glob.2 B vs h).1,λb S e=>(by cases e)⟩⟩⟩
  have h1:=h aZ st0 ι1.gone w vs sim0 hva;cases hr:run aZ st0 with
  |no=>trivial
  |ok v s=>
   rw[hr] at h1;dsimp only at h1 ⊢;cases hz:fz 9 s.h v with
   |none=>trivial
   |some p=>
    refine⟨h1.1,Calls.mono h1.2 λe w' ⟨x,e1,hd⟩=>⟨x,e1,?_⟩⟩;obtain⟨ι2,q1,q2,q3,q4,q5⟩:=jaf r2 hd hz;exact⟨ι2,r1.trans q1,q2,q3,r3.trans q4,r4.trans q5⟩
  |pn v s=>
   rw[hr] at h1;dsimp only at h1 ⊢;cases hz:fz 9 s.h v with
   |none=>trivial
   |some p=>
    refine⟨h1.1,Calls.mono h1.2 λe w' ⟨x,e1,hd⟩=>⟨x,e1,?_⟩⟩;obtain⟨ι2,q1,q2,q3,q4,q5⟩:=jaf r2 hd hz;exact⟨ι2,r1.trans q1,q2,q3,r3.trans q4,r4.trans q5⟩
end
section
def Zt (cs:List AV):St:=⟨1,(j2 (jK 0)).run (.row (jP cs) (jP cs) cs .e) .e,0,[]⟩
def ZV (n:Nat)(v:AV)(s:St):Option (AV×List AV):=
 match fz 9 s.h v,jv s.h 0 with
 |some (v',ks),some (.row m zl z cs)=>(match fzs (fz 9 s.h) (jR zl z cs m 0) with
  |some (cs',js)=>cond (QcA m n) (cond (ks.all λb=>QcC 1 b) (cond (js.all λb=>QcC 1 b) (some (v',cs')) none) none) none
  |none=>none)
 |_,_=>none
def gU (run:List AV->St->ER)(args:List AV)(st:St):ER:=
 match args with
 |.ptr p 0 :: rest=>(match jv st.h p with
  |some (.row n zl z cs)=>(match fzs (fz 9 st.h) (jR zl z cs n 0),fzs (fz 9 st.h) rest with
   |some (cells,[]),some (aZ,[])=>(match run (.ptr 0 0 :: aZ) (Zt cells) with
    |.ok v s=>(match ZV n v s with|some (v',cs')=>.ok v' ⟨st.nx,(j2 (jK p)).run (.row n zl z (qk cs' cs 0)) st.h,min st.dirty p,st.fr⟩|none=>.no)
    |.pn v s=>(match ZV n v s with|some (v',cs')=>.pn v' ⟨st.nx,(j2 (jK p)).run (.row n zl z (qk cs' cs 0)) st.h,min st.dirty p,st.fr⟩|none=>.no)
    |.no=>.no)
   |_,_=>.no)
  |_=>.no)
 |_=>.no
theorem jat {ι:Inj}{w w':World}{st:St}(k:Sim ι st.h st.nx w){p n zl:Nat}{z:List AV}{cs:T AV}(hp:ι p≠.unborn)(hrow:jv st.h p=some (.row n zl z cs)){cells:List AV}{s:St}{v v':AV}{x:Value}{cs':List AV}
  (h:Jv ⟨λc=>if c=0 then ι p else .unborn,ι.g⟩ w (Zt cells) s v x w') (he:ZV n v s=some (v',cs')) :
  Jv ι w st ⟨st.nx,(j2 (jK p)).run (.row n zl z (qk cs' cs 0)) st.h,min st.dirty p,st.fr⟩ v' x w':=by
 obtain⟨ι0',le0,hv',sim',gr',cl'⟩:=h;obtain⟨B,S,c0,elem0,lo0,hi0,eB,hw0,hc0,hnS0,hfr0,hcell0⟩:=k.row hp hrow;unfold ZV at he;split at he<;>try(cases he;done)
 rename_i w1 ks m zl' z' cs1 hz hrow';split at he<;>try(cases he;done)
 rename_i l js hzs;cases hm:QcA m n
 .rw[hm] at he;cases he
 rw[hm] at he;cases hk1:ks.all λb=>QcC 1 b
 .rw[hk1] at he;cases he
 rw[hk1] at he;cases hk2:js.all λb=>QcC 1 b
 .rw[hk2] at he;cases he
 rw[hk2] at he;simp only[cond,Option.some.injEq,Prod.mk.injEq] at he;obtain⟨rfl,rfl⟩:=he;rw[qJ] at hm;subst hm;have h00:(⟨λc=>if c=0 then ι p else .unborn,ι.g⟩:Inj) 0=.at B S:=eB;have hb0:ι0' 0≠.unborn:=le0.born (by rw[h00];simp);have e0:ι0' 0=.at B S:=by
  rcases le0.1 0 (by rw[h00];simp) with h|h
  .exact h.trans h00
  .have:=sim'.gone 0 h _ hrow';cases this
 have only:∀ c B' S',(⟨λc=>if c=0 then ι p else .unborn,ι.g⟩:Inj) c=.at B' S'->B'=B:=λc B' S' e=>by
  dsimp only at e;split at e
  .rw[eB] at e;cases e;rfl
  .cases e
 let ι2:Inj:=⟨ι.f,ι0'.ice (λb=>1<=b) w'⟩
 have noat:∀ B' vs,ι2.g B'=some vs->ι.g B'=some vs\/w.heap.size<=B':=λB' vs h=>by
  rcases Xk h with h|⟨b,S',hb,h,_⟩
  .rcases gr'.gl B' vs h with h|⟨hF,⟨c,S',h⟩|h⟩
   .exact .inl h
   .have:=only c B' S' h;subst this;exact absurd e0 (hF.2 0 S)
   .exact .inr h
  .rcases gr'.new b B' S' h with ⟨c,S2,h2⟩|h2
   .have:=only c B' S2 h2;subst this;have:=sim'.inj b 0 B' S' S h e0;omega
   .exact .inr h2
 have froz:∀ B' vs,ι2.g B'=some vs->Froz ι2 w' B' vs:=λB' vs h=>by
  refine⟨?_,λb S' e=>?_⟩
  .rcases Xk h with h|⟨b,S',_,h,h2⟩
   .exact(sim'.glob.2 B' vs h).1
   .exact VJ sim' h h2
  .have e:ι b=.at B' S':=e;rcases noat B' vs h with h1|h1
   .exact(k.glob.2 B' vs h1).2 b S' e
   .have:=k.lt e;omega
 have keep:∀ j,j<w.heap.size->j≠B->w'.heap[j]? = w.heap[j]?:=λj hj hn=>gr'.keep j hj λb S' e=>hn (only b j S' e);have le:Le ι ι2:=⟨λ_ _=>.inl rfl,λB' vs h=>YG (le0.2 B' vs h)⟩;have gr:Grew ι w ι2 w':=⟨gr'.os,gr'.tape,gr'.output,gr'.size,λj hj hn=>keep j hj λe=>hn p S (by rw[e];exact eB),λb B' S' e=>.inl ⟨b,S',e⟩,λB' vs h=>(noat B' vs h).elim .inl λh1=>.inr ⟨froz B' vs h,.inr h1⟩⟩;have hv2:=(uK (ι':=ι2) sim' (λB' vs h=>YG h) 9 v x w1 ks hv' hz λb hb B' S' e=>vw (p:=λb=>1<=b) sim'.glob (by have:=Qah.1 hk1 b hb;rwa [qi] at this) e).1;obtain⟨B2,S2,c,e,f,e2,hw',hsz,hcells⟩:=Wm (o:=0) (m:=m) sim' hb0 hrow' om;rw[e0] at e2;cases e2;obtain⟨B3,S3,c3,elem,lo,hi,e3,hw3,hc3,hnS,hfr,_⟩:=sim'.row hb0 hrow';rw[e0] at e3;cases e3;rw[hw'] at hw3;cases hw3;have hall:(jR zl' z' cs1 m 0).all AV.cell=true:=(QH (st:=s) (o:=0) sim' hb0 hrow' om).1;obtain⟨q1,q2,q3⟩:=Z7 (ι':=ι2) (w:=w') (λv x v' ks hv he hc=>uK sim' (λB' vs h=>YG h) 9 v x v' ks hv he hc) (jR zl' z' cs1 m 0) _ l js hcells hzs λb hb B' S' e=>vw (p:=λb=>1<=b) sim'.glob (by have:=Qah.1 hk2 b hb;rwa [qi] at this) e;have hlen:l.length=m:=by rw[q3,qm];simp
 have hor:OR ι2 S (.row m zl z (qk l cs 0)) (.cells c e (lo,hi)):=by
  simp only[OR];refine⟨c,e,lo,hi,rfl,hc3,hnS,hfr,λi hi'=>?_⟩;rw[yU,if_pos ⟨Qae _,om⟩,QaF];refine⟨uf (q2 hall) om,c.toList.getD i undef,?_,?_⟩
  .have:i<c.size:=om
   simp[Qaf,this]
  .have:=q1.get i om;rw[W8 om (by rw[Qan];omega),Qaj] at this;exact VR.mono (Le.gone ι2) _ _ this
 refine⟨ι2,le,VR.mono (Le.gone ι2) _ _ hv2,⟨λb B' S' e'=>?_,λb e' o ho=>?_,k.inj,k.born,⟨⟨sim'.glob.1.1,k.glob.1.2⟩,froz⟩⟩,gr,?_⟩
 .have e':ι b=.at B' S':=e';by_cases hb:b=p
  .subst hb;rw[eB] at e';cases e';exact⟨_,_,by rw[jW,if_pos rfl],hw',hor⟩
  .obtain⟨o,y,h1,h2,h3⟩:=k.obj b B' S' e';have hB:B'≠B:=λh=>hb (k.inj b p B S' S (h▸e') eB);exact⟨o,y,by rw[jW,if_neg hb];exact h1,(keep B' (k.lt e') hB).trans h2,OR.mono le _ _ h3⟩
 .have e':ι b=.dead:=e';by_cases hb:b=p
  .subst hb;rw[eB] at e';cases e'
  .rw[jW,if_neg hb] at ho;exact k.gone b e' o ho
 .have:=Cleanly.put ι st p (.row m zl z (qk l cs 0)) (k.born p hp);exact⟨this.nx,this.dirty,this.keep,this.above,this.u,this.le,this.n⟩
theorem ja3 {ι:Inj}{w:World}{st:St}(k:Sim ι st.h st.nx w){aZ l:List AV}{vs:List Value}(hv:VRs ι aZ vs)(he:fzs (fz 9 st.h) aZ=some (l,[])):VRs ι.gone l vs:=
 (Z7 (ι':=ι) (w:=w) (λv x v' ks hv he hc=>uK k (λB' vs h=>h) 9 v x v' ks hv he hc) aZ vs l [] hv he (λb hb=>by cases hb)).1
theorem jo1 {P:Program}{f:FuncId}{run:List AV->St->ER}(h:XU P f run):XU P f (gU run):=by
 intro args st ι w vs k hv;unfold gU;cases args with
 |nil=>trivial
 |cons a rest=>
 cases a<;>try trivial
 rename_i p o;cases o with
 |succ o=>trivial
 |zero=>
 show match (match jv st.h p with
  |some (.row n zl z cs)=>(match fzs (fz 9 st.h) (jR zl z cs n 0),fzs (fz 9 st.h) rest with
   |some (cells,[]),some (aZ,[])=>(match run (.ptr 0 0 :: aZ) (Zt cells) with
    |.ok v s=>(match ZV n v s with|some (v',cs')=>ER.ok v' ⟨st.nx,(j2 (jK p)).run (.row n zl z (qk cs' cs 0)) st.h,min st.dirty p,st.fr⟩|none=>.no)
    |.pn v s=>(match ZV n v s with|some (v',cs')=>.pn v' ⟨st.nx,(j2 (jK p)).run (.row n zl z (qk cs' cs 0)) st.h,min st.dirty p,st.fr⟩|none=>.no)
    |.no=>.no)
   |_,_=>.no)
  |_=>.no) with
  |.no=>True
  |.ok v st'=>Enters P f/\Calls P f vs w λe w'=>∃ x,e=.returned x/\Jv ι w st st' v x w'
  |.pn v st'=>Enters P f/\Calls P f vs w λe w'=>∃ x,e=.panicked [{ v:=x,recovered:=false }]/\Jv ι w st st' v x w'
 cases hrow:jv st.h p with
 |none=>trivial
 |some ob=>
 cases ob<;>try trivial
 rename_i n zl z cs;dsimp only;cases hcells:fzs (fz 9 st.h) (jR zl z cs n 0) with
 |none=>trivial
 |some q=>
 cases has:fzs (fz 9 st.h) rest with
 |none=>obtain⟨cells,ks⟩:=q;cases ks<;>trivial
 |some q2=>
 obtain⟨cells,ks⟩:=q;obtain⟨aZ,ks2⟩:=q2;cases ks with
 |cons b ks=>trivial
 |nil=>
 cases ks2 with
 |cons b ks=>trivial
 |nil=>
 dsimp only;simp only[VRs] at hv;obtain⟨pv,vs',hvs,hpv,hrest⟩:=hv;simp only[VR] at hpv;obtain⟨hp,ad,rfl,hat⟩:=hpv;obtain⟨B,S,c,elem,lo,hi,eB,hw,hc,hnS,hfr,hcell⟩:=k.row hp hrow;obtain⟨B2,S2,c2,e2,f2,eB2,hw2,hsz,hvc⟩:=Wm (o:=0) (m:=n) k hp hrow om;rw[eB] at eB2;cases eB2;rw[hw] at hw2;cases hw2;have hgc:=ja3 k hvc hcells;have hga:=ja3 k hrest has;have hall:(jR zl z cs n 0).all AV.cell=true:=(QH (st:=st) (o:=0) k hp hrow om).1;obtain⟨_,q2,q3⟩:=Z7 (ι':=ι) (w:=w) (λv x v' ks hv he hc=>uK k (λB' vs h=>h) 9 v x v' ks hv he hc) _ _ cells [] hvc hcells (λb hb=>by cases hb);have hlen:cells.length=n:=by rw[q3,qm];simp
 let ι0:Inj:=⟨λc=>if c=0 then ι p else .unborn,ι.g⟩
 have only:∀ c B' S',ι0 c=.at B' S'->c=0/\B'=B/\S'=S:=λc B' S' e=>by
  dsimp only[ι0] at e;split at e
  .rw[eB] at e;cases e;exact⟨by assumption,rfl,rfl⟩
  .cases e
 have leg:Le ι.gone ι0:=⟨λb hb=>absurd rfl hb,λ_ _ h=>h⟩;have sim0:Sim ι0 (Zt cells).h (Zt cells).nx w:=by
  refine⟨λb B' S' e=>?_,λb e=>?_,λb b' B' S1 S2 e1 e2=>(only b _ _ e1).1.trans (only b' _ _ e2).1.symm,λb hb=>?_,⟨⟨k.glob.1.1,λb S' e=>?_⟩,λB' vs h=>⟨(k.glob.2 B' vs h).1,λb S' e=>?_⟩⟩⟩
  .obtain⟨rfl,rfl,rfl⟩:=only b B' S' e;refine⟨_,_,by simp only[Zt];rw[jW,if_pos rfl],hw,?_⟩;simp only[OR,jO];refine⟨c,elem,lo,hi,rfl,hc,om,hfr,λi hi'=>?_⟩;have e1:qD cells.length cells .e i=cells.getD i .bad:=by rw[yP,XM,Qby hi'];rfl
   rw[e1];refine⟨uf (q2 hall) hi',c.toList.getD i undef,?_,?_⟩
   .have:i<c.size:=om
    simp[Qaf,this]
   .have:=hgc.get i hi';rw[W8 om (by rw[Qan];omega),Qaj] at this;exact VR.mono leg _ _ this
  .dsimp only[ι0] at e;split at e
   .rw[eB] at e;cases e
   .cases e
  .dsimp only[ι0] at hb;split at hb
   .rename_i h0;rw[h0];exact Nat.zero_lt_one
   .exact absurd rfl hb
  .obtain⟨_,h,h2⟩:=only b 1 S' e;subst h;exact k.glob.1.2 p S eB
  .obtain⟨_,h,h2⟩:=only b B' S' e;subst h;exact(k.glob.2 B' vs h).2 p S eB
 have hvs0:VRs ι0 (.ptr 0 0 :: aZ) vs.toList:=by
  rw[hvs];simp only[VRs];refine⟨_,vs',rfl,?_,VRs.mono leg _ _ hga⟩;simp only[VR];refine⟨by dsimp only[ι0];rw[if_pos rfl,eB];simp,ad,rfl,λB' S' e=>?_⟩;obtain⟨_,rfl,rfl⟩:=only 0 B' S' e;exact hat B' S' eB
 have h1:=h (.ptr 0 0 :: aZ) (Zt cells) ι0 w vs sim0 hvs0;cases hr:run (.ptr 0 0 :: aZ) (Zt cells) with
 |no=>trivial
 |ok v s=>
  rw[hr] at h1;dsimp only at h1 ⊢;cases hz:ZV n v s with
  |none=>trivial
  |some q=>
   obtain⟨v',cs'⟩:=q;exact⟨h1.1,Calls.mono h1.2 λe w' ⟨x,e1,hd⟩=>⟨x,e1,jat k hp hrow hd hz⟩⟩
 |pn v s=>
  rw[hr] at h1;dsimp only at h1 ⊢;cases hz:ZV n v s with
  |none=>trivial
  |some q=>
   obtain⟨v',cs'⟩:=q;exact⟨h1.1,Calls.mono h1.2 λe w' ⟨x,e1,hd⟩=>⟨x,e1,jat k hp hrow hd hz⟩⟩
def jby (run:List AV->St->ER)(args:List AV)(st:St):ER:=
 match args with
 |p :: rest=>(match fzs (fz 9 st.h) rest with|some (aZ,ks)=>gU run (p :: aZ) (kills ks st)|none=>.no)
 |[]=>.no
theorem jma {P:Program}{f:FuncId}{run:List AV->St->ER}(h:XU P f run):XU P f (jby run):=by
 intro args st ι w vs k hv;unfold jby;cases args with
 |nil=>trivial
 |cons a rest=>
 dsimp only;cases he:fzs (fz 9 st.h) rest with
 |none=>trivial
 |some p=>
 obtain⟨aZ,ks⟩:=p;dsimp only;simp only[VRs] at hv;obtain⟨pv,vs',hvs,hpv,hrest⟩:=hv;have hvt:VR ι (.tup rest) (.tuple vs'.toArray):=by simp only[VR];exact⟨vs'.toArray,rfl,hrest⟩
 have het:fz 10 st.h (.tup rest)=some (.tup aZ,ks):=by
  show((fzs (fz 9 st.h) rest).map λp=>(AV.tup p.1,p.2))=_;rw[he];rfl
 obtain⟨ι1,r1,r2,r3,r4,r5⟩:=KG k hvt het;have hva:VRs ι1 aZ vs':=by
  simp only[VR] at r5;obtain⟨a,e,r5⟩:=r5;cases e;exact VRs.mono (Le.gone ι1) _ _ r5
 have h1:=jo1 h (a :: aZ) (kills ks st) ι1 w vs r2 (by
  rw[hvs];simp only[VRs];exact⟨pv,vs',rfl,VR.mono r1 _ _ hpv,hva⟩)
 have fin:∀ {st':St} {v:AV} {x:Value} {w':World},Jv ι1 w (kills ks st) st' v x w'->Jv ι w st st' v x w':=λ⟨ι2,q1,q2,q3,q4,q5⟩=>⟨ι2,r1.trans q1,q2,q3,r3.trans q4,r4.trans q5⟩;cases hr:gU run (a :: aZ) (kills ks st) with
 |no=>trivial
 |ok v s=>
  rw[hr] at h1;exact⟨h1.1,Calls.mono h1.2 λe w' ⟨x,e1,hd⟩=>⟨x,e1,fin hd⟩⟩
 |pn v s=>
  rw[hr] at h1;exact⟨h1.1,Calls.mono h1.2 λe w' ⟨x,e1,hd⟩=>⟨x,e1,fin hd⟩⟩
end
section
def jbJ:AV->Bool
 |.bool _=>true | .int _ _=>true | .str _=>true | .zstr _=>true | .nilp=>true | .nilm=>true | .nilf=>true | .nilif=>true | .nils=>true
 |.lst 0 []=>true
 |_=>false
def Gq:AV->Bool
 |.agg cs=>cs.all jbJ
 |v=>jbJ v
def wS:AV->Bool
 |.tup vs=>vs.all Gq
 |.iface _ v=>Gq v
 |v=>Gq v
theorem jdm {ι ι':Inj}:∀ {v:AV} {x:Value},jbJ v=true->VR ι v x->VR ι' v x:=by
 intro v x h k;cases v<;>first|(cases h;done)|(simp only[VR] at k ⊢;exact k)|skip
 case lst n cs=>
  cases n with
  |zero=>
   cases cs with
   |nil=>
    simp only[VR] at k ⊢;obtain⟨p,C,rfl,hC,hc,_⟩:=k;exact⟨p,C,rfl,hC,hc,λh=>absurd h (Qba 0)⟩
   |cons c cs=>cases h
  |succ n=>cases h
theorem jaI {ι ι':Inj}:∀ {l:List AV} {xs:List Value},l.all jbJ=true->VRs ι l xs->VRs ι' l xs
 |[],_,_,k=>k
 |v :: l,xs,h,k=>by
  simp only[QaC,ψ] at h;simp only[VRs] at k ⊢;obtain⟨y,ys,rfl,h1,h2⟩:=k;exact⟨y,ys,rfl,jdm h.1 h1,jaI h.2 h2⟩
theorem KH {ι ι':Inj}{v:AV}{x:Value}(h:Gq v=true)(k:VR ι v x):VR ι' v x:=by
 cases v<;>first|exact jdm (by exact h) k|skip
 case agg cs=>
  simp only[VR] at k ⊢;obtain⟨a,rfl,hc⟩:=k;exact⟨a,rfl,jaI h hc⟩
theorem jaJ {ι ι':Inj}:∀ {l:List AV} {xs:List Value},l.all Gq=true->VRs ι l xs->VRs ι' l xs
 |[],_,_,k=>k
 |v :: l,xs,h,k=>by
  simp only[QaC,ψ] at h;simp only[VRs] at k ⊢;obtain⟨y,ys,rfl,h1,h2⟩:=k;exact⟨y,ys,rfl,KH h.1 h1,jaJ h.2 h2⟩
theorem jmr {ι ι':Inj}{v:AV}{x:Value}(h:wS v=true)(k:VR ι v x):VR ι' v x:=by
 cases v<;>first|exact KH (by exact h) k|skip
 case tup vs=>
  simp only[VR] at k ⊢;obtain⟨a,rfl,hc⟩:=k;exact⟨a,rfl,jaJ h hc⟩
 case iface t y=>
  simp only[VR] at k ⊢;obtain⟨z,rfl,hc⟩:=k;exact⟨z,rfl,KH h hc⟩
def XN (f:AV->Option (AV×Lc)):List AV->List AV
 |[]=>[]
 |x :: l=>match f x with
  |some (y,_)=>cond y.cell (y :: XN f l) []
  |none=>[]
def ZR (h:T AO)(v:AV):Option AV:=
 match v with
 |.ptr b o=>match jv h b with
  |some (.row n zl z cs)=>some (.lptr (XN (fz 9 h) (jR zl z cs n 0)) o)
  |_=>none
 |v=>(fz 9 h v).map (·.1)
def Qa (h:T AO):List AV->Option (List AV)
 |[]=>some []
 |x :: l=>match ZR h x,Qa h l with
  |some y,some l'=>some (y :: l')
  |_,_=>none
def lend (h:T AO)(v:AV):Option AV:=
 match v with
 |.fn f caps=>(Qa h caps).map (AV.fn f)
 |v=>ZR h v
def J2 (h:T AO):List AV->Option (List AV)
 |[]=>some []
 |x :: l=>match lend h x,J2 h l with
  |some y,some l'=>some (y :: l')
  |_,_=>none
def jbC (run:List AV->St->ER)(args:List AV)(st:St):ER:=
 match J2 st.h args with
 |some aZ=>(match run aZ st0 with
  |.ok v s=>(match fz 9 s.h v with|some (v',_)=>cond (wS v') (.ok v' st) .no|none=>.no)
  |.pn v s=>(match fz 9 s.h v with|some (v',_)=>cond (wS v') (.pn v' st) .no|none=>.no)
  |.no=>.no)
 |none=>.no
def Inj.lent (ι:Inj)(w:World):Inj:=⟨λ_=>.unborn,ι.ice (λ_=>True) w⟩
section
variable {h:T AO} {nx:Nat} {w:World} {ι:Inj}
theorem HD (k:Sim ι h nx w){d:Nat}{v v':AV}{x:Value}{ks:Lc}(hv:VR ι v x)(he:fz d h v=some (v',ks)):VR (ι.lent w) v' x/\(v.cell=true->v'.cell=true):=
 uK (ι':=ι.lent w) k (λB vs hB=>YG hB) d v x v' ks hv he λb hb B S e=>vw (p:=λ_=>True) k.glob trivial e
theorem jdk (k:Sim ι h nx w):∀ (l:List AV) (xs:List Value),VRs ι l xs->∃ m,(XN (fz 9 h) l).length=m/\m<=xs.length/\VRs (ι.lent w) (XN (fz 9 h) l) (xs.take m)/\(XN (fz 9 h) l).all AV.cell=true
 |[],xs,hv=>⟨0,rfl,Qae _,by rw[QaG];rfl,rfl⟩
 |x :: l,xs,hv=>by
  simp only[VRs] at hv;obtain⟨y,ys,rfl,h1,h2⟩:=hv;unfold XN;cases he:fz 9 h x with
  |none=>exact⟨0,rfl,Qae _,by rw[QaG];rfl,rfl⟩
  |some p=>
   obtain⟨z,ks⟩:=p;dsimp only;cases hz:z.cell with
   |false=>exact⟨0,rfl,Qae _,by rw[QaG];rfl,rfl⟩
   |true=>
    obtain⟨m,e1,e2,e3,e4⟩:=jdk k l ys h2;refine⟨m+1,by simp[e1],by simp;omega,?_,by simp[hz,e4]⟩;rw[Qcr];exact⟨y,_,rfl,(HD k h1 he).1,e3⟩
theorem jc1 (k:Sim ι h nx w){v v':AV}{x:Value}(hv:VR ι v x)(he:ZR h v=some v'):VR (ι.lent w) v' x:=by
 have other:∀ v,VR ι v x->(fz 9 h v).map (·.1)=some v'->VR (ι.lent w) v' x:=λv hv he=>by
  cases hz:fz 9 h v with
  |none=>rw[hz] at he;cases he
  |some p=>
   rw[hz] at he;cases he;exact(HD k hv hz).1
 cases v;case ptr b o=>
  unfold ZR at he;dsimp only at he;split at he
  .rename_i n zl z cs hrow;cases he;simp only[VR] at hv;obtain⟨hb,a,rfl,ha⟩:=hv;obtain⟨B,S,c,e,f,e1,hw,hle,hvr⟩:=Wm k hb hrow (o:=0) (m:=n) om;have:=ha B S e1;subst this;obtain⟨m,f1,f2,f3,f4⟩:=jdk k _ _ hvr;have hg:(ι.lent w).g B=some c.toList:=by
    have:ι.ice (λ_=>True) w B=Y8 w B:=vw (p:=λ_=>True) k.glob trivial e1;show ι.ice (λ_=>True) w B=_;rw[this,jaV hw]
   rw[Qbl] at f3 f2;have hl:(c.toList.take n).length=min n c.toList.length:=Qas;have hcs:c.toList.length=c.size:=Qan;simp only[VR];refine⟨B,0,c.toList,by rw[Qaj],f4,hg,om,?_⟩;rw[Qbl,f1];rw[QbT,Qbx om] at f3;exact f3
  .cases he
 all_goals exact other _ hv he
theorem jaz (k:Sim ι h nx w):∀ {l l':List AV} {xs:List Value},VRs ι l xs->Qa h l=some l'->VRs (ι.lent w) l' xs
 |[],l',xs,hv,he=>by cases he;exact hv
 |v :: l,l',xs,hv,he=>by
  unfold Qa at he;split at he
  .rename_i y l2 h1 h2;cases he;simp only[VRs] at hv ⊢;obtain⟨u,us,rfl,g1,g2⟩:=hv;exact⟨u,us,rfl,jc1 k g1 h1,jaz k g2 h2⟩
  .cases he
theorem jo7 (k:Sim ι h nx w){v v':AV}{x:Value}(hv:VR ι v x)(he:lend h v=some v'):VR (ι.lent w) v' x:=by
 cases v;case fn f caps=>
  unfold lend at he;dsimp only at he;cases hz:Qa h caps with
  |none=>rw[hz] at he;cases he
  |some p=>
   rw[hz] at he;cases he;simp only[VR] at hv ⊢;obtain⟨cv,rfl,hc⟩:=hv;exact⟨cv,rfl,jaz k hc hz⟩
 all_goals exact jc1 k hv he
theorem jc0 (k:Sim ι h nx w):∀ {l l':List AV} {xs:List Value},VRs ι l xs->J2 h l=some l'->VRs (ι.lent w) l' xs
 |[],l',xs,hv,he=>by cases he;exact hv
 |v :: l,l',xs,hv,he=>by
  unfold J2 at he;split at he
  .rename_i y l2 h1 h2;cases he;simp only[VRs] at hv ⊢;obtain⟨u,us,rfl,g1,g2⟩:=hv;exact⟨u,us,rfl,jo7 k g1 h1,jc0 k g2 h2⟩
  .cases he
end
theorem jax {ι:Inj}{w w':World}{st:St}(k:Sim ι st.h st.nx w){s:St}{v v':AV}{x:Value}{js:Lc}(h:Jv (ι.lent w) w st0 s v x w')(he:fz 9 s.h v=some (v',js))(hf:wS v'=true):Jv ι w st st v' x w':=by
 obtain⟨ι0,le0,hv,sim',gr',cl'⟩:=h;have keep:∀ j,j<w.heap.size->w'.heap[j]? = w.heap[j]?:=λj hj=>gr'.keep j hj λb S e=>by cases e
 have hv2:=(HD sim' hv he).1;have froz:∀ B vs,ι.g B=some vs->Froz ι w' B vs:=λB vs hB=>by
  have h1:=k.glob.2 B vs hB;obtain⟨⟨c,e,lo,hi,h2,h3⟩,h4⟩:=h1;exact⟨⟨c,e,lo,hi,(keep B (Qax.1 h2).1).trans h2,h3⟩,h4⟩
 refine⟨ι,Le.refl ι,jmr hf hv2,⟨λb B S e=>?_,k.gone,k.inj,k.born,⟨⟨sim'.glob.1.1,k.glob.1.2⟩,froz⟩⟩,⟨gr'.os,gr'.tape,gr'.output,gr'.size,λj hj _=>keep j hj,λb B S e=>.inl ⟨b,S,e⟩,λB vs h=>.inl h⟩,Cleanly.refl ι st⟩;obtain⟨o,y,h1,h2,h3⟩:=k.obj b B S e;exact⟨o,y,h1,(keep B (k.lt e)).trans h2,h3⟩
theorem jo6 {P:Program}{f:FuncId}{run:List AV->St->ER}(h:XU P f run):XU P f (jbC run):=by
 intro args st ι w vs k hv;unfold jbC;cases he:J2 st.h args with
 |none=>trivial
 |some aZ=>
  dsimp only;have hva:=jc0 k hv he;have sim0:Sim (ι.lent w) st0.h st0.nx w:=⟨λb B S e=>(by cases e),λb e=>(by cases e),λb b' B S S' e=>(by cases e),λb e=>absurd rfl e,
   ⟨⟨k.glob.1.1,λb S e=>(by cases e)⟩,λB vs hB=>by
    refine⟨?_,λb S e=>(by cases e)⟩;rcases Xk hB with h1|⟨b,S,_,h1,h2⟩
    .exact(k.glob.2 B vs h1).1
    .exact VJ k h1 h2⟩⟩
  have h1:=h aZ st0 (ι.lent w) w vs sim0 hva;cases hr:run aZ st0 with
  |no=>trivial
  |ok v s=>
   rw[hr] at h1;dsimp only at h1 ⊢;cases hz:fz 9 s.h v with
   |none=>trivial
   |some p=>
    dsimp only;cases hf:wS p.1 with
    |false=>trivial
    |true=>exact⟨h1.1,Calls.mono h1.2 λe w' ⟨x,e1,hd⟩=>⟨x,e1,jax k hd hz hf⟩⟩
  |pn v s=>
   rw[hr] at h1;dsimp only at h1 ⊢;cases hz:fz 9 s.h v with
   |none=>trivial
   |some p=>
    dsimp only;cases hf:wS p.1 with
    |false=>trivial
    |true=>exact⟨h1.1,Calls.mono h1.2 λe w' ⟨x,e1,hd⟩=>⟨x,e1,jax k hd hz hf⟩⟩
end
end Go.Ev
end
noncomputable section
namespace Go.Sy
open Go.Ev Go.RowKit
variable {op:Operand->OF}{env:Env}{P:Program}{f:FuncId}{args:List AV}{st:St}{K K' Kp Kp':AV->St->Prop}{F:Nat->St->ER}{d:Nat}
inductive A where
 |t (x:Nat)
 |c (v:AV)
inductive Ins where
 |mv (x:A)
 |pick (c a b:A)
 |alloc (z:List AV)
 |box (x:A)
 |build (z:List AV) (ps:List ((Nat×Nat)×A))
 |buildS (len s:Nat) (z:List AV) (ps:List ((Nat×Nat)×A))
 |ld1 (a:A)
 |ldA (k:Nat) (a:A)
 |st (k:Nat) (a x:A)
 |nilc (x:A)
 |bin (op:BinOp) (x y:A)
 |shf (op:BinOp) (x y:A)
 |strb (op:BinOp) (x y:A)
 |gen (op:BinOp) (t:TypeId) (c:Bool) (x y:A)
 |un (op:UnOp) (x:A)
 |cvt (k:IntKind) (x:A)
 |conv (s d:TypeId) (x:A)
 |iface (t:TypeId) (x:A)
 |fn (f:FuncId) (caps:List A)
 |mkMap
 |mkS (size bytes:Nat) (z:List AV) (l c:A)
 |slStr (x:A) (lo hi:Option A)
 |slS (sz:Nat) (x:A) (lo hi:Option A)
 |slA (n sz:Nat) (x:A) (lo hi:Option A)
 |sl3 (t:TypeId) (x:A) (lo hi mx:Option A)
 |fad (off:Nat) (x:A)
 |fld1 (off:Nat) (x:A)
 |fldA (off s:Nat) (x:A)
 |idxA (n s:Nat) (x i:A)
 |idxS (s:Nat) (x i:A)
 |ixA1 (n s:Nat) (x i:A)
 |ixAA (n s:Nat) (x i:A)
 |ixStr (x i:A)
 |look (t:TypeId) (m k:A) (ok:Bool)
 |upd (t:TypeId) (m k v:A)
 |range (x:A)
 |next (x:A)
 |assert (x:A) (t:TypeId)
 |ext (x:A) (i:Nat)
 |len (x:A)
 |lenS (x:A)
 |lenM (x:A)
 |app (size bytes:Nat) (s x:A)
 |bi (b:Builtin) (ts:Array TypeId) (l:List A)
 |pan (x:A)
def O (v:AV):OF:=⟨λ_=>v⟩
def E0:Env:=⟨.e,[]⟩
def Ym (cells:List AV):List ((Nat×Nat)×AV)->Option (List AV)
 |[]=>some cells
 |((off,size),v) :: rest=>
  cond v.plain (cond (QcA (jP v.cells) size) (cond (QcC (QcD off size) (jP cells))
   (Ym (yN (yl cells off) (yN v.cells (zp cells (QcD off size)))) rest) none) none) none
def optA (x:Option AV)(d:Nat)(k:Nat->ER):ER:=
 match x with
 |none=>k d
 |some v=>qv v k
section
variable (P:Program) (ρ:A->AV)
def jX (i:Ins)(st:St):ER:=
 match i with
 |.mv x=>.ok (ρ x) st
 |.pick c a b=>Z4 (ρ c) λq=>.ok (cond q (ρ a) (ρ b)) st
 |.alloc z=>Ev.newRow st z
 |.box x=>cond (lall AV.cell (ρ x).cells) (Ev.newRow st (ρ x).cells) .no
 |.build z ps=>jN (Ym z (ps.map λp=>(p.1,ρ p.2))) λcs=>.ok (.agg cs) st
 |.buildS len s z ps=>jN (Ym (qP z len) (ps.map λp=>(p.1,ρ p.2))) λcells=>
  cond (lall AV.cell cells) (force (jP cells) λn=>st.alloc (.row n n cells .e) λb st=>.ok (.slice b 0 len len s true) st) .no
 |.ld1 a=>match ρ a with | .lptr cs o=>cond (QcC (QcB o) (jP cs)) (.ok (yt .bad cs o) st) .no|a=>ya a λb o=>yg (jv st.h b) λn zl z cs=>cond (QcC (QcB o) n) (.ok (qD zl z cs o) st) .no
 |.ldA k a=>match ρ a with | .lptr cs o=>cond (QcC (QcD o k) (jP cs)) (.ok (.agg (yl (zp cs o) k)) st) .no|a=>ya a λb o=>yg (jv st.h b) λn zl z cs=>cond (QcC (QcD o k) n) (.ok (.agg (jR zl z cs k o)) st) .no
 |.st k a x=>ya (ρ a) λb o=>yg (jv st.h b) λn zl z cs=>
  cond (QcA (jP (ρ x).cells) k) (cond (QcC (QcD o k) n) (cond (lall AV.cell (ρ x).cells)
   (st.put b (.row n zl z (qk (ρ x).cells cs o)) λst=>.ok qe st) .no) .no) .no
 |.nilc x=>(Qn (O (ρ x))).run E0 st
 |.bin op x y=>match ρ x,ρ y with
  |.int k a,.int k' b=>cond (eqK k k') (jN ((QN op).run k a b) λv=>.ok v st) .no
  |_,_=>.no
 |.shf op x y=>match ρ x,ρ y with | .int k a,.int _ b=>jN (Z1 op k a b) λv=>.ok v st|_,_=>.no
 |.strb op x y=>match ρ x,ρ y with | .str a,.str b=>jN (ur op a b) λv=>.ok v st|_,_=>.no
 |.gen op t c x y=>(Qk P op t c (O (ρ x)) (O (ρ y))).run E0 st
 |.un op x=>(YR op (O (ρ x))).run E0 st
 |.cvt k x=>match ρ x with | .int _ n=>.ok (.int k (qU k n)) st|_=>.no
 |.conv s d x=>(JZ P s d (O (ρ x))).run E0 st
 |.iface t x=>.ok (.iface t (ρ x)) st
 |.fn f caps=>.ok (.fn f (caps.map ρ)) st
 |.mkMap=>st.alloc (.map []) λb st=>.ok (.map b) st
 |.mkS size bytes z l c=>qv (ρ l) λl=>qv (ρ c) λc=>
   cond (QcC l c) (cond (QcC (QcE bytes c) 140737488355328) (cond (QcC c 9223372036854775807)
    (force (QcE c size) λn=>st.alloc (.row n size z .e) λb st=>.ok (.slice b 0 l c size true) st) .no) .no) .no
 |.slStr x lo hi=>zV (ρ x) λs=>force (jP s) λn=>optA (lo.map ρ) 0 λl=>optA (hi.map ρ) n λh=>
   cond (QcC l h) (cond (QcC h n) (.ok (.str (yl (zp s l) (QcF h l))) st) .no) .no
 |.slS sz x lo hi=>match ρ x with
  |.nils=>optA (lo.map ρ) 0 λl=>optA (hi.map ρ) 0 λh=>cond (QcA l 0) (cond (QcA h 0) (.ok .nils st) .no) .no
  |.slice b o len cap sz' ex=>optA (lo.map ρ) 0 λl=>optA (hi.map ρ) len λh=>
    cond (QcA sz' sz) (cond (QcC l h) (cond (QcC h cap) (force (QcF h l) λk=>force (QcD o (QcE l sz)) λo=>force (QcF cap l) λc=>.ok (.slice b o k c sz ex) st) .no) .no) .no
  |.lst n cs=>optA (lo.map ρ) 0 λl=>optA (hi.map ρ) n λh=>
    cond (QcC l h) (cond (QcC h n) (cond (QcC (QcE h sz) (jP cs)) (.ok (.lst (QcF h l) (yl (zp cs (QcE l sz)) (QcE (QcF h l) sz))) st) .no) .no) .no
  |_=>.no
 |.slA n sz x lo hi=>ya (ρ x) λb o=>optA (lo.map ρ) 0 λl=>optA (hi.map ρ) n λh=>
   cond (QcC l h) (cond (QcC h n)
    (force (QcF h l) λk=>force (QcD o (QcE l sz)) λo=>force (QcF n l) λc=>.ok (.slice b o k c sz true) st) .no) .no
 |.sl3 t x lo hi mx=>(Xa P t (O (ρ x)) (lo.map λa=>O (ρ a)) (hi.map λa=>O (ρ a)) (mx.map λa=>O (ρ a))).run E0 st
 |.fad off x=>match ρ x with | .lptr cs o=>.ok (.lptr cs (QcD o off)) st|a=>ya a λb o=>force (QcD o off) λo=>.ok (.ptr b o) st
 |.fld1 off x=>Qy (ρ x) λcs=>cond (QcC (QcB off) (jP cs)) (.ok (yt .bad cs off) st) .no
 |.fldA off s x=>Qy (ρ x) λcs=>.ok (.agg (yl (zp cs off) s)) st
 |.idxA n s x i=>ya (ρ x) λb o=>qv (ρ i) λi=>cond (QcC (QcB i) n) (force (QcD o (QcE i s)) λo=>.ok (.ptr b o) st) .no
 |.idxS s x i=>match ρ x with
  |.slice b o len _ _ _=>qv (ρ i) λi=>cond (QcC (QcB i) len) (force (QcD o (QcE i s)) λo=>.ok (.ptr b o) st) .no
  |.lst n cs=>qv (ρ i) λi=>cond (QcC (QcB i) n) (.ok (.lptr cs (QcE i s)) st) .no
  |_=>.no
 |.ixA1 n s x i=>Qy (ρ x) λcs=>qv (ρ i) λi=>cond (QcC (QcB i) n) (cond (QcC (QcB (QcE i s)) (jP cs)) (.ok (yt .bad cs (QcE i s)) st) .no) .no
 |.ixAA n s x i=>Qy (ρ x) λcs=>qv (ρ i) λi=>cond (QcC (QcB i) n) (.ok (.agg (yl (zp cs (QcE i s)) s)) st) .no
 |.ixStr x i=>zV (ρ x) λs=>qv (ρ i) λi=>cond (QcC (QcB i) (jP s)) (.ok (.int .u8 (.ofNat (yt 0 s i))) st) .no
 |.look t m k ok=>(JM P t (O (ρ m)) (O (ρ k)) ok).run E0 st
 |.upd t m k v=>(zn P t (O (ρ m)) (O (ρ k)) (O (ρ v))).run E0 st
 |.range x=>zV (ρ x) λs=>st.alloc (.iter s 0) λb st=>.ok (.ptr b 0) st
 |.next x=>(ku (O (ρ x))).run E0 st
 |.assert x t=>(YK P (O (ρ x)) t).run E0 st
 |.ext x i=>match ρ x with | .tup vs=>cond (QcC (QcB i) (jP vs)) (.ok (yt .bad vs i) st) .no|_=>.no
 |.lenS x=>match ρ x with
  |.str s=>force (jP s) λn=>.ok (.int .i64 (.ofNat n)) st
  |.zstr n=>.ok (.int .i64 (.ofNat n)) st
  |_=>.no
 |.len x=>match ρ x with
  |.nils=>.ok (.int .i64 (.ofNat 0)) st
  |.slice _ _ n _ _ _=>.ok (.int .i64 (.ofNat n)) st
  |.lst n _=>.ok (.int .i64 (.ofNat n)) st
  |_=>.no
 |.lenM x=>match ρ x with | .nilm=>.ok (.int .i64 (.ofNat 0)) st | .map r=>Xz (jv st.h r) λes=>force (jP es) λn=>.ok (.int .i64 (.ofNat n)) st|_=>.no
 |.app size bytes s x=>JJ (ρ x) λn=>firstCells st size n (ρ x) λnews=>qO st size bytes (ρ s) n news
 |.bi b ts l=>(qF P b ts (l.map λa=>O (ρ a))).run E0 st
 |.pan x=>match ρ x with | .iface t v=>.pn (.iface t v) st|_=>.no
end
def qT:Operand->Option A
 |.tmp x=>some (.t x)
 |.const v=>some (.c (ofV v))
 |.func f=>some (.c (.fn f []))
 |.global _=>none
def A.val (op:Operand->OF)(env:Env):A->AV
 |.t x=>(op (.tmp x)).run env
 |.c v=>v
structure Fair (op:Operand->OF)(env:Env):Prop where
 const:∀ v,(op (.const v)).run env=ofV v
 func:∀ f,(op (.func f)).run env=.fn f []
theorem jL (hf:Fair op env){x:Operand}{a:A}(h:qT x=some a):(op x).run env=a.val op env:=by
 cases x with
 |tmp x=>cases h;rfl
 |const v=>cases h;exact hf.const v
 |func f=>cases h;exact hf.func f
 |global g=>cases h
def wN:List Operand->Option (List A)
 |[]=>some []
 |x :: l=>match qT x,wN l with|some a,some ays=>some (a :: ays)|_,_=>none
theorem Vm (hf:Fair op env):∀ {l:List Operand} {ays:List A},wN l=some ays->l.map (λx=>(op x).run env)=ays.map (A.val op env)
 |[],ays,h=>by cases h;rfl
 |x :: l,ays,h=>by
  unfold wN at h;cases h1:qT x with
  |none=>rw[h1] at h;cases h
  |some a=>
   cases h2:wN l with
   |none=>rw[h1,h2] at h;cases h
   |some bs=>
    rw[h1,h2] at h;cases h;simp only[ζ];rw[jL hf h1,Vm hf h2]
def Vj (place:Nat->Option (Nat×Nat)):List (Nat×Operand)->Option (List ((Nat×Nat)×A))
 |[]=>some []
 |(i,x) :: l=>match place i,qT x,Vj place l with|some p,some a,some ays=>some ((p,a) :: ays)|_,_,_=>none
theorem Vi (hf:Fair op env){place:Nat->Option (Nat×Nat)}:∀ {l:List (Nat×Operand)} {ays:List ((Nat×Nat)×A)} (cells:List AV),Vj place l=some ays->
  wT cells place (YY env (yj (λp=>(p.1,op p.2)) l))=Ym cells (ays.map λp=>(p.1,p.2.val op env))
 |[],ays,cells,h=>by cases h;rfl
 |(i,x) :: l,ays,cells,h=>by
  unfold Vj at h;cases h0:place i with
  |none=>rw[h0] at h;cases h
  |some p=>
   cases h1:qT x with
   |none=>rw[h0,h1] at h;cases h
   |some a=>
    cases h2:Vj place l with
    |none=>rw[h0,h1,h2] at h;cases h
    |some bs=>
     rw[h0,h1,h2] at h;cases h;have e:YY env (yj (λp=>(p.1,op p.2)) ((i,x) :: l))=(i,(op x).run env) :: YY env (yj (λp=>(p.1,op p.2)) l):=rfl;rw[e];simp only[wT,h0,ζ,Ym];rw[jL hf h1];simp only[Vi hf _ h2]
def jcY:Option Operand->Option (Option A)
 |none=>some none
 |some x=>(qT x).map some
theorem Hw (hf:Fair op env){x:Option Operand}{a:Option A}(h:jcY x=some a):(x.map λx=>(op x).run env)=a.map (A.val op env):=by
 cases x with
 |none=>cases h;rfl
 |some x=>
  simp only[jcY,QbA] at h;obtain⟨b,h1,rfl⟩:=h;simp[jL hf h1]
theorem yA (hf:Fair op env){x:Option Operand}{a:Option A}(h:jcY x=some a)(d:Nat)(k:Nat->ER) :
  optF (x.map op) d env k=optA (a.map (A.val op env)) d k:=by
 rw[<-Hw hf h];cases x<;>rfl
def Yj (P:Program)(o:Op):Option Ins:=
 match o with
 |.move x=>(qT x).map .mv
 |.assign x=>(qT x).map .mv
 |.pick c a b=>(qT c).bind λc=>(qT a).bind λa=>(qT b).map λb=>.pick c a b
 |.alloc t=>(zeroCells P t).bind λz=>cond (lall AV.cell z) (some (.alloc z)) none
 |.box _ x=>(qT x).map .box
 |.build t ps=>(zeroCells P t).bind λz=>(match P.underlying t with
  |some (.struct fields)=>cond (fields.toList.all λf=>(Ev.sizeOf P f.type).isSome) ((Vj (gI P fields) ps.toList).map λps=>.build z ps) none
  |some (.array _ e)=>(Ev.sizeOf P e).bind λs=>(Vj (λi=>some (QcE i s,s)) ps.toList).map λps=>.build z ps
  |_=>none)
 |.buildSlice t n ps=>(Ev.elemOf P t).bind λe=>(Ev.sizeOf P e).bind λs=>(zeroCells P e).bind λz=>
  cond (cond (QcC (QcE n s) 16777216) (QcA (jP z) s) false) ((Vj (λi=>some (QcE i s,s)) ps.toList).map λps=>.buildS n s z ps) none
 |.load t a=>(qT a).bind λa=>(match Ev.isAgg P t,Ev.sizeOf P t with
  |some true,some k=>some (.ldA k a)
  |some false,some _=>some (.ld1 a)
  |_,_=>none)
 |.store t a x=>(qT a).bind λa=>(qT x).bind λx=>(Ev.sizeOf P t).map λk=>.st k a x
 |.nilCheck x=>(qT x).map .nilc
 |.binOp b t x y _=>(qT x).bind λa=>(qT y).map λa'=>(match P.underlying t with
  |some (.int _)=>(match b with | .shl=>.shf b a a' | .shr=>.shf b a a'|_=>.bin b a a')
  |some .string=>.strb b a a'
  |_=>.gen b t (Region.isConst x ||Region.isConst y) a a')
 |.unOp b _ x=>(qT x).map λx=>.un b x
 |.convert s d x=>(qT x).map λx=>(match P.underlying s,P.underlying d with
  |some (.int _),some (.int k)=>.cvt k x
  |_,_=>.conv s d x)
 |.makeInterface t x=>(qT x).bind λx=>(match P.underlying t with|some (.interface _)=>none|some _=>some (.iface t x)|none=>none)
 |.makeFunc (.func f) first caps=>(match first.toList with|[]=>(wN caps.toList).map λl=>.fn f l|_=>none)
 |.makeMap _ none=>some .mkMap
 |.makeSlice t l c=>(qT l).bind λl=>(qT c).bind λc=>(Ev.elemOf P t).bind λe=>(P.info? e).bind λi=>(zeroCells P e).bind λz=>
  cond (cond (lall AV.cell z) (QcA (jP z) i.size) false) (some (.mkS i.size i.bytes z l c)) none
 |.slice t x lo hi mx=>(qT x).bind λx=>(jcY lo).bind λlo=>(jcY hi).bind λhi=>(match mx with
  |some mx=>(qT mx).map λmx=>.sl3 t x lo hi (some mx)
  |none=>(match P.underlying t with
   |some .string=>some (.slStr x lo hi)
   |some (.slice e)=>(Ev.sizeOf P e).map λsz=>.slS sz x lo hi
   |some (.array n e)=>(Ev.sizeOf P e).map λsz=>.slA n sz x lo hi
   |_=>none))
 |.fieldAddr s x f=>(qT x).bind λx=>(match P.underlying s with
  |some (.struct fields)=>(fields[f]?).bind λf=>(match Ev.sizeOf P f.type with|some (_+1)=>some (.fad f.offset x)|_=>none)
  |_=>none)
 |.field s x f=>(qT x).bind λx=>(match P.underlying s with
  |some (.struct fields)=>(fields[f]?).bind λf=>(match Ev.isAgg P f.type,Ev.sizeOf P f.type with
   |some true,some s=>some (.fldA f.offset s x)
   |some false,_=>some (.fld1 f.offset x)
   |_,_=>none)
  |_=>none)
 |.indexAddr t x i=>(qT x).bind λx=>(qT i).bind λi=>(match P.underlying t with
  |some (.array n e)=>(Ev.sizeOf P e).map λs=>.idxA n s x i
  |some (.slice e)=>(Ev.sizeOf P e).map λs=>.idxS s x i
  |_=>none)
 |.index t x i=>(qT x).bind λx=>(qT i).bind λi=>(match P.underlying t with
  |some (.array n e)=>(match Ev.isAgg P e,Ev.sizeOf P e with
   |some true,some s=>some (.ixAA n s x i)
   |some false,some s=>some (.ixA1 n s x i)
   |_,_=>none)
  |some .string=>some (.ixStr x i)
  |_=>none)
 |.lookup t m k ok=>(qT m).bind λm=>(qT k).map λk=>.look t m k ok
 |.mapUpdate t m k v=>(qT m).bind λm=>(qT k).bind λk=>(qT v).map λv=>.upd t m k v
 |.range t x=>(qT x).bind λx=>(match P.underlying t with|some .string=>some (.range x)|_=>none)
 |.next it true=>(qT it).map .next
 |.typeAssert x _ t true=>(qT x).map λx=>.assert x t
 |.extract x i=>(qT x).map λx=>.ext x i
 |.call c=>(match c.callee with
  |.builtin b=>(wN c.args.toList).bind λl=>(match b,l,c.argTypes.toList with
   |.len,[x],t :: _=>(match P.underlying t with
    |some .string=>some (.lenS x)
    |some (.slice _)=>some (.len x)
    |some (.map _ _)=>some (.lenM x)
    |_=>some (.bi b c.argTypes l))
   |.append,[s,x],t :: u :: _=>(Ev.elemOf P t).bind λe=>(P.info? e).bind λi=>(zeroCells P e).bind λz=>
     cond (cond (lall AV.cell z) (QcA (jP z) i.size) false) (match P.underlying u with
      |some (.slice _)=>some (.app i.size i.bytes s x)
      |some .string=>some (.app i.size i.bytes s x)
      |_=>some (.bi b c.argTypes l)) none
   |_,_,_=>some (.bi b c.argTypes l))
  |_=>none)
 |.panic x=>(qT x).map .pan
 |_=>none
section
variable {P:Program} {op:Operand->OF} {env:Env} {st:St}
theorem bind_some {α β:Type}{x:Option α}{f:α->Option β}{b:β}(h:x.bind f=some b):∃ a,x=some a/\f a=some b:=by
 cases x with
 |none=>cases h
 |some a=>exact⟨a,rfl,h⟩
theorem map_some {α β:Type}{x:Option α}{f:α->β}{b:β}(h:x.map f=some b):∃ a,x=some a/\f a=b:=by
 cases x with
 |none=>cases h
 |some a=>cases h;exact⟨a,rfl,rfl⟩
theorem JU {b:Bool}{α:Type}{x:Option α}{y:α}(h:cond b x none=some y):b=true/\x=some y:=by
 cases b
 .cases h
 .exact⟨rfl,h⟩
theorem jav {t:TypeId}{k:Nat}{a:OF}(h1:Ev.isAgg P t=some true)(h2:Ev.sizeOf P t=some k) :
  (Y1 P t a).run env st=(match a.run env with | .lptr cs o=>cond (QcC (QcD o k) (jP cs)) (.ok (.agg (yl (zp cs o) k)) st) .no|a=>ya a λb o=>yg (jv st.h b) λn zl z cs=>cond (QcC (QcD o k) n) (.ok (.agg (jR zl z cs k o)) st) .no):=by
 unfold Y1 qV;rw[h1,h2];dsimp only;generalize a.run env=v;cases v<;>try rfl
 rotate_left
 .rename_i cs o;dsimp only;cases QcC (QcD o k) (jP cs)<;>rfl
 rename_i b o;simp only[ya,yg];cases jv st.h b with
 |none=>rfl
 |some ob=>
  cases ob<;>try rfl
  rename_i n zl z cs;dsimp only;cases QcC (QcD o k) n<;>rfl
theorem jau {t:TypeId}{k:Nat}{a:OF}(h1:Ev.isAgg P t=some false)(h2:Ev.sizeOf P t=some k) :
  (Y1 P t a).run env st=(match a.run env with | .lptr cs o=>cond (QcC (QcB o) (jP cs)) (.ok (yt .bad cs o) st) .no|a=>ya a λb o=>yg (jv st.h b) λn zl z cs=>cond (QcC (QcB o) n) (.ok (qD zl z cs o) st) .no):=by
 unfold Y1 qV;rw[h1,h2];dsimp only;generalize a.run env=v;cases v<;>try rfl
 rotate_left
 .rename_i cs o;dsimp only;cases QcC (QcB o) (jP cs)<;>rfl
 rename_i b o;simp only[ya,yg];cases jv st.h b with
 |none=>rfl
 |some ob=>
  cases ob<;>try rfl
  rename_i n zl z cs;dsimp only;cases QcC (QcB o) n<;>rfl
theorem jiS (t:TypeId)(m k:OF)(ok:Bool):(JM P t m k ok).run env st=(JM P t (O (m.run env)) (O (k.run env)) ok).run E0 st:=by
 unfold JM;split
 .split<;>rfl
 .rfl
theorem jcV (t:TypeId)(m k v:OF):(zn P t m k v).run env st=(zn P t (O (m.run env)) (O (k.run env)) (O (v.run env))).run E0 st:=by
 unfold zn;split<;>rfl
theorem joT (x:OF):(ku x).run env st=(ku (O (x.run env))).run E0 st:=rfl
theorem jd8 (x:OF):(Qn x).run env st=(Qn (O (x.run env))).run E0 st:=rfl
theorem jjU (x:OF)(t:TypeId):(YK P x t).run env st=(YK P (O (x.run env)) t).run E0 st:=by
 unfold YK;split
 .rfl
 .split<;>rfl
theorem jow (b:UnOp)(x:OF):(YR b x).run env st=(YR b (O (x.run env))).run E0 st:=by
 unfold YR;cases b<;>rfl
theorem jhf (s d:TypeId)(x:OF):(JZ P s d x).run env st=(JZ P s d (O (x.run env))).run E0 st:=by
 unfold JZ;split
 .rfl
 .rfl
 .split<;>rfl
 .split<;>rfl
 .rfl
theorem jmI (b:BinOp)(t:TypeId)(c:Bool)(x y:OF):(Qk P b t c x y).run env st=(Qk P b t c (O (x.run env)) (O (y.run env))).run E0 st:=by
 unfold Qk;split
 .split<;>rfl
 .split<;>rfl
 .rfl
 .cases P.eqGuardType P.depth t
  .simp only[cond_false];split<;>rfl
  .rfl
theorem jlR (t:TypeId)(x:OF)(lo hi mx:Option OF) :
  (Xa P t x lo hi mx).run env st=(Xa P t (O (x.run env)) (lo.map λa=>O (a.run env)) (hi.map λa=>O (a.run env)) (mx.map λa=>O (a.run env))).run E0 st:=by
 unfold Xa;cases mx<;>cases hi<;>cases lo<;>simp only[Qau,Qbh];all_goals
  split
  .rfl
  .split<;>rfl
  .split<;>rfl
  .rfl
theorem jsm (t:TypeId)(x:OF):(wi P t x).run env st=(wi P t (O (x.run env))).run E0 st:=by
 unfold wi;split<;>rfl
theorem jtg (t:TypeId)(x:OF):(UH P t x).run env st=(UH P t (O (x.run env))).run E0 st:=by
 unfold UH;split<;>rfl
theorem jjV (t u:TypeId)(s x:OF):(QR P t u s x).run env st=(QR P t u (O (s.run env)) (O (x.run env))).run E0 st:=by
 unfold QR;split
 .split
  .generalize cond _ _ false=cc;cases cc
   .rfl
   .simp only[cond_true];split<;>rfl
  .rfl
 .rfl
theorem jpo (t:TypeId)(s x:OF):(VB P t s x).run env st=(VB P t (O (s.run env)) (O (x.run env))).run E0 st:=by
 unfold VB;split
 .split<;>rfl
 .rfl
theorem jiU (l:List OF):yj (λx:OF=>x.run E0) (l.map λa=>O (a.run env))=yj (λx:OF=>x.run env) l:=by
 rw[yG,yG,Qbc];rfl
theorem jhl (b:Builtin)(ts:Array TypeId)(l:List OF):(qF P b ts l).run env st=(qF P b ts (l.map λa=>O (a.run env))).run E0 st:=by
 unfold qF;cases b;case len=>rcases l with _|⟨x,_|⟨y,l⟩⟩<;>cases ts.toList<;>first|rfl|exact jsm _ _
 case cap=>rcases l with _|⟨x,_|⟨y,l⟩⟩<;>cases ts.toList<;>first|rfl|exact jtg _ _
 case append=>rcases l with _|⟨x,_|⟨y,_|⟨z,l⟩⟩⟩<;>rcases ts.toList with _|⟨t,_|⟨u,r⟩⟩<;>first|rfl|exact jjV _ _ _ _
 case copy=>rcases l with _|⟨x,_|⟨y,_|⟨z,l⟩⟩⟩<;>cases ts.toList<;>first|rfl|exact jpo _ _ _
 case min=>
  cases l with
  |nil=>rfl
  |cons x l=>
   show(jN (Q5 min2 (x.run env) (yj (λx:OF=>x.run env) l)) λv=>ER.ok v st)=jN (Q5 min2 (x.run env) (yj (λx:OF=>x.run E0) (l.map λa=>O (a.run env)))) λv=>ER.ok v st;rw[jiU]
 case max=>
  cases l with
  |nil=>rfl
  |cons x l=>
   show(jN (Q5 max2 (x.run env) (yj (λx:OF=>x.run env) l)) λv=>ER.ok v st)=jN (Q5 max2 (x.run env) (yj (λx:OF=>x.run E0) (l.map λa=>O (a.run env)))) λv=>ER.ok v st;rw[jiU]
 all_goals(rcases l with _|⟨x,_|⟨y,_|⟨z,l⟩⟩⟩<;>rfl)
theorem jme (hf:Fair op env){o:Op}{i:Ins}(h:Yj P o=some i):(jy P op o).run env st=jX P (A.val op env) i st:=by
 cases o<;>simp only[Yj] at h<;>try(cases h;done)
 case move x=>obtain⟨a,h1,rfl⟩:=map_some h;simp only[jy,jX,jL hf h1]
 case assign x=>obtain⟨a,h1,rfl⟩:=map_some h;simp only[jy,jX,jL hf h1]
 case pick c a b=>
  obtain⟨c',h1,h⟩:=bind_some h;obtain⟨a',h2,h⟩:=bind_some h;obtain⟨b',h3,rfl⟩:=map_some h;simp only[jy,jX,jL hf h1,jL hf h2,jL hf h3];try rfl
 case alloc t=>
  obtain⟨z,h1,h⟩:=bind_some h;obtain⟨h2,h⟩:=JU h;cases h;simp only[jy,jX,h1,h2,cond_true];try rfl
 case box t x=>obtain⟨a,h1,rfl⟩:=map_some h;simp only[jy,jX,jL hf h1]
 case build t ps=>
  obtain⟨z,h1,h⟩:=bind_some h;simp only[jy,UJ,h1];split at h
  .rename_i fields hu;obtain⟨h2,h⟩:=JU h;obtain⟨l,h3,rfl⟩:=map_some h;simp only[hu,h2,cond_true,jX];rw[Vi hf z h3]
  .rename_i n e hu;obtain⟨s,h2,h⟩:=bind_some h;obtain⟨l,h3,rfl⟩:=map_some h;simp only[hu,h2,jX];rw[Vi hf z h3]
  .cases h
 case buildSlice t n ps=>
  obtain⟨e,h1,h⟩:=bind_some h;obtain⟨s,h2,h⟩:=bind_some h;obtain⟨z,h3,h⟩:=bind_some h;obtain⟨h4,h⟩:=JU h;obtain⟨l,h5,rfl⟩:=map_some h;simp only[jy,ZX,h1,h2,h3,h4,cond_true,jX];try rfl
  rw[Vi hf _ h5]
 case load t a=>
  obtain⟨a',h1,h⟩:=bind_some h;simp only[jy];split at h
  .rename_i k h2 h3;cases h;rw[jav h2 h3,jL hf h1];rfl
  .rename_i k h2 h3;cases h;rw[jau h2 h3,jL hf h1];rfl
  .cases h
 case store t a x=>
  obtain⟨a',h1,h⟩:=bind_some h;obtain⟨x',h2,h⟩:=bind_some h;obtain⟨k,h3,rfl⟩:=map_some h;simp only[jy,jcq,h3,jX,jL hf h1,jL hf h2];try rfl
 case nilCheck x=>
  obtain⟨a,h1,rfl⟩:=map_some h;simp only[jy,jX];try rfl
  rw[jd8,jL hf h1]
 case binOp b t x y c=>
  obtain⟨a,h1,h⟩:=bind_some h;obtain⟨a',h2,rfl⟩:=map_some h;simp only[jy];split
  .rename_i k hu;split
   .simp only[Qk,hu,jX,jL hf h1,jL hf h2];try rfl
   .simp only[Qk,hu,jX,jL hf h1,jL hf h2];try rfl
   .rename_i hn1 hn2;unfold Qk;rw[hu];dsimp only;cases b<;>first|(exact absurd rfl hn1)|(exact absurd rfl hn2)|(simp only[jX,jL hf h1,jL hf h2];try rfl)
  .rename_i hu;simp only[Qk,hu,jX,jL hf h1,jL hf h2];try rfl
   try rfl
  .simp only[jX];rw[jmI,jL hf h1,jL hf h2]
 case unOp b t x=>
  obtain⟨a,h1,rfl⟩:=map_some h;simp only[jy,jX];try rfl
  rw[jow,jL hf h1]
 case convert s d x=>
  obtain⟨a,h1,rfl⟩:=map_some h;simp only[jy];split
  .rename_i k1 k2 hu1 hu2;simp only[JZ,hu1,hu2,jX,jL hf h1];try rfl
  .simp only[jX];rw[jhf,jL hf h1]
 case makeInterface t x=>
  obtain⟨a,h1,h⟩:=bind_some h;simp only[jy];split at h
  .cases h
  .rename_i hu hn;cases h;split
   .rename_i hu2;rw[hu2] at hn;cases hn;exact absurd rfl (hu _)
   .simp only[jX,jL hf h1]
   .rename_i hu2;rw[hu2] at hn;cases hn
  .cases h
 case makeFunc f first caps=>
  cases f<;>simp only[Yj] at h<;>try(cases h;done)
  split at h
  .rename_i hfst;obtain⟨l,h1,rfl⟩:=map_some h;simp only[jy,hfst,jX,yG,Vm hf h1];try rfl
  .cases h
 case makeMap t r=>
  cases r<;>simp only[Yj] at h<;>try(cases h;done)
  cases h;rfl
 case makeSlice t l c=>
  obtain⟨l',h1,h⟩:=bind_some h;obtain⟨c',h2,h⟩:=bind_some h;obtain⟨e,h3,h⟩:=bind_some h;obtain⟨i,h4,h⟩:=bind_some h;obtain⟨z,h5,h⟩:=bind_some h;obtain⟨h6,h⟩:=JU h;cases h;simp only[jy,wM,h3,h4,h5,h6,cond_true,jX,jL hf h1,jL hf h2];try rfl
 case slice t x lo hi mx=>
  obtain⟨x',h1,h⟩:=bind_some h;obtain⟨lo',h2,h⟩:=bind_some h;obtain⟨hi',h3,h⟩:=bind_some h;simp only[jy];cases mx with
  |some mx=>
   obtain⟨mx',h4,rfl⟩:=map_some h;rw[jlR];simp only[jX,jL hf h1,Option.map_map,Qau,jL hf h4];have e1:(lo.map ((λa=>O (a.run env)) ∘ op))=lo'.map λa=>O (A.val op env a):=by
    have:=congrArg (Option.map O) (Hw hf h2);simpa[Option.map_map,Qcl] using this
   have e2:(hi.map ((λa=>O (a.run env)) ∘ op))=hi'.map λa=>O (A.val op env a):=by
    have:=congrArg (Option.map O) (Hw hf h3);simpa[Option.map_map,Qcl] using this
   rw[e1,e2]
  |none=>
   simp only[Qbh];dsimp only at h;split at h
   .rename_i hu;cases h;simp only[Xa,hu,jX,jL hf h1,yA hf h2,yA hf h3];try rfl
   .rename_i e hu;obtain⟨sz,h5,rfl⟩:=map_some h;simp only[Xa,hu,h5,jX,jL hf h1,yA hf h2,yA hf h3];try rfl
   .rename_i n e hu;obtain⟨sz,h5,rfl⟩:=map_some h;simp only[Xa,hu,h5,jX,jL hf h1,yA hf h2,yA hf h3];try rfl
   .cases h
 case fieldAddr s x f=>
  obtain⟨x',h1,h⟩:=bind_some h;split at h
  .rename_i fields hu;obtain⟨fl,h2,h⟩:=bind_some h;split at h
   .rename_i n h3;cases h;simp only[jy,Y3,hu,h2,h3,jX,jL hf h1];generalize A.val op env x'=u;cases u<;>rfl
   .cases h
  .cases h
 case field s x f=>
  obtain⟨x',h1,h⟩:=bind_some h;split at h
  .rename_i fields hu;obtain⟨fl,h2,h⟩:=bind_some h;split at h
   .rename_i s' h3 h4;cases h;simp only[jy,Wy,hu,h2,jX,jL hf h1,zA,h3,h4,Qbe,cond_true,Qau];try rfl
    try rfl
   .rename_i h3;cases h;simp only[jy,Wy,hu,h2,jX,jL hf h1,zA,h3,Qbe,cond_false];try rfl
    congr 1
    funext cs
    cases QcC (QcB fl.offset) (jP cs)<;>rfl
   .cases h
  .cases h
 case indexAddr t x i=>
  obtain⟨x',h1,h⟩:=bind_some h;obtain⟨i',h2,h⟩:=bind_some h;split at h
  .rename_i n e hu;obtain⟨s,h3,rfl⟩:=map_some h;simp only[jy,XI,hu,h3,jX,jL hf h1,jL hf h2];try rfl
  .rename_i e hu;obtain⟨s,h3,rfl⟩:=map_some h;simp only[jy,XI,hu,h3,jX,jL hf h1,jL hf h2];try rfl
  .cases h
 case index t x i=>
  obtain⟨x',h1,h⟩:=bind_some h;obtain⟨i',h2,h⟩:=bind_some h;split at h
  .rename_i n e hu;split at h
   .rename_i s h3 h4;cases h;simp only[jy,vV,hu,h4,jX,jL hf h1,jL hf h2,zA,h3,Qbe,cond_true,Qau];try rfl
    try rfl
   .rename_i s h3 h4;cases h;simp only[jy,vV,hu,h4,jX,jL hf h1,jL hf h2,zA,h3,Qbe,cond_false];try rfl
    congr 1
    funext cs
    congr 1
    funext j
    congr 1
    cases QcC (QcB (QcE j s)) (jP cs)<;>rfl
   .cases h
  .rename_i hu;cases h;simp only[jy,vV,hu,jX,jL hf h1,jL hf h2];try rfl
  .cases h
 case lookup t m k ok=>
  obtain⟨m',h1,h⟩:=bind_some h;obtain⟨k',h2,rfl⟩:=map_some h;simp only[jy,jX];try rfl
  rw[jiS,jL hf h1,jL hf h2]
 case mapUpdate t m k v=>
  obtain⟨m',h1,h⟩:=bind_some h;obtain⟨k',h2,h⟩:=bind_some h;obtain⟨v',h3,rfl⟩:=map_some h;simp only[jy,jX];try rfl
  rw[jcV,jL hf h1,jL hf h2,jL hf h3]
 case range t x=>
  obtain⟨x',h1,h⟩:=bind_some h;split at h
  .rename_i hu;cases h;simp only[jy,hu,jX,jL hf h1];try rfl
  .cases h
 case next it s=>
  cases s<;>simp only[Yj] at h<;>try(cases h;done)
  obtain⟨x',h1,rfl⟩:=map_some h;simp only[jy,jX];try rfl
  rw[joT,jL hf h1]
 case panic x=>
  obtain⟨a,h1,rfl⟩:=Go.Sy.map_some h;simp only[jy,jX,jL hf h1];try rfl
 case typeAssert x s t ok=>
  cases ok<;>simp only[Yj] at h<;>try(cases h;done)
  obtain⟨x',h1,rfl⟩:=map_some h;simp only[jy,jX];try rfl
  rw[jjU,jL hf h1]
 case extract x i=>
  obtain⟨x',h1,rfl⟩:=map_some h;simp only[jy,jX,jL hf h1];try rfl
 case call c=>
  split at h
  .rename_i b hb;obtain⟨l,h1,h⟩:=bind_some h;have hl:=Vm hf h1;have gen:(jy P op (.call c)).run env st=(qF P b c.argTypes (l.map λa=>O (A.val op env a))).run E0 st:=by
    simp only[jy,hb];rw[jhl,yG,Qbc]
    congr 2
    have:=congrArg (List.map O) hl;simpa[Qbc,Qcl] using this
   rw[gen];split at h
   .rename_i x t r hts hts2;have hb1:∀ v:AV,(qF P .len c.argTypes [O v]).run E0 st=(wi P t (O v)).run E0 st:=by
     intro v;unfold qF;rw[hts]
    simp only[ζ,θ];split at h
    .rename_i hu;cases h;rw[hb1];unfold wi;rw[hu];rfl
    .rename_i e hu;cases h;rw[hb1];unfold wi;rw[hu];rfl
    .rename_i k e hu;cases h;rw[hb1];unfold wi;rw[hu];rfl
    .cases h;rfl
   .rename_i s x t u r hts hts2;obtain⟨e,h2,h⟩:=bind_some h;obtain⟨i',h3,h⟩:=bind_some h;obtain⟨z,h4,h⟩:=bind_some h;obtain⟨h5,h⟩:=JU h;have hb1:∀ v v':AV,(qF P .append c.argTypes [O v,O v']).run E0 st=(QR P t u (O v) (O v')).run E0 st:=by
     intro v v';unfold qF;rw[hts]
    simp only[ζ,θ];split at h
    .rename_i e' hu;cases h;rw[hb1];unfold QR;simp only[h2,h3,h4,h5,cond_true,hu];rfl
    .rename_i hu;cases h;rw[hb1];unfold QR;simp only[h2,h3,h4,h5,cond_true,hu];rfl
    .cases h;rfl
   .cases h;rfl
  .cases h
end
inductive IC where
 |i (i:Ins)
 |call (f:A) (l:List A)
inductive RV where
 |t (x:Nat)
 |c1 (a:Nat)
 |cA (a k:Nat)
def jmf (ops:Array Oper)(o:Oper):Option (Option (Nat×Bool)):=
 match o.guard with
 |none=>some none
 |some (j,want)=>((ops[j]?).bind (·.dst)).map λd=>some (d,want)
def jcX (P:Program)(o:Op):Option (Option (Option A)):=
 match jY P o with
 |.pure=>some none
 |.makes=>some none
 |.reads=>(match o with | .load _ a=>(qT a).map λa=>some (some a)|_=>none)
 |.writes=>some (some none)
 |.other=>some (some none)
def calm (P:Program)(ops:Array Oper):Nat->List Oper->Bool
 |_,[]=>true
 |i,o :: l=>cond (yO P ops i o) false (cond (Ev.partners P ops (qC i) i o).isEmpty (calm P ops (i+1) l) false)
def jmd (P:Program):ResultVar->Option RV
 |.tmp t=>some (.t t)
 |.cell a t=>(match Ev.isAgg P t,Ev.sizeOf P t with
  |some true,some k=>some (.cA a k)
  |some false,some _=>some (.c1 a)
  |_,_=>none)
def gY (P:Program):List ResultVar->Option (List RV)
 |[]=>some []
 |r :: l=>(jmd P r).bind λr=>(gY P l).map λl=>r :: l
abbrev Sl:=List (Nat×AV)
def look (x:Nat):Sl->AV
 |[]=>.bad
 |(k,v) :: L=>cond (QcA k x) v (look x L)
def has (x:Nat):Sl->Bool
 |[]=>false
 |(k,_) :: L=>cond (QcA k x) true (has x L)
structure En where
 l:Sl
 g:Sl
def En.look (e:En)(x:Nat):AV:=cond (has x e.l) (Sy.look x e.l) (Sy.look x e.g)
def En.has (e:En)(x:Nat):Bool:=cond (Sy.has x e.l) true (Sy.has x e.g)
def vl (e:En):A->AV
 |.t x=>e.look x
 |.c v=>v
def okA (e:En):A->Bool
 |.t x=>e.has x
 |.c _=>true
def yf (dst:Option Nat)(keep:Bool)(v:AV)(e:En):En:=
 match dst with
 |some d=>⟨(d,v) :: e.l,cond keep ((d,v) :: e.g) e.g⟩
 |none=>e
def oA (x:Option A):List A:=match x with|some a=>[a]|none=>[]
def wk:Ins->List A
 |.mv x=>[x] | .pick c a b=>[c,a,b] | .alloc _=>[] | .box x=>[x] | .build _ ps=>ps.map (·.2) | .buildS _ _ _ ps=>ps.map (·.2)
 |.ld1 a=>[a] | .ldA _ a=>[a] | .st _ a x=>[a,x] | .nilc x=>[x] | .bin _ x y=>[x,y] | .shf _ x y=>[x,y] | .strb _ x y=>[x,y] | .gen _ _ _ x y=>[x,y]
 |.un _ x=>[x] | .cvt _ x=>[x] | .conv _ _ x=>[x] | .iface _ x=>[x] | .fn _ l=>l | .mkMap=>[] | .mkS _ _ _ l c=>[l,c]
 |.slStr x lo hi=>x :: (oA lo ++ oA hi) | .slS _ x lo hi=>x :: (oA lo ++ oA hi) | .slA _ _ x lo hi=>x :: (oA lo ++ oA hi) | .sl3 _ x lo hi mx=>x :: (oA lo ++ oA hi ++ oA mx)
 |.fad _ x=>[x] | .fld1 _ x=>[x] | .fldA _ _ x=>[x] | .idxA _ _ x i=>[x,i] | .idxS _ x i=>[x,i] | .ixA1 _ _ x i=>[x,i] | .ixAA _ _ x i=>[x,i] | .ixStr x i=>[x,i]
 |.look _ m k _=>[m,k] | .upd _ m k v=>[m,k,v] | .range x=>[x] | .next x=>[x] | .assert x _=>[x] | .ext x _=>[x] | .len x=>[x] | .lenS x=>[x] | .lenM x=>[x]
 |.app _ _ s x=>[s,x] | .bi _ _ l=>l | .pan x=>[x]
abbrev Res {α:Sort _}(_:α):Type:=Prop
def jk (r:ER)(K:AV->St->Prop):Res K:=
 match r with
 |.ok v st=>K v st
 |_=>False
def wI (P:Program)(i:Ins)(e:En)(st:St)(K:AV->St->Prop):Res (i,K):=
 (wk i).all (okA e)=true/\jk (jX P (vl e) i st) K
structure Bs where
 run:qG
 pur:FuncId->Nat
structure Bs.at0 (base:Bs)(f:FuncId)(args:List AV)(st:St):Prop where
 run:base.run f args st=.no
 pur:base.pur f=0
def uE (m:Nat)(run:List AV->St->ER)(args:List AV)(st:St):ER:=
 match m with
 |0=>run args st
 |1=>jbq run args st
 |3=>jby run args st
 |5=>jbC run args st
 |_=>jgJ run args st
theorem joZ {run:List AV->St->ER}(h:XU P f run)(m:Nat):XU P f (uE m run):=by
 unfold uE;split
 .exact h
 .exact joO h
 .exact jma h
 .exact jo6 h
 .exact jsr h
def evC (P:Program)(base:Bs)(n:Nat):Nat->qG
 |0=>λ_ _ _=>.no
 |d+1=>λf args st=>match base.run f args st with
  |.no=>uE (base.pur f) (λargs st=>(XR P f).run (evC P base n d) n args st) args st
  |r=>r
theorem jjx (hok:okP P=true)(hdraw:Zd P){base:Bs}(hb:JH P base.run)(n:Nat):∀ d,JH P (evC P base n d)
 |0=>λf args st ι w vs _ _=>trivial
 |d+1=>λf args st ι w vs hs hv=>by
  have h1:=hb f args st ι w vs hs hv;have h0:XU P f λargs st=>(XR P f).run (evC P base n d) n args st:=λargs st ι w vs hs hv=>jdB hok (jjx hok hdraw hb n d) hdraw n f args st ι w vs hs hv;have h2:=joZ h0 (base.pur f) args st ι w vs hs hv;show match evC P base n (d+1) f args st with | .no=>True | .ok v st'=>_ | .pn v st'=>_
  simp only[evC];cases hr:base.run f args st with
  |no=>exact h2
  |ok v st'=>rw[hr] at h1;exact h1
  |pn v st'=>rw[hr] at h1;exact h1
def CW (P:Program)(base:Bs)(f:FuncId)(args:List AV)(st:St)(K:AV->St->Prop):Res K:=
 ∃ v st',(∃ N D,∀ n,N<=n->∀ d,D<=d->evC P base n d f args st=.ok v st')/\K v st'
theorem CW.mono {base:Bs}(h:CW P base f args st K)(hk:∀ v st',K v st'->K' v st'):CW P base f args st K':=by
 obtain⟨v,st',h1,h2⟩:=h;exact⟨v,st',h1,hk v st' h2⟩
section
variable (P:Program) (base:Bs)
def jt6 (f:A)(l:List A)(e:En)(st:St)(K:AV->St->Prop):Res K:=
 okA e f=true/\l.all (okA e)=true/\(match vl e f with
  |.fn f caps=>CW P base f (l.map (vl e) ++ caps) st λv st'=>K v (back st st')
  |_=>False)
def wK (k:IC)(e:En)(st:St)(K:AV->St->Prop):Res (k,K):=
 match k with
 |.i i=>wI P i e st K
 |.call f l=>jt6 P base f l e st K
def gW (g:Option (Nat×Bool))(e:En)(a b:Prop):Res (a,b):=
 match g with
 |none=>a
 |some (x,want)=>e.has x=true/\(match e.look x with | .bool q=>(match q == want with|true=>a|false=>b) | .bad=>False|_=>b)
def teW (te:Option (Option A))(e:En)(v:AV)(st st':St):TE:=
 match te with
 |none=>.none
 |some none=>.wr st.h st'.h
 |some (some a)=>.rd (vl e a) v
inductive Out where
 |go (L:Sl) (st:St)
 |ex (id:Nat) (L:Sl) (st:St)
 |rt (L:Sl) (st:St)
def Qu (k:Sl->St->Prop)(Q:Out->Prop):Out->Res (k,Q)
 |.go L st=>k L st
 |o=>Q o
def yz (id:Nat)(Q:Out->Prop):Out->Res Q
 |.ex i L st=>cond (QcA i id) (Q (.go L st)) (Q (.ex i L st))
 |o=>Q o
def uP (v:AV)(a b:Prop):Res (a,b):=match v with | .bool true=>a | .bool false=>b|_=>False
def WS (w:Sl->St->(Out->Prop)->Prop):Nat->Sl->St->(Out->Prop)->Prop
 |0,_,_,_=>False
 |n+1,L,st,Q=>w L st (Qu (λL' st'=>WS w n L' st' Q) Q)
def jcE (r:RV)(L:Sl)(st:St)(K:AV->Prop):Res K:=
 match r with
 |.t x=>has x L=true/\K (look x L)
 |.c1 a=>has a L=true/\jk (jX P (λ_=>look a L) (.ld1 (.t a)) st) λv _=>K v
 |.cA a k=>has a L=true/\jk (jX P (λ_=>look a L) (.ldA k (.t a)) st) λv _=>K v
def yv:(l:List RV)->Sl->St->(K:List AV->Prop)->Res (l,K)
 |[],L,st,K=>K []
 |r :: l,L,st,K=>jcE P r L st λv=>yv l L st λvs=>K (v :: vs)
def Xo (res:List RV)(K:AV->St->Prop):Out->Res K
 |.go L st=>yv P res L st λvs=>K (zB vs) st.bare
 |.rt L st=>yv P res L st λvs=>K (zB vs) st.bare
 |.ex _ _ _=>False
def jj (ps:Lc)(args:List AV):Sl:=ps.map λi=>(i,args.getD i qe)
end
theorem jiQ {ρ ρ':A->AV}{ps:List ((Nat×Nat)×A)}(h:∀ a∈ps.map (·.2),ρ a=ρ' a):(ps.map λp=>(p.1,ρ p.2))=ps.map λp=>(p.1,ρ' p.2):=
 QaR λp hp=>by rw[h p.2 (QaQ.2 ⟨p,hp,rfl⟩)]
theorem Ws {ρ ρ':A->AV}{x:Option A}(h:∀ a∈oA x,ρ a=ρ' a):x.map ρ=x.map ρ':=by
 cases x with
 |none=>rfl
 |some a=>simp[h a (by simp[oA])]
theorem jcU {ρ ρ':A->AV}{x:Option A}(h:∀ a∈oA x,ρ a=ρ' a):(x.map λa=>O (ρ a))=x.map λa=>O (ρ' a):=by
 cases x with
 |none=>rfl
 |some a=>simp[h a (by simp[oA])]
theorem jed {ρ ρ':A->AV}{i:Ins}(h:∀ a∈wk i,ρ a=ρ' a):jX P ρ i st=jX P ρ' i st:=by
 cases i<;>simp only[wk] at h<;>simp only[jX];case build z ps=>rw[jiQ h]
 case buildS len s z ps=>rw[jiQ h]
 case fn f l=>rw[QaR h]
 case bi b ts l=>
  have:(l.map λa=>O (ρ a))=l.map λa=>O (ρ' a):=QaR λa ha=>by rw[h a ha]
  rw[this]
 case slStr x lo hi=>rw[h x hac,Ws (x:=lo) λa ha=>h a (by simp[ha]),Ws (x:=hi) λa ha=>h a (by simp[ha])]
 case slS sz x lo hi=>rw[h x hac,Ws (x:=lo) λa ha=>h a (by simp[ha]),Ws (x:=hi) λa ha=>h a (by simp[ha])]
 case slA n sz x lo hi=>rw[h x hac,Ws (x:=lo) λa ha=>h a (by simp[ha]),Ws (x:=hi) λa ha=>h a (by simp[ha])]
 case sl3 t x lo hi mx=>rw[h x hac,jcU (x:=lo) λa ha=>h a (by simp[ha]),jcU (x:=hi) λa ha=>h a (by simp[ha]),jcU (x:=mx) λa ha=>h a (by simp[ha])]
 all_goals
  first
  |rfl
  |(simp only[QaT,QaL,List.not_mem_nil,or_false,forall_eq_or_imp,forall_eq] at h;first
   |(obtain⟨h1,h2,h3⟩:=h;rw[h1,h2,h3];done)
   |(obtain⟨h1,h2⟩:=h;rw[h1,h2];done)
   |(rw[h];done))
def Fr1 (F:St->ER):Prop:=∀ st v st',F st=.ok v st'->st'.fr=st.fr
theorem Fr1.no:Fr1 λ_=>.no:=λst v st' h=>by cases h
theorem Fr1.pn {f:St->AV}:Fr1 λst=>.pn (f st) st:=λst v st' h=>by cases h
theorem Fr1.ok (v:AV):Fr1 λst=>.ok v st:=λst v' st' h=>by cases h;rfl
theorem Fr1.cond {b:Bool}{F G:St->ER}(hF:Fr1 F)(hG:Fr1 G):Fr1 λst=>cond b (F st) (G st):=by cases b<;>assumption
theorem Fr1.bool {x:AV}{F:Bool->St->ER}(h:∀ b,Fr1 (F b)):Fr1 λst=>Z4 x λb=>F b st:=by
 cases x<;>first|exact h _|exact Fr1.no
theorem Fr1.ptr {x:AV}{F:Nat->Nat->St->ER}(h:∀ b o,Fr1 (F b o)):Fr1 λst=>ya x λb o=>F b o st:=by
 cases x<;>first|exact h _ _|exact Fr1.no
theorem Fr1.agg {x:AV}{F:List AV->St->ER}(h:∀ b,Fr1 (F b)):Fr1 λst=>Qy x λb=>F b st:=by
 cases x<;>first|exact h _|exact Fr1.no
theorem Fr1.str {x:AV}{F:Lc->St->ER}(h:∀ b,Fr1 (F b)):Fr1 λst=>zV x λb=>F b st:=by
 cases x<;>first|exact h _|exact Fr1.no
theorem Fr1.some {α:Type}{x:Option α}{F:α->St->ER}(h:∀ b,Fr1 (F b)):Fr1 λst=>jN x λb=>F b st:=by
 cases x<;>first|exact h _|exact Fr1.no
theorem Fr1.nat {x:AV}(h:∀ b,Fr1 (F b)):Fr1 λst=>qv x λb=>F b st:=by
 unfold qv;split
 .simp only[jF];exact h _
 .exact Fr1.no
theorem Fr1.len {x:AV}(h:∀ b,Fr1 (F b)):Fr1 λst=>JJ x λb=>F b st:=by
 unfold JJ;split
 .exact h _
 .exact h _
 .exact h _
 .simp only[jF];exact h _
 .exact Fr1.no
theorem Fr1.force {n:Nat}(h:∀ b,Fr1 (F b)):Fr1 λst=>force n λb=>F b st:=by
 simp only[jF];exact h _
theorem Fr1.optF {x:Option OF}(h:∀ b,Fr1 (F b)):Fr1 λst=>optF x d env λb=>F b st:=by
 cases x
 .exact h _
 .exact Fr1.nat h
theorem Fr1.optA {x:Option AV}(h:∀ b,Fr1 (F b)):Fr1 λst=>optA x d λb=>F b st:=by
 cases x
 .exact h _
 .exact Fr1.nat h
theorem Fr1.row {b:Nat}{F:Nat->Nat->List AV->T AV->St->ER}(h:∀ n zl z cs,Fr1 (F n zl z cs)):Fr1 λst=>yg (jv st.h b) λn zl z cs=>F n zl z cs st:=λst v st' e=>by
 dsimp only at e;cases hg:jv st.h b with
 |none=>rw[hg] at e;cases e
 |some o=>
  rw[hg] at e;cases o<;>first|(cases e;done)|exact h _ _ _ _ st v st' e
theorem Fr1.map {b:Nat}{F:List (AV×AV)->St->ER}(h:∀ es,Fr1 (F es)):Fr1 λst=>Xz (jv st.h b) λes=>F es st:=λst v st' e=>by
 dsimp only at e;cases hg:jv st.h b with
 |none=>rw[hg] at e;cases e
 |some o=>
  rw[hg] at e;cases o<;>first|(cases e;done)|exact h _ st v st' e
theorem Fr1.alloc (o:AO){F:Nat->AV}:Fr1 λst=>st.alloc o λb st=>.ok (F b) st:=λst v st' h=>by
 dsimp only at h;rw[St.alloc_eq] at h;cases h;rfl
theorem Fr1.put (b:Nat)(o:AO){F:St->ER}(hF:Fr1 F):Fr1 λst=>st.put b o F:=λst v st' h=>by
 dsimp only at h;rw[St.put_eq] at h;have:=hF _ v st' h;exact this
theorem Fr1.newRow (l:List AV):Fr1 λst=>Ev.newRow st l:=by
 unfold Ev.newRow;exact Fr1.force λn=>Fr1.alloc _
theorem Fr1.cells {size n:Nat}{x:AV}{F:List AV->St->ER}(h:∀ l,Fr1 (F l)):Fr1 λst=>firstCells st size n x λl=>F l st:=by
 unfold firstCells;cases x;case slice=>exact Fr1.row λm zl z cs=>Fr1.force λc=>Fr1.cond (h _) Fr1.no
 case nils=>exact h _
 case str=>exact h _
 case lst=>exact Fr1.cond (h _) Fr1.no
 all_goals exact Fr1.no
theorem Fr1.app (size bytes:Nat)(s:AV)(n:Nat)(news:List AV):Fr1 λst=>qO st size bytes s n news:=by
 unfold qO;refine Fr1.cond ?_ Fr1.no;cases s;case nils=>exact Fr1.cond (Fr1.ok _) (Fr1.cond (Fr1.cond (Fr1.force λm=>Fr1.alloc _) Fr1.no) Fr1.no)
 case slice b o sl cap sz ex=>
  refine Fr1.force λneed=>Fr1.row λm zl z cs=>Fr1.cond (Fr1.cond (Fr1.ok _) (Fr1.cond (Fr1.put _ _ (Fr1.ok _)) Fr1.no)) (Fr1.cond (Fr1.cond ?_ Fr1.no) Fr1.no);exact Fr1.cond (Fr1.force λk=>Fr1.cond (Fr1.force λt=>Fr1.alloc _) Fr1.no) (Fr1.cond (Fr1.cond (Fr1.cond (Fr1.put _ _ (Fr1.force λt=>Fr1.alloc _)) Fr1.no) Fr1.no) Fr1.no)
 case xlst=>exact Fr1.cond Fr1.no (Fr1.force λneed=>Fr1.cond (Fr1.cond (Fr1.cond (Fr1.force λt=>Fr1.alloc _) Fr1.no) Fr1.no) Fr1.no)
 all_goals exact Fr1.no
theorem Fr1.of_pu {F:St->ER}(h:Pu F):Fr1 F:=λst v st' e=>by rw[(h st v st' e).1]
theorem jmv (P:Program)(ρ:A->AV)(i:Ins):Fr1 λst=>jX P ρ i st:=by
 cases i;case mv x=>exact Fr1.ok _
 case pick c a b=>exact Fr1.bool λq=>Fr1.ok _
 case alloc z=>exact Fr1.newRow _
 case box x=>exact Fr1.cond (Fr1.newRow _) Fr1.no
 case build z ps=>exact Fr1.some λcs=>Fr1.ok _
 case buildS len s z ps=>exact Fr1.some λcells=>Fr1.cond (Fr1.force λn=>Fr1.alloc _) Fr1.no
 case ld1 a=>
  simp only[jX];generalize ρ a=u;cases u;case lptr=>exact Fr1.cond (Fr1.ok _) Fr1.no
  all_goals exact Fr1.ptr λb o=>Fr1.row λn zl z cs=>Fr1.cond (Fr1.ok _) Fr1.no
 case ldA k a=>
  simp only[jX];generalize ρ a=u;cases u;case lptr=>exact Fr1.cond (Fr1.ok _) Fr1.no
  all_goals exact Fr1.ptr λb o=>Fr1.row λn zl z cs=>Fr1.cond (Fr1.ok _) Fr1.no
 case st k a x=>exact Fr1.ptr λb o=>Fr1.row λn zl z cs=>Fr1.cond (Fr1.cond (Fr1.cond (Fr1.put _ _ (Fr1.ok _)) Fr1.no) Fr1.no) Fr1.no
 case nilc x=>exact Fr1.of_pu (k9 _)
 case bin op x y=>
  simp only[jX];generalize ρ x=u;generalize ρ y=v;cases u<;>cases v<;>first|exact Fr1.no|exact Fr1.cond (Fr1.some λ_=>Fr1.ok _) Fr1.no
 case shf op x y=>
  simp only[jX];generalize ρ x=u;generalize ρ y=v;cases u<;>cases v<;>first|exact Fr1.no|exact Fr1.some λ_=>Fr1.ok _
 case strb op x y=>
  simp only[jX];generalize ρ x=u;generalize ρ y=v;cases u<;>cases v<;>first|exact Fr1.no|exact Fr1.some λ_=>Fr1.ok _
 case gen op t c x y=>exact Fr1.of_pu (jcN _ _ _ _ _)
 case un op x=>exact Fr1.of_pu (jeM _ _)
 case cvt k x=>
  simp only[jX];generalize ρ x=u;cases u<;>first|exact Fr1.no|exact Fr1.ok _
 case conv s d x=>
  simp only[jX];unfold JZ;split
  .dsimp only[O];generalize ρ x=u;cases u<;>first|exact Fr1.no|exact Fr1.ok _
  .exact Fr1.str λs=>Fr1.ok _
  .split
   .dsimp only[O];generalize ρ x=u;cases u;case nils=>exact Fr1.ok _
    case slice b o len cap sz ex=>
     refine Fr1.row λn zl z cs=>Fr1.cond (Fr1.cond (Fr1.some λs=>Fr1.ok _) ?_) Fr1.no;split
     .exact Fr1.cond (Fr1.ok _) Fr1.no
     .exact Fr1.no
    all_goals exact Fr1.no
   .exact Fr1.no
  .split
   .exact Fr1.str λs=>Fr1.force λn=>Fr1.alloc _
   .exact Fr1.no
  .exact Fr1.no
 case iface t x=>exact Fr1.ok _
 case fn f l=>exact Fr1.ok _
 case mkMap=>exact Fr1.alloc _
 case mkS size bytes z l c=>exact Fr1.nat λl=>Fr1.nat λc=>Fr1.cond (Fr1.cond (Fr1.cond (Fr1.force λn=>Fr1.alloc _) Fr1.no) Fr1.no) Fr1.no
 case slStr x lo hi=>exact Fr1.str λs=>Fr1.force λn=>Fr1.optA λl=>Fr1.optA λh=>Fr1.cond (Fr1.cond (Fr1.ok _) Fr1.no) Fr1.no
 case slS sz x lo hi=>
  simp only[jX];generalize ρ x=u;cases u;case nils=>exact Fr1.optA λl=>Fr1.optA λh=>Fr1.cond (Fr1.cond (Fr1.ok _) Fr1.no) Fr1.no
  case slice=>exact Fr1.optA λl=>Fr1.optA λh=>Fr1.cond (Fr1.cond (Fr1.cond (Fr1.force λ_=>Fr1.force λ_=>Fr1.force λ_=>Fr1.ok _) Fr1.no) Fr1.no) Fr1.no
  case lst=>exact Fr1.optA λl=>Fr1.optA λh=>Fr1.cond (Fr1.cond (Fr1.cond (Fr1.ok _) Fr1.no) Fr1.no) Fr1.no
  all_goals exact Fr1.no
 case slA n sz x lo hi=>exact Fr1.ptr λb o=>Fr1.optA λl=>Fr1.optA λh=>Fr1.cond (Fr1.cond (Fr1.force λ_=>Fr1.force λ_=>Fr1.force λ_=>Fr1.ok _) Fr1.no) Fr1.no
 case sl3 t x lo hi mx=>exact Fr1.of_pu (jcK _ _ _ _ _)
 case fad off x=>
  simp only[jX];generalize ρ x=u;cases u;case lptr=>exact Fr1.ok _
  all_goals exact Fr1.ptr λb o=>Fr1.force λ_=>Fr1.ok _
 case fld1 off x=>exact Fr1.agg λcs=>Fr1.cond (Fr1.ok _) Fr1.no
 case fldA off s x=>exact Fr1.agg λcs=>Fr1.ok _
 case idxA n s x i=>exact Fr1.ptr λb o=>Fr1.nat λi=>Fr1.cond (Fr1.force λ_=>Fr1.ok _) Fr1.no
 case idxS s x i=>
  simp only[jX];generalize ρ x=u;cases u;case slice=>exact Fr1.nat λi=>Fr1.cond (Fr1.force λ_=>Fr1.ok _) Fr1.no
  case lst=>exact Fr1.nat λi=>Fr1.cond (Fr1.ok _) Fr1.no
  all_goals exact Fr1.no
 case ixA1 n s x i=>exact Fr1.agg λcs=>Fr1.nat λi=>Fr1.cond (Fr1.cond (Fr1.ok _) Fr1.no) Fr1.no
 case ixAA n s x i=>exact Fr1.agg λcs=>Fr1.nat λi=>Fr1.cond (Fr1.ok _) Fr1.no
 case ixStr x i=>exact Fr1.str λs=>Fr1.nat λi=>Fr1.cond (Fr1.ok _) Fr1.no
 case look t m k ok=>
  simp only[jX];unfold JM;split
  .split
   .dsimp only[O];generalize ρ m=u;cases u;case nilm=>exact Fr1.cond (Fr1.ok _) Fr1.no
    case map r=>
     refine Fr1.cond (Fr1.map λes=>Fr1.some λo=>?_) Fr1.no;cases o<;>exact Fr1.ok _
    all_goals exact Fr1.no
   .exact Fr1.no
  .exact Fr1.no
 case upd t m k v=>
  simp only[jX];unfold zn;split
  .dsimp only[O];generalize ρ m=u;cases u;case map r=>exact Fr1.cond (Fr1.map λes=>Fr1.some λes=>Fr1.put _ _ (Fr1.ok _)) Fr1.no
   all_goals exact Fr1.no
  .exact Fr1.no
 case range x=>exact Fr1.str λs=>Fr1.alloc _
 case next x=>
  intro st v st' h;simp only[jX,ku] at h;generalize (O (ρ x)).run E0=u at h;cases u<;>try(cases h;done)
  rename_i r o;simp only[ya] at h;cases hb:QcA o 0
  .rw[hb] at h;cases h
  .rw[hb] at h;simp only[cond_true] at h;split at h
   .rename_i s pos hg;cases hb2:QcC (jP s) pos
    .rw[hb2] at h;simp only[cond_false,jF] at h;generalize QcC (yt 0 s pos) 127=q at h;cases q
     .cases h
     .simp only[cond_true,St.put_eq] at h;cases h;rfl
    .rw[hb2] at h;cases h;rfl
   .cases h
 case assert x t=>
  simp only[jX];unfold YK;split
  .exact Fr1.no
  .split
   .dsimp only[O];generalize ρ x=u;cases u;case nilif=>exact Fr1.ok _
    case iface=>exact Fr1.some λb=>Fr1.cond (Fr1.ok _) (Fr1.ok _)
    all_goals exact Fr1.no
   .dsimp only[O];generalize ρ x=u;cases u;case nilif=>exact Fr1.ok _
    case iface=>exact Fr1.cond (Fr1.ok _) (Fr1.ok _)
    all_goals exact Fr1.no
   .exact Fr1.no
 case pan x=>
  simp only[jX];generalize ρ x=u;cases u;case iface t v=>exact Fr1.pn (f:=λ_=>.iface t v)
  all_goals exact Fr1.no
 case ext x i=>
  simp only[jX];generalize ρ x=u;cases u;case tup=>exact Fr1.cond (Fr1.ok _) Fr1.no
  all_goals exact Fr1.no
 case len x=>
  simp only[jX];generalize ρ x=u;cases u;case nils=>exact Fr1.ok _
  case slice=>exact Fr1.ok _
  case lst=>exact Fr1.ok _
  all_goals exact Fr1.no
 case lenS x=>
  simp only[jX];generalize ρ x=u;cases u;case str=>exact Fr1.force λ_=>Fr1.ok _
  case zstr=>exact Fr1.ok _
  all_goals exact Fr1.no
 case lenM x=>
  simp only[jX];generalize ρ x=u;cases u;case nilm=>exact Fr1.ok _
  case map=>exact Fr1.map λes=>Fr1.force λ_=>Fr1.ok _
  all_goals exact Fr1.no
 case app size bytes s x=>exact Fr1.len λn=>Fr1.cells λl=>Fr1.app _ _ _ _ _
 case bi b ts l=>
  simp only[jX];unfold qF;split
  .unfold wi;split
   .dsimp only;generalize OF.run _ E0=v;cases v;case str=>exact Fr1.force λ_=>Fr1.ok _
    case zstr=>exact Fr1.ok _
    all_goals exact Fr1.no
   .exact Fr1.ok _
   .dsimp only;generalize OF.run _ E0=v;cases v;case nils=>exact Fr1.ok _
    case slice=>exact Fr1.ok _
    case lst=>exact Fr1.ok _
    all_goals exact Fr1.no
   .dsimp only;generalize OF.run _ E0=v;cases v;case nilm=>exact Fr1.ok _
    case map=>exact Fr1.map λes=>Fr1.force λ_=>Fr1.ok _
    all_goals exact Fr1.no
   .exact Fr1.no
  .unfold UH;split
   .dsimp only;generalize OF.run _ E0=v;cases v;case nils=>exact Fr1.ok _
    case slice b o n c sz ex=>cases ex<;>first|exact Fr1.no|exact Fr1.ok _
    all_goals exact Fr1.no
   .exact Fr1.no
  .unfold QR;split
   .split
    .generalize cond _ _ false=cc;cases cc
     .exact Fr1.no
     .simp only[cond_true];split
      .exact Fr1.nat λn=>Fr1.cond (Fr1.cond (Fr1.app _ _ _ _ _) Fr1.no) Fr1.no
      .exact Fr1.len λn=>Fr1.cells λl=>Fr1.app _ _ _ _ _
      .exact Fr1.len λn=>Fr1.cells λl=>Fr1.app _ _ _ _ _
      .exact Fr1.no
    .exact Fr1.no
   .exact Fr1.no
  .unfold VB;split
   .split
    .refine Fr1.len λn0=>?_;generalize OF.run _ E0=v;cases v;case nils=>exact Fr1.ok _
     case slice=>exact Fr1.force λn=>Fr1.cells λcells=>Fr1.row λm zl z cs=>Fr1.cond (Fr1.put _ _ (Fr1.ok _)) Fr1.no
     all_goals exact Fr1.no
    .exact Fr1.no
   .exact Fr1.no
  .exact Fr1.some λv=>Fr1.ok _
  .exact Fr1.some λv=>Fr1.ok _
  .exact Fr1.no
structure HasO (U:Nat)(ns:Lc)(t:T AV)(rs:List AV)(e:En):Prop where
 l:∀ x,has x e.l=true->(jS U ns (.tmp x)).run ⟨t,rs⟩=look x e.l
 g:∀ x,has x e.g=true->inU U x=true/\(jS U ns (.tmp x)).run ⟨t,rs⟩=look x e.g
 len:ns.length=rs.length
def Qm (U:Nat)(t:T AV)(L:Sl):Prop:=∀ x,has x L=true->inU U x=true/\zI t x=look x L
section
variable {P:Program} {base:Bs} {U:Nat} {ns:Lc} {t:T AV} {rs:List AV} {e:En} {st:St}
theorem gK (U:Nat)(ns:Lc)(t:T AV)(rs:List AV)(x:Nat):(jS U ns (.tmp x)).run ⟨t,rs⟩=match idx x ns with
  |some i=>rs.getD i .bad
  |none=>cond (inU U x) (zI t x) .bad:=by
 simp only[jS,Hm];cases idx x ns with
 |some i=>simp only[Qau,zM]
 |none=>
  simp only[Qbh];cases inU U x
  .rfl
  .simp only[cond_true,zI];cases (QX (jK x)).run t<;>rfl
theorem HasO.of_t {L:Sl}(h:Qm U t L):HasO U [] t [] ⟨[],L⟩:=by
 refine⟨(λx hx=>by cases hx),λx hx=>?_,rfl⟩;obtain⟨h1,h2⟩:=h x hx;refine⟨h1,?_⟩;rw[gK];simp only[idx,h1,cond_true,h2]
theorem HasO.val (h:HasO U ns t rs e){a:A}(ha:okA e a=true):A.val (jS U ns) ⟨t,rs⟩ a=vl e a:=by
 cases a with
 |c v=>rfl
 |t x=>
  simp only[okA,En.has] at ha;simp only[A.val,vl,En.look];cases hl:has x e.l
  .rw[hl] at ha;exact(h.g x ha).2
  .exact h.l x hl
theorem KJ (U:Nat)(ns:Lc)(t:T AV)(rs:List AV):Fair (jS U ns) ⟨t,rs⟩:=⟨λ_=>rfl,λ_=>rfl⟩
theorem jcQ (d:Nat)(v:AV)(x:Nat):(jS U (qA (some d) ns) (.tmp x)).run ⟨t,(yQ (some d)).run v rs⟩=if d=x then v else(jS U ns (.tmp x)).run ⟨t,rs⟩:=by
 rw[gK,gK];simp only[qA,yQ,idx];by_cases h:d=x
 .rw[if_pos h,if_pos h];rfl
 .rw[if_neg h,if_neg h];cases idx x ns with
  |none=>rfl
  |some i=>simp
theorem zP (k:Nat)(v:AV)(L:Sl)(x:Nat):has x ((k,v) :: L)=(decide (k=x) ||has x L):=by
 simp only[has];by_cases h:k=x
 .have:QcA k x=true:=by rw[qJ];exact h
  rw[this];simp[h]
 .have:QcA k x=false:=by
   cases hb:QcA k x
   .rfl
   .rw[qJ] at hb;exact absurd hb h
  rw[this];simp[h]
theorem y7 (k:Nat)(v:AV)(L:Sl)(x:Nat):look x ((k,v) :: L)=if k=x then v else look x L:=by
 simp only[look];by_cases h:k=x
 .have:QcA k x=true:=by rw[qJ];exact h
  rw[this,if_pos h];rfl
 .have:QcA k x=false:=by
   cases hb:QcA k x
   .rfl
   .rw[qJ] at hb;exact absurd hb h
  rw[this,if_neg h];rfl
theorem HasO.push (h:HasO U ns t rs e)(dst:Option Nat)(v:AV) :
  HasO U (qA dst ns) t ((yQ dst).run v rs) (yf dst (match dst with|some d=>inU U d|none=>false) v e):=by
 cases dst with
 |none=>exact h
 |some d=>
  simp only[yf];refine⟨λx hx=>?_,λx hx=>?_,by simp[qA,yQ,h.len]⟩
  .rw[jcQ,y7];rw[zP] at hx;by_cases hd:d=x
   .rw[if_pos hd,if_pos hd]
   .rw[if_neg hd,if_neg hd];simp[hd] at hx;exact h.l x hx
  .rw[jcQ];cases hk:inU U d
   .rw[hk] at hx;simp only[cond_false] at hx ⊢;obtain⟨h1,h2⟩:=h.g x hx;have:¬ d=x:=λe=>by rw[e,h1] at hk;cases hk
    rw[if_neg this];exact⟨h1,h2⟩
   .rw[hk] at hx;simp only[cond_true] at hx ⊢;rw[y7];rw[zP] at hx;by_cases hd:d=x
    .rw[if_pos hd,if_pos hd];exact⟨by rw[<-hd];exact hk,rfl⟩
    .rw[if_neg hd,if_neg hd];simp[hd] at hx;exact h.g x hx
theorem HasO.flush (h:HasO U ns t rs e):Qm U ((zY U ns).run rs t) e.g:=by
 intro x hx;obtain⟨h1,h2⟩:=h.g x hx;refine⟨h1,?_⟩;rw[Uq U ns rs t h.len x h1];rw[gK,h1] at h2;cases hi:idx x ns with
 |none=>rw[hi] at h2;exact h2
 |some i=>rw[hi] at h2;exact h2
theorem jng (h:HasO U ns t rs e){o:Op}{i:Ins}(hl:Yj P o=some i){K:AV->St->Prop}(hw:wI P i e st K) :
  ∃ v st',(jy P (jS U ns) o).run ⟨t,rs⟩ st=.ok v st'/\st'.fr=st.fr/\K v st':=by
 obtain⟨h1,h2⟩:=hw;rw[jme (KJ U ns t rs) hl,jed (ρ':=vl e) λa ha=>h.val (by rw[Qah] at h1;exact h1 a ha)];unfold jk at h2;cases hr:jX P (vl e) i st with
 |no=>rw[hr] at h2;exact h2.elim
 |pn v s=>rw[hr] at h2;exact h2.elim
 |ok v s=>rw[hr] at h2;exact⟨v,s,rfl,jmv P _ i st v s hr,h2⟩
theorem jbE (h:HasO U ns t rs e){ops:Array Oper}{o:Oper}{g:Option (Nat×Bool)}(hl:jmf ops o=some g){a b:Prop}(hw:gW g e a b) :
  (ym (jS U ns) ops o=none/\a)\/∃ wf,ym (jS U ns) ops o=some wf/\((wf.run ⟨t,rs⟩=some true/\a)\/(wf.run ⟨t,rs⟩=some false/\b)):=by
 unfold jmf at hl;unfold ym;cases hg:o.guard with
 |none=>
  rw[hg] at hl;cases hl;exact .inl ⟨rfl,hw⟩
 |some jw=>
  obtain⟨j,want⟩:=jw;rw[hg] at hl;obtain⟨d,h1,rfl⟩:=Go.Sy.map_some hl;right;simp only[h1];obtain⟨h2,h3⟩:=hw;have hv:=h.val (a:=.t d) h2;simp only[A.val,vl] at hv;refine⟨_,rfl,?_⟩;dsimp only;rw[hv];cases hk:e.look d<;>rw[hk] at h3<;>first|(exact h3.elim;done)|(exact .inr ⟨rfl,h3⟩;done)|skip
  rename_i q;cases q<;>cases want<;>simp at h3 ⊢<;>exact h3
theorem HasO.fn (h:HasO U ns t rs e){f:Operand}{fa:A}{args:List Operand}{l:List A}(h1:qT f=some fa)(h2:wN args=some l)(h3:okA e fa=true)(h4:l.all (okA e)=true) :
  (jS U ns f).run ⟨t,rs⟩=vl e fa/\args.map (λx=>(jS U ns x).run ⟨t,rs⟩)=l.map (vl e):=by
 refine⟨(jL (KJ U ns t rs) h1).trans (h.val h3),(Vm (KJ U ns t rs) h2).trans (QaR λa ha=>h.val ?_)⟩;rw[Qah] at h4;exact h4 a ha
theorem uw {ops:Array Oper}{fin:Lc->RD}{pan:Nat->Lc->Lc->AV->St->RD}{abs:Nat->Bool}(i:Nat)(l es ns:Lc){o:Oper}(ho:ops[i]? = some o) :
  yr P U ops fin pan abs (i :: l) es ns=cond (abs i) (U0 o.dst (yr P U ops fin pan abs l (i :: es) (qA o.dst ns)))
   (QK (ym (jS U ns) ops o) o.dst (JI P (jS U ns) (yO P ops i o) (Ev.partners P ops es i o) o (yr P U ops fin pan abs l (i :: es) (qA o.dst ns)) (pan i es ns))
    (yr P U ops fin pan abs l (i :: es) (qA o.dst ns))):=by
 have:yr P U ops fin pan abs (i :: l) es ns=(match ops[i]? with
  |some o=>cond (abs i) (U0 o.dst (yr P U ops fin pan abs l (i :: es) (qA o.dst ns)))
   (QK (ym (jS U ns) ops o) o.dst (JI P (jS U ns) (yO P ops i o) (Ev.partners P ops es i o) o (yr P U ops fin pan abs l (i :: es) (qA o.dst ns)) (pan i es ns))
    (yr P U ops fin pan abs l (i :: es) (qA o.dst ns)))
  |none=>wt):=rfl
 rw[this,ho]
theorem Hp {op:Operand->OF}{o:Op}{env:Env}{v:AV}{st':St}{call:qG}{k:AV->TE->St->R}{kp:AV->St->R}(hc:qy o=none)(he:(jy P op o).run env st=.ok v st')(hr:jY P o=.reads->∃ ty a,o=.load ty a) :
  (opD P op false o).run call env st k kp=k v (JL P op o env v st st') st':=by
 unfold opD JL;rw[hc];dsimp only;cases hcl:jY P o;case reads=>
  obtain⟨ty,a,rfl⟩:=hr hcl;simp only[X6];rw[he]
 all_goals
  simp only[X6,cond_false];rw[he]
theorem Xw {o:Op}(h:jY P o=.reads):∃ ty a,o=.load ty a:=by
 cases o<;>simp only[jY] at h<;>try(cases h;done)
 case load ty a=>exact⟨ty,a,rfl⟩
 case call c=>
  exfalso;split at h
  .split at h
   .split at h<;>cases h
   .cases h
  all_goals cases h
theorem jcR {op:Operand->OF}{o:Op}{env:Env}{v:AV}{st1:St}{call:qG}{k:AV->TE->St->R}{kp:AV->St->R}{f:Operand}{args:List Operand}{fid:FuncId}{caps:List AV}(hc:qy o=some (f,args))
  (hf:(op f).run env=.fn fid caps) (he:call fid (yN (yj (λx=>(op x).run env) args) caps) st=.ok v st1) :
  (opD P op false o).run call env st k kp=k v (.wr st.h (back st st1).h) (back st st1):=by
 unfold opD;rw[hc];simp only[cond_false];rw[hf];dsimp only;rw[he];rfl
theorem UB {ops:Array Oper}{i:Nat}{o:Oper}{lo:List Oper}(h:ops.toList.drop i=o :: lo):ops[i]? = some o/\ops.toList.drop (i+1)=lo/\i<ops.size:=by
 have h1:ops.toList[i]? = some o:=by
  have:=congrArg (λl=>l[0]?) h;simpa using this
 have h2:ops[i]? = some o:=by rw[<-QbM];exact h1
 refine⟨h2,?_,(Qax.1 h2).1⟩;have:=congrArg List.tail h;simpa[List.tail_drop] using this
end
def OutR (U:Nat)(st:St)(r:R):Out->Prop
 |.go L s=>∃ t,r=.go t s/\Qm U t L/\s.fr=st.fr
 |.ex id L s=>∃ t,r=.ex id t s/\Qm U t L/\s.fr=st.fr
 |.rt L s=>∃ t,r=.rt t s/\Qm U t L/\s.fr=st.fr
section
variable {P:Program} {base:Bs} {U:Nat}
theorem OutR.fr {st st':St}{r:R}{o:Out}(h:OutR U st' r o)(hf:st'.fr=st.fr):OutR U st r o:=by
 cases o<;>(obtain⟨t,h1,h2,h3⟩:=h;exact⟨t,h1,h2,h3.trans hf⟩)
theorem gZ (A:CF)(call:qG)(n k:Nat)(t:T AV)(st:St) :
 uG A call n (k+1) t st=match A.run call n t st with | .go env st=>uG A call n k env st|r=>r:=rfl
theorem jgm {r:ResultVar}{rv:RV}(hl:jmd P r=some rv){t:T AV}{L:Sl}{st:St}(ht:Qm U t L){K:AV->Prop}(h:jcE P rv L st K):∃ v,(QO P U r).run ⟨t,[]⟩ st=some v/\K v:=by
 have opd:∀ x,has x L=true->(jS U [] (.tmp x)).run ⟨t,[]⟩=look x L:=λx hx=>((HasO.of_t ht).g x hx).2;cases r with
 |tmp x=>
  cases hl;exact⟨_,by simp only[QO];rw[opd x h.1],h.2⟩
 |cell a ty=>
  simp only[jmd] at hl;simp only[QO];have conv:∀ (q:ER),(match (qV P ty).run (look a L) st.h with|some v=>ER.ok v st|none=>.no)=q->jk q (λv _=>K v)->∃ v,(qV P ty).run (look a L) st.h=some v/\K v:=by
   intro q h1 h2;cases hk:(qV P ty).run (look a L) st.h with
   |none=>rw[hk] at h1;rw[<-h1] at h2;exact h2.elim
   |some v=>rw[hk] at h1;rw[<-h1] at h2;exact⟨v,rfl,h2⟩
  split at hl
  .rename_i k h1 h2;cases hl;obtain⟨h3,h4⟩:=h;rw[opd a h3];refine conv _ ?_ h4
   have:=jav (P:=P) (env:=E0) (st:=st) (a:=O (look a L)) h1 h2;unfold Y1 at this;exact this
  .rename_i k h1 h2;cases hl;obtain⟨h3,h4⟩:=h;rw[opd a h3];refine conv _ ?_ h4
   have:=jau (P:=P) (env:=E0) (st:=st) (a:=O (look a L)) h1 h2;unfold Y1 at this;exact this
  .cases hl
theorem ja5 (r:ResultVar)(l:List ResultVar)(env:Env)(st:St):yD P U (r :: l) env st=match (QO P U r).run env st,yD P U l env st with|some v,some vs=>some (v :: vs)|_,_=>none:=rfl
theorem u1 {t:T AV}{L:Sl}{st:St}(ht:Qm U t L):∀ {l:List ResultVar} {rvs:List RV} {K:List AV->Prop},gY P l=some rvs->yv P rvs L st K->∃ vs,yD P U l ⟨t,[]⟩ st=some vs/\K vs
 |[],rvs,K,hl,h=>by
  cases hl;exact⟨[],rfl,h⟩
 |r :: l,rvs,K,hl,h=>by
  obtain⟨rv,h1,hl⟩:=bind_some hl;obtain⟨rl,h2,rfl⟩:=Go.Sy.map_some hl;obtain⟨v,h3,h4⟩:=jgm h1 ht h;obtain⟨vs,h5,h6⟩:=u1 ht h2 h4;exact⟨v :: vs,by rw[ja5,h3,h5],h6⟩
theorem wg (x:Nat):∀ (l:List AV) (i:Nat) (t:T AV),zI (Ji l i t) x=if i<=x/\x<i+l.length then l.getD (x - i) qe else zI t x
 |[],i,t=>by
  have:¬ (i<=x/\x<i+([]:List AV).length):=by simp
  rw[if_neg this];rfl
 |v :: l,i,t=>by
  have e:Ji (v :: l) i t=Ji l (i+1) ((j2 (jK i)).run v t):=rfl;rw[e,wg x l];by_cases h:i=x
  .subst h;rw[if_neg om,if_pos hac];simp[zI,YH]
  .by_cases h2:i+1<=x/\x<i+1+l.length
   .rw[if_pos h2,if_pos hae];obtain⟨k,hk⟩:∃ k,x - i=k+1:=⟨x - i - 1,om⟩;rw[hk];have:x - (i+1)=k:=om
    rw[this];simp
   .rw[if_neg h2,if_neg hae];simp[zI,YH,show ¬ x=i from λe=>h e.symm]
theorem jg7 {ps:Lc}{args:List AV}{x:Nat}(h:has x (jj ps args)=true):x∈ps/\look x (jj ps args)=args.getD x qe:=by
 induction ps with
 |nil=>cases h
 |cons p ps ih=>
  simp only[jj,ζ] at h ⊢;rw[zP] at h;rw[y7];by_cases hp:p=x
  .subst hp;simp
  .rw[if_neg hp];simp[hp] at h;obtain⟨h1,h2⟩:=ih h;exact⟨by simp[h1],h2⟩
theorem CW.calls (hok:okP P=true)(hdraw:Zd P)(hb:JH P base.run){f:FuncId}{args:List AV}{st:St}{K:AV->St->Prop}(h:CW P base f args st K){ι:Inj}{w:World}{vs:Array Value}(hs:Sim ι st.h st.nx w)(hv:VRs ι args vs.toList) :
  Calls P f vs w λe w'=>∃ v x st',e=.returned x/\K v st'/\Jv ι w st st' v x w':=by
 obtain⟨v,st',⟨N,D,h1⟩,h2⟩:=h;have:=jjx hok hdraw hb N D f args st ι w vs hs hv;rw[h1 N (η _) D (η _)] at this;exact Calls.mono this.2 λe w' ⟨x,h3,h4⟩=>⟨v,x,st',h3,h2,h4⟩
theorem jiR {w:Sl->St->(Out->Prop)->Prop}(hmono:∀ L st Q Q',w L st Q->(∀ o,Q o->Q' o)->w L st Q'){Q:Out->Prop}(I:Nat->Sl->St->Prop)
  (step:∀ k L st,I k L st->w L st (Qu (λL' st'=>∃ k',k'<k/\I k' L' st') Q)):∀ k L st,I k L st->∃ n,WS w n L st Q:=by
 have key:∀ n k,k<n->∀ L st,I k L st->WS w n L st Q:=by
  intro n;induction n with
  |zero=>intro k hk;omega
  |succ n ih=>
   intro k hk L st hI;refine hmono _ _ _ _ (step k L st hI) λo ho=>?_;cases o with
   |go L' st'=>
    obtain⟨k',h1,h2⟩:=ho;exact ih k' om L' st' h2
   |ex i L' st'=>exact ho
   |rt L' st'=>exact ho
 intro k L st hI;exact⟨k+1,key (k+1) k om L st hI⟩
end
section
variable {P:Program} {base:Bs}
theorem jap {r:ER}{K K':AV->St->Prop}(h:jk r K)(hk:∀ v st,K v st->K' v st):jk r K':=by
 cases r with
 |no=>exact h
 |ok v st=>exact hk v st h
 |pn v st=>exact h
theorem kM {g:Option (Nat×Bool)}{e:En}{a b a' b':Prop}(h:gW g e a b)(ha:a->a')(hb:b->b'):gW g e a' b':=by
 cases g with
 |none=>exact ha h
 |some p=>
  obtain⟨x,want⟩:=p;obtain⟨h1,h2⟩:=h;refine⟨h1,?_⟩;cases hk:e.look x<;>rw[hk] at h2<;>first|(exact h2.elim;done)|(exact hb h2;done)|skip
  rename_i q;simp only at h2 ⊢;cases hq:(q == want)
  .rw[hq] at h2;exact hb h2
  .rw[hq] at h2;exact ha h2
theorem H9 {k k':Sl->St->Prop}{Q Q':Out->Prop}(h1:∀ L st,k L st->k' L st)(h2:∀ o,Q o->Q' o):∀ o,Qu k Q o->Qu k' Q' o
 |.go L st,h=>h1 L st h
 |.ex i L st,h=>h2 _ h
 |.rt L st,h=>h2 _ h
theorem jeg {id:Nat}{Q Q':Out->Prop}(h2:∀ o,Q o->Q' o):∀ o,yz id Q o->yz id Q' o
 |.go L st,h=>h2 _ h
 |.ex i L st,h=>by
  simp only[yz] at h ⊢;generalize QcA i id=q at h ⊢;cases q
  .exact h2 _ h
  .exact h2 _ h
 |.rt L st,h=>h2 _ h
theorem K6 {w:Sl->St->(Out->Prop)->Prop}(hw:∀ L st Q Q',w L st Q->(∀ o,Q o->Q' o)->w L st Q'){Q Q':Out->Prop}(h2:∀ o,Q o->Q' o):∀ n L st,WS w n L st Q->WS w n L st Q'
 |0,L,st,h=>h
 |n+1,L,st,h=>hw _ _ _ _ h (H9 (λL st=>K6 hw h2 n L st) h2)
theorem nr {p:Prop}(h:p):p:=h
def um (p:Prop):Prop:=p
theorem vt (k:Sl->St->Prop)(Q:Out->Prop)(L:Sl)(st:St):Qu k Q (.go L st)=k L st:=nr rfl
theorem U5 (k:Sl->St->Prop)(Q:Out->Prop)(i:Nat)(L:Sl)(st:St):Qu k Q (.ex i L st)=Q (.ex i L st):=nr rfl
theorem jeH (k:Sl->St->Prop)(Q:Out->Prop)(L:Sl)(st:St):Qu k Q (.rt L st)=Q (.rt L st):=nr rfl
theorem jae (id:Nat)(Q:Out->Prop)(L:Sl)(st:St):yz id Q (.go L st)=Q (.go L st):=nr rfl
theorem jac (id:Nat)(Q:Out->Prop)(L:Sl)(st:St):yz id Q (.rt L st)=Q (.rt L st):=nr rfl
theorem Uc (id:Nat)(Q:Out->Prop)(L:Sl)(st:St):yz id Q (.ex id L st)=Q (.go L st):=by
 have:QcA id id=true:=by rw[qJ]
 simp only[yz,this,cond_true]
theorem jad {i id:Nat}(h:i≠id)(Q:Out->Prop)(L:Sl)(st:St):yz id Q (.ex i L st)=Q (.ex i L st):=by
 have:QcA i id=false:=by
  cases hb:QcA i id
  .rfl
  .rw[qJ] at hb;exact absurd hb h
 simp only[yz,this,cond_false]
theorem joM (a b:Prop):uP (.bool true) a b=a:=nr rfl
theorem joN (a b:Prop):uP (.bool false) a b=b:=nr rfl
def onG (v:AV)(want:Bool)(a b:Prop):Res (a,b):=
 match v with
 |.bool q=>(match q == want with|true=>a|false=>b)
 |.bad=>False
 |_=>b
def on1 (e:En)(x:A)(F:AV->Prop):Res F:=okA e x=true/\F (vl e x)
theorem jr2 (w:Bool)(a b:Prop):onG qe w a b=b:=nr rfl
theorem jgp (e:En)(v:AV)(F:AV->Prop):on1 e (.c v) F=F v:=by simp[on1,okA,vl]
theorem jgn (x:Nat)(v:AV)(l g:Sl)(F:AV->Prop):on1 ⟨(x,v) :: l,g⟩ (.t x) F=F v:=by
 simp[on1,okA,vl,En.has,En.look,zP,y7]
theorem jix {k x:Nat}(h:k≠x)(v:AV)(l g:Sl)(F:AV->Prop):on1 ⟨(k,v) :: l,g⟩ (.t x) F=on1 ⟨l,g⟩ (.t x) F:=by
 simp[on1,okA,vl,En.has,En.look,zP,y7,h]
theorem jgo (x:Nat)(v:AV)(g:Sl)(F:AV->Prop):on1 ⟨[],(x,v) :: g⟩ (.t x) F=F v:=by
 simp[on1,okA,vl,En.has,En.look,zP,y7,has]
theorem jiy {k x:Nat}(h:k≠x)(v:AV)(g:Sl)(F:AV->Prop):on1 ⟨[],(k,v) :: g⟩ (.t x) F=on1 ⟨[],g⟩ (.t x) F:=by
 simp[on1,okA,vl,En.has,En.look,zP,y7,has,h]
def Has (L:Sl)(x:Nat)(v:AV):Prop:=has x L=true/\look x L=v
theorem ja {L:Sl}{x:Nat}{v:AV}(h:Has L x v)(F:AV->Prop):on1 ⟨[],L⟩ (.t x) F=F v:=by
 obtain⟨h1,h2⟩:=h;simp[on1,okA,vl,En.has,En.look,has,h1,h2]
theorem Has.here (x:Nat)(v:AV)(L:Sl):Has ((x,v) :: L) x v:=by simp[Has,zP,y7]
theorem z0:((0:Nat):Int)=0:=nr rfl
theorem jn (x:Nat)(v:AV)(L:Sl):Has ((x,v) :: L) x v=True:=by simp[Has.here]
theorem je {k x:Nat}(hne:k≠x)(u v:AV)(L:Sl):Has ((k,u) :: L) x v=Has L x v:=by simp[Has,zP,y7,hne]
theorem jeJ (v:AV)(e:En)(kp:Bool):yf none kp v e=e:=nr rfl
theorem Hn (d:Nat)(v:AV)(l g:Sl):yf (some d) false v ⟨l,g⟩=⟨(d,v) :: l,g⟩:=nr rfl
theorem U6 (d:Nat)(v:AV)(l g:Sl):yf (some d) true v ⟨l,g⟩=⟨(d,v) :: l,(d,v) :: g⟩:=nr rfl
theorem k_0 {i:Ins}{V:St->ER}{e:En}{st:St}(h1:wk i=[])(h2:∀ ρ,jX P ρ i st=V st)(K:AV->St->Prop):wK P base (.i i) e st K=jk (V st) K:=by
 simp[wK,wI,h1,h2]
theorem k_1 {i:Ins}{x:A}{V:AV->St->ER}{e:En}{st:St}(h1:wk i=[x])(h2:∀ ρ,jX P ρ i st=V (ρ x) st)(K:AV->St->Prop):wK P base (.i i) e st K=on1 e x λv=>jk (V v st) K:=by
 simp[wK,wI,h1,h2,on1]
theorem k_2 {i:Ins}{x y:A}{V:AV->AV->St->ER}{e:En}{st:St}(h1:wk i=[x,y])(h2:∀ ρ,jX P ρ i st=V (ρ x) (ρ y) st)(K:AV->St->Prop) :
  wK P base (.i i) e st K=on1 e x λv=>on1 e y λu=>jk (V v u st) K:=by
 simp[wK,wI,h1,h2,on1,and_assoc]
theorem k_3 {i:Ins}{x y z:A}{V:AV->AV->AV->St->ER}{e:En}{st:St}(h1:wk i=[x,y,z])(h2:∀ ρ,jX P ρ i st=V (ρ x) (ρ y) (ρ z) st)(K:AV->St->Prop) :
  wK P base (.i i) e st K=on1 e x λv=>on1 e y λu=>on1 e z λt=>jk (V v u t st) K:=by
 simp[wK,wI,h1,h2,on1,and_assoc]
def yE (op:BinOp)(v u:AV)(st:St):ER:=match v,u with
 |.int k a,.int k' b=>cond (eqK k k') (jN ((QN op).run k a b) λv=>.ok v st) .no
 |_,_=>.no
end
def mvV (v:AV)(st:St):ER:=.ok v st
def jgs (c a b:AV)(st:St):ER:=Z4 c λq=>.ok (cond q a b) st
def jmG (v:AV)(st:St):ER:=cond (lall AV.cell v.cells) (Ev.newRow st v.cells) .no
def XW (a:AV)(st:St):ER:=match a with | .lptr cs o=>cond (QcC (QcB o) (jP cs)) (.ok (yt .bad cs o) st) .no|a=>ya a λb o=>yg (jv st.h b) λn zl z cs=>cond (QcC (QcB o) n) (.ok (qD zl z cs o) st) .no
def QV (k:Nat)(a:AV)(st:St):ER:=match a with | .lptr cs o=>cond (QcC (QcD o k) (jP cs)) (.ok (.agg (yl (zp cs o) k)) st) .no|a=>ya a λb o=>yg (jv st.h b) λn zl z cs=>cond (QcC (QcD o k) n) (.ok (.agg (jR zl z cs k o)) st) .no
def stV (k:Nat)(a x:AV)(st:St):ER:=ya a λb o=>yg (jv st.h b) λn zl z cs=>
 cond (QcA (jP x.cells) k) (cond (QcC (QcD o k) n) (cond (lall AV.cell x.cells)
  (st.put b (.row n zl z (qk x.cells cs o)) λst=>.ok qe st) .no) .no) .no
def jgx (x:AV)(st:St):ER:=(Qn (O x)).run E0 st
def WY (op:BinOp)(v u:AV)(st:St):ER:=match v,u with | .int k a,.int _ b=>jN (Z1 op k a b) λv=>.ok v st|_,_=>.no
def Kn (op:BinOp)(v u:AV)(st:St):ER:=match v,u with | .str a,.str b=>jN (ur op a b) λv=>.ok v st|_,_=>.no
def QB (P:Program)(op:BinOp)(t:TypeId)(c:Bool)(v u:AV)(st:St):ER:=(Qk P op t c (O v) (O u)).run E0 st
def unV (op:UnOp)(v:AV)(st:St):ER:=(YR op (O v)).run E0 st
def UF (k:IntKind)(v:AV)(st:St):ER:=match v with | .int _ n=>.ok (.int k (qU k n)) st|_=>.no
def jgV (off:Nat)(v:AV)(st:St):ER:=match v with | .lptr cs o=>.ok (.lptr cs (QcD o off)) st|a=>ya a λb o=>force (QcD o off) λo=>.ok (.ptr b o) st
def jgP (off:Nat)(v:AV)(st:St):ER:=Qy v λcs=>cond (QcC (QcB off) (jP cs)) (.ok (yt .bad cs off) st) .no
def jgO (off s:Nat)(v:AV)(st:St):ER:=Qy v λcs=>.ok (.agg (yl (zp cs off) s)) st
def jgI (n s:Nat)(v i:AV)(st:St):ER:=ya v λb o=>qv i λi=>cond (QcC (QcB i) n) (force (QcD o (QcE i s)) λo=>.ok (.ptr b o) st) .no
def Vq (s:Nat)(v i:AV)(st:St):ER:=match v with
 |.slice b o len _ _ _=>qv i λi=>cond (QcC (QcB i) len) (force (QcD o (QcE i s)) λo=>.ok (.ptr b o) st) .no
 |.lst n cs=>qv i λi=>cond (QcC (QcB i) n) (.ok (.lptr cs (QcE i s)) st) .no
 |_=>.no
def juW (n s:Nat)(v i:AV)(st:St):ER:=Qy v λcs=>qv i λi=>cond (QcC (QcB i) n) (cond (QcC (QcB (QcE i s)) (jP cs)) (.ok (yt .bad cs (QcE i s)) st) .no) .no
def Gf (v i:AV)(st:St):ER:=zV v λs=>qv i λi=>cond (QcC (QcB i) (jP s)) (.ok (.int .u8 (.ofNat (yt 0 s i))) st) .no
def Vw (k:Nat)(v:AV)(st:St):ER:=match v with | .tup vs=>cond (QcC (QcB k) (jP vs)) (.ok (yt .bad vs k) st) .no|_=>.no
def KB (v:AV)(st:St):ER:=match v with
 |.nils=>.ok (.int .i64 (.ofNat 0)) st
 |.slice _ _ n _ _ _=>.ok (.int .i64 (.ofNat n)) st
 |.lst n _=>.ok (.int .i64 (.ofNat n)) st
 |_=>.no
def jgE (v:AV)(st:St):ER:=match v with
 |.str s=>force (jP s) λn=>.ok (.int .i64 (.ofNat n)) st
 |.zstr n=>.ok (.int .i64 (.ofNat n)) st
 |_=>.no
def HP (len s:Nat)(z:List AV)(ps:List ((Nat×Nat)×AV))(st:St):ER:=jN (Ym (qP z len) ps) λcells=>
 cond (lall AV.cell cells) (force (jP cells) λn=>st.alloc (.row n n cells .e) λb st=>.ok (.slice b 0 len len s true) st) .no
def Jz (v:AV)(lo hi:Option AV)(st:St):ER:=zV v λs=>force (jP s) λn=>optA lo 0 λl=>optA hi n λh=>
 cond (QcC l h) (cond (QcC h n) (.ok (.str (yl (zp s l) (QcF h l))) st) .no) .no
section
variable {P:Program} {base:Bs} {e:En} {st:St} {K:AV->St->Prop}
theorem jmo (x:A):wK P base (.i (.mv x)) e st K=on1 e x λv=>K v st:=k_1 (V:=mvV) rfl (λ_=>rfl) K
theorem ji5 (c a b:A):wK P base (.i (.pick c a b)) e st K=on1 e c λv=>on1 e a λu=>on1 e b λt=>jk (jgs v u t st) K:=k_3 rfl (λ_=>rfl) K
theorem jn1 (x:A):wK P base (.i (.box x)) e st K=on1 e x λv=>jk (jmG v st) K:=k_1 rfl (λ_=>rfl) K
theorem jnW (x:A):wK P base (.i (.ld1 x)) e st K=on1 e x λv=>jk (XW v st) K:=k_1 rfl (λ_=>rfl) K
theorem jnV (k:Nat)(x:A):wK P base (.i (.ldA k x)) e st K=on1 e x λv=>jk (QV k v st) K:=k_1 rfl (λ_=>rfl) K
theorem jsv (k:Nat)(a x:A):wK P base (.i (.st k a x)) e st K=on1 e a λv=>on1 e x λu=>jk (stV k v u st) K:=k_2 rfl (λ_=>rfl) K
theorem ji6 (x:A):wK P base (.i (.nilc x)) e st K=on1 e x λv=>jk (jgx v st) K:=k_1 rfl (λ_=>rfl) K
theorem jbD (op:BinOp)(x y:A):wK P base (.i (.bin op x y)) e st K=on1 e x λv=>on1 e y λu=>jk (yE op v u st) K:=k_2 rfl (λ_=>rfl) K
theorem jnT (op:BinOp)(x y:A):wK P base (.i (.shf op x y)) e st K=on1 e x λv=>on1 e y λu=>jk (WY op v u st) K:=k_2 rfl (λ_=>rfl) K
theorem ji0 (op:BinOp)(x y:A):wK P base (.i (.strb op x y)) e st K=on1 e x λv=>on1 e y λu=>jk (Kn op v u st) K:=k_2 rfl (λ_=>rfl) K
theorem jgK (op:BinOp)(t:TypeId)(c:Bool)(x y:A):wK P base (.i (.gen op t c x y)) e st K=on1 e x λv=>on1 e y λu=>jk (QB P op t c v u st) K:=k_2 rfl (λ_=>rfl) K
theorem jsu (op:UnOp)(x:A):wK P base (.i (.un op x)) e st K=on1 e x λv=>jk (unV op v st) K:=k_1 rfl (λ_=>rfl) K
theorem jn0 (k:IntKind)(x:A):wK P base (.i (.cvt k x)) e st K=on1 e x λv=>jk (UF k v st) K:=k_1 rfl (λ_=>rfl) K
theorem jnY (off:Nat)(x:A):wK P base (.i (.fad off x)) e st K=on1 e x λv=>jk (jgV off v st) K:=k_1 rfl (λ_=>rfl) K
theorem jjd (off:Nat)(x:A):wK P base (.i (.fld1 off x)) e st K=on1 e x λv=>jk (jgP off v st) K:=k_1 rfl (λ_=>rfl) K
theorem jjc (off s:Nat)(x:A):wK P base (.i (.fldA off s x)) e st K=on1 e x λv=>jk (jgO off s v st) K:=k_1 rfl (λ_=>rfl) K
theorem jjb (n s:Nat)(x i:A):wK P base (.i (.idxA n s x i)) e st K=on1 e x λv=>on1 e i λu=>jk (jgI n s v u st) K:=k_2 rfl (λ_=>rfl) K
theorem jja (s:Nat)(x i:A):wK P base (.i (.idxS s x i)) e st K=on1 e x λv=>on1 e i λu=>jk (Vq s v u st) K:=k_2 rfl (λ_=>rfl) K
theorem ji9 (n s:Nat)(x i:A):wK P base (.i (.ixA1 n s x i)) e st K=on1 e x λv=>on1 e i λu=>jk (juW n s v u st) K:=k_2 rfl (λ_=>rfl) K
theorem je3 (x i:A):wK P base (.i (.ixStr x i)) e st K=on1 e x λv=>on1 e i λu=>jk (Gf v u st) K:=k_2 rfl (λ_=>rfl) K
theorem jnZ (k:Nat)(x:A):wK P base (.i (.ext x k)) e st K=on1 e x λv=>jk (Vw k v st) K:=k_1 rfl (λ_=>rfl) K
theorem jnU (x:A):wK P base (.i (.len x)) e st K=on1 e x λv=>jk (KB v st) K:=k_1 rfl (λ_=>rfl) K
theorem ji8 (x:A):wK P base (.i (.lenS x)) e st K=on1 e x λv=>jk (jgE v st) K:=k_1 rfl (λ_=>rfl) K
theorem jdh (x lo:A):wK P base (.i (.slStr x (some lo) none)) e st K=on1 e x λv=>on1 e lo λl=>jk (Jz v (some l) none st) K:=k_2 (V:=λv l st=>Jz v (some l) none st) rfl (λ_=>rfl) K
theorem jdg (x hi:A):wK P base (.i (.slStr x none (some hi))) e st K=on1 e x λv=>on1 e hi λl=>jk (Jz v none (some l) st) K:=k_2 (V:=λv l st=>Jz v none (some l) st) rfl (λ_=>rfl) K
theorem jdf (x lo hi:A):wK P base (.i (.slStr x (some lo) (some hi))) e st K=on1 e x λv=>on1 e lo λl=>on1 e hi λh=>jk (Jz v (some l) (some h) st) K:=k_3 (V:=λv l h st=>Jz v (some l) (some h) st) rfl (λ_=>rfl) K
def vP (e:En):List A->(F:List AV->Prop)->Res F
 |[],F=>F []
 |a :: l,F=>on1 e a λv=>vP e l λvs=>F (v :: vs)
theorem Wq (e:En):∀ (l:List A) (F:List AV->Prop),vP e l F=(l.all (okA e)=true/\F (l.map (vl e)))
 |[],F=>by simp[vP]
 |a :: l,F=>by simp[vP,Wq e l,on1,and_assoc]
theorem jnI (F:List AV->Prop):vP e [] F=F []:=nr rfl
theorem jnH (a:A)(l:List A)(F:List AV->Prop):vP e (a :: l) F=on1 e a λv=>vP e l λvs=>F (v :: vs):=nr rfl
theorem jeK (res:List RV)(L:Sl)(s:St):Xo P res K (.rt L s)=yv P res L s λvs=>K (zB vs) s.bare:=nr rfl
theorem jeL (res:List RV)(L:Sl)(s:St):Xo P res K (.go L s)=yv P res L s λvs=>K (zB vs) s.bare:=nr rfl
theorem jiw (L:Sl)(s:St)(F:List AV->Prop):yv P [] L s F=F []:=nr rfl
theorem jiv (x:Nat)(l:List RV)(L:Sl)(s:St)(F:List AV->Prop):yv P (.t x :: l) L s F=on1 ⟨[],L⟩ (.t x) λv=>yv P l L s λvs=>F (v :: vs):=by
 simp only[yv,jcE,on1,okA,vl,En.has,En.look,has,cond_false]
theorem jiB (v:AV):zB [v]=v:=nr rfl
theorem jiA (v u:AV):zB [v,u]=.tup [v,u]:=nr rfl
theorem jiz (v u t:AV):zB [v,u,t]=.tup [v,u,t]:=nr rfl
theorem jro (v:AV)(s:St):jk (.ok v s) K=K v s:=nr rfl
theorem jnn (b:Bool):jk (unV .not (.bool b) st) K=K (.bool (!b)) st:=by cases b<;>rfl
theorem JX (k:IntKind):eqK k k=true:=by cases k<;>rfl
theorem kT {op:BinOp}{f:Int->Int->Bool}(hf:∀ k a b,(QN op).run k a b=some (.bool (f a b)))(k:IntKind)(a b:Int):jk (yE op (.int k a) (.int k b) st) K=K (.bool (f a b)) st:=by
 simp only[yE,JX,cond_true,hf,jN,jk]
theorem jgc (k:IntKind)(a b:Int):jk (yE .lss (.int k a) (.int k b) st) K=K (.bool (decide (a<b))) st:=by
 rw[kT (f:=ltI) (λ_ _ _=>rfl),X7]
theorem jns (k:IntKind)(a b:Int):jk (yE .gtr (.int k a) (.int k b) st) K=K (.bool (decide (b<a))) st:=by
 rw[kT (f:=λa b=>ltI b a) (λ_ _ _=>rfl),X7]
theorem jnp (k:IntKind)(a b:Int):jk (yE .leq (.int k a) (.int k b) st) K=K (.bool (decide (a<=b))) st:=by
 rw[kT (f:=λa b=>cond (ltI b a) false true) (λ_ _ _=>rfl),X7]
 congr 2
 by_cases h:b<a
 .rw[decide_eq_true h,decide_eq_false om];rfl
 .rw[decide_eq_false h,decide_eq_true om];rfl
theorem jnt (k:IntKind)(a b:Int):jk (yE .geq (.int k a) (.int k b) st) K=K (.bool (decide (b<=a))) st:=by
 rw[kT (f:=λa b=>cond (ltI a b) false true) (λ_ _ _=>rfl),X7]
 congr 2
 by_cases h:a<b
 .rw[decide_eq_true h,decide_eq_false om];rfl
 .rw[decide_eq_false h,decide_eq_true om];rfl
theorem jnv (k:IntKind)(a b:Int):jk (yE .eql (.int k a) (.int k b) st) K=K (.bool (decide (a=b))) st:=by
 rw[kT (f:=eqI) (λ_ _ _=>rfl),X9]
theorem jno (k:IntKind)(a b:Int):jk (yE .neq (.int k a) (.int k b) st) K=K (.bool (decide (a≠b))) st:=by
 rw[kT (f:=λa b=>cond (eqI a b) false true) (λ_ _ _=>rfl),X9]
 congr 2
 by_cases h:a=b
 .rw[decide_eq_true h,decide_eq_false (by simpa using h)];rfl
 .rw[decide_eq_false h,decide_eq_true h];rfl
theorem jeo (a b:Lc):jk (Kn .eql (.str a) (.str b) st) K=K (.bool (decide (a=b))) st:=by
 simp only[Kn,ur,jN,jk,JW]
theorem ja0 (s:St):s.bare.bare=s.bare:=nr rfl
theorem ja1 (s:St):back s s=s:=nr rfl
theorem ja2 (s:St):back s s.bare=s:=nr rfl
theorem jrx {a:Nat}(h:a+1<=9223372036854775807):jk (yE .add (.int .i64 (a:Int)) (.int .i64 1) st) K=K (.int .i64 ((a+1:Nat):Int)) st:=by
 have:(QN .add).run .i64 (a:Int) 1=some (.int .i64 ((a+1:Nat):Int)):=by
  show some (AV.int .i64 (qU .i64 (Int.add (a:Int) 1)))=_;rw[Qq,IntWalk.i64_in]
  .rfl
  .constructor
   .have:Int.add (a:Int) 1=(a:Int)+1:=rfl;omega
   .have:Int.add (a:Int) 1=(a:Int)+1:=rfl;omega
 simp only[yE,JX,cond_true,this,jN,jk]
theorem jhZ (s:Lc):jk (jgE (.str s) st) K=K (.int .i64 ((s.length:Nat):Int)) st:=by
 simp only[jgE,jF,jO,jk];rfl
theorem jgd (b o n c s:Nat)(x:Bool):jk (KB (.slice b o n c s x) st) K=K (.int .i64 ((n:Nat):Int)) st:=nr rfl
theorem jcn:jk (KB .nils st) K=K (.int .i64 0) st:=nr rfl
theorem jos {s:Lc}{i:Nat}(h:i<s.length)(k:IntKind):jk (Gf (.str s) (.int k (i:Int)) st) K=K (.int .u8 ((s.getD i 0:Nat):Int)) st:=by
 have:QcC (QcB i) s.length=true:=by rw[qi];omega
 have e:qv (.int k (i:Int))=λF=>F i:=by funext F;show(force i F)=F i;rw[jF]
 simp only[Gf,zV,e,jO,this,cond_true,zM,jk];rfl
theorem jru {b o n c z:Nat}{x:Bool}{i:Nat}(h:i<n)(s:Nat)(k:IntKind):jk (Vq s (.slice b o n c z x) (.int k (i:Int)) st) K=K (.ptr b (o+i * s)) st:=by
 have:QcC (QcB i) n=true:=by rw[qi];omega
 have e:qv (.int k (i:Int))=λF=>F i:=by funext F;show(force i F)=F i;rw[jF]
 simp only[Vq,e,this,cond_true,jF,jk];rfl
def jV (h:T AO)(b:Nat):Nat:=match jv h b with|some (.row n _ _ _)=>n|_=>0
def rat (h:T AO)(b i:Nat):AV:=match jv h b with|some (.row _ zl z cs)=>qD zl z cs i|_=>.bad
theorem jcB (h:T AO)(b n zl:Nat)(z:List AV)(cs:T AV)(c:Nat):jV ((j2 (jK b)).run (.row n zl z cs) h) c=if c=b then n else jV h c:=by
 unfold jV;rw[jW];by_cases hc:c=b
 .rw[if_pos hc,if_pos hc]
 .rw[if_neg hc,if_neg hc]
theorem jeG (h:T AO)(b n zl:Nat)(z:List AV)(cs:T AV)(c i:Nat):rat ((j2 (jK b)).run (.row n zl z cs) h) c i=if c=b then qD zl z cs i else rat h c i:=by
 unfold rat;rw[jW];by_cases hc:c=b
 .rw[if_pos hc,if_pos hc]
 .rw[if_neg hc,if_neg hc]
structure Ext (st st':St):Prop where
 nx:st.nx<=st'.nx
 fr:st'.fr=[]
 keep:∀ b,b<st.nx->jv st'.h b=jv st.h b
theorem Ext.bare (st:St):Ext st st.bare:=⟨η _,rfl,λ_ _=>rfl⟩
theorem Ext.trans {a b c:St}(h:Ext a b)(k:Ext b c):Ext a c:=⟨χ h.nx k.nx,k.fr,λx hx=>(k.keep x (Qat hx h.nx)).trans (h.keep x hx)⟩
theorem jnq {b o:Nat}(h:o<jV st.h b):jk (XW (.ptr b o) st) K=K (rat st.h b o) st:=by
 unfold jV at h;unfold rat;simp only[XW,ya];cases hg:jv st.h b with
 |none=>rw[hg] at h;exact absurd h (QaI _)
 |some ob=>
  rw[hg] at h;cases ob<;>try(exact absurd h (QaI _))
  rename_i n zl z cs;have:QcC (QcB o) n=true:=by rw[qi];exact h
  simp only[yg,this,cond_true,jk]
end
section
variable {P:Program} {base:Bs} {st:St} {K:AV->St->Prop} {e:En}
theorem jbP {op:BinOp}{k:IntKind}{a b:Int}{v:AV}(h:(QN op).run k a b=some v):jk (yE op (.int k a) (.int k b) st) K=K v st:=by
 simp only[yE,JX,cond_true,h,jN,jk]
theorem jcl {k:Nat}(h:k<=62):jk (WY .shl (.int .i64 1) (.int .i64 (k:Int)) st) K=K (.int .i64 ((2 ^ k:Nat):Int)) st:=by
 have h0:ltI (k:Int) (.ofNat 0)=false:=rfl;have h1:min (k:Int).toNat IntKind.i64.bits=k:=by
  show min k 64=k;omega
 have h2:(1:Int) * 2 ^ k=((2 ^ k:Nat):Int):=by rw[Int.one_mul];simp
 have h3:2 ^ k<=2 ^ 62:=Qbu dc h;have h4:IntKind.i64.wrap ((2 ^ k:Nat):Int)=((2 ^ k:Nat):Int):=by
  generalize 2 ^ k=q at h3;exact IntWalk.i64_in _ ⟨om,om⟩
 simp only[WY,Z1,h0,cond_false,h1,h2,h4,jN,jk]
theorem juc {a:Int}{k:Nat}(h:k<=64):jk (WY .shr (.int .i64 a) (.int .i64 (k:Int)) st) K=K (.int .i64 (a.fdiv (2 ^ k))) st:=by
 have h0:ltI (k:Int) (.ofNat 0)=false:=rfl;have h1:min (k:Int).toNat IntKind.i64.bits=k:=by
  show min k 64=k;omega
 simp only[WY,Z1,h0,cond_false,h1,jN,jk]
theorem z1:((1:Nat):Int)=1:=nr rfl
end
section
variable {P:Program} {base:Bs} {st:St} {K:AV->St->Prop} {e:En}
def vf (h:T AO)(b:Nat):Prop:=∃ n zl z cs,jv h b=some (.row n zl z cs)
theorem Xi {h:T AO}{b:Nat}(k:0<jV h b):vf h b:=by
 unfold jV at k;cases hg:jv h b with
 |none=>rw[hg] at k;exact absurd k (Qba _)
 |some o=>
  rw[hg] at k;cases o<;>try(exact absurd k (Qba _))
  exact⟨_,_,_,_,hg⟩
theorem yV {h:T AO}{b n zl:Nat}{z:List AV}{cs:T AV}(e:jv h b=some (.row n zl z cs)):jV h b=n:=by unfold jV;rw[e]
theorem J8 {h:T AO}{b n zl:Nat}{z:List AV}{cs:T AV}(e:jv h b=some (.row n zl z cs))(i:Nat):rat h b i=qD zl z cs i:=by unfold rat;rw[e]
theorem yo {h h':T AO}{b:Nat}(e:jv h' b=jv h b):jV h' b=jV h b:=by unfold jV;rw[e]
theorem yx {h h':T AO}{b:Nat}(e:jv h' b=jv h b)(i:Nat):rat h' b i=rat h b i:=by unfold rat;rw[e]
theorem Jo {h h':T AO}{b:Nat}(e:jv h' b=jv h b)(k:vf h b):vf h' b:=by unfold vf;rw[e];exact k
structure Made (st st':St)(n:Nat)(f:Nat->AV):Prop where
 nx:st'.nx=st.nx+1
 fr:st'.fr=st.fr
 keep:∀ c,c≠st.nx->jv st'.h c=jv st.h c
 row:vf st'.h st.nx
 len:jV st'.h st.nx=n
 cell:∀ i,i<n->rat st'.h st.nx i=f i
theorem jmc {n zl:Nat}{z:List AV}{cs:T AV}{f:Nat->AV}(hf:∀ i,i<n->qD zl z cs i=f i) :
  Made st ⟨st.nx+1,(j2 (jK st.nx)).run (.row n zl z cs) st.h,st.dirty,st.fr⟩ n f:=by
 refine⟨rfl,rfl,λc hc=>?_,?_,?_,λi hi=>?_⟩
 .show jv ((j2 (jK st.nx)).run _ st.h) c=_;rw[jW,if_neg hc]
 .exact⟨n,zl,z,cs,by rw[jW,if_pos rfl]⟩
 .rw[jcB,if_pos rfl]
 .rw[jeG,if_pos rfl];exact hf i hi
def jgA (size bytes:Nat)(z:List AV)(l c:AV)(st:St):ER:=qv l λl=>qv c λc=>
 cond (QcC l c) (cond (QcC (QcE bytes c) 140737488355328) (cond (QcC c 9223372036854775807)
  (force (QcE c size) λn=>st.alloc (.row n size z .e) λb st=>.ok (.slice b 0 l c size true) st) .no) .no) .no
theorem Vr (size bytes:Nat)(z:List AV)(l c:A):wK P base (.i (.mkS size bytes z l c)) e st K=on1 e l λv=>on1 e c λu=>jk (jgA size bytes z v u st) K:=k_2 rfl (λ_=>rfl) K
theorem je4 (z:List AV):wK P base (.i (.alloc z)) e st K=jk (Ev.newRow st z) K:=k_0 (V:=λst=>Ev.newRow st z) rfl (λ_=>rfl) K
def WD (z:List AV)(ps:List ((Nat×Nat)×AV))(st:St):ER:=jN (Ym z ps) λcs=>.ok (.agg cs) st
def JG (size bytes:Nat)(s x:AV)(st:St):ER:=JJ x λn=>firstCells st size n x λnews=>qO st size bytes s n news
theorem jn3 (size bytes:Nat)(s x:A):wK P base (.i (.app size bytes s x)) e st K=on1 e s λv=>on1 e x λu=>jk (JG size bytes v u st) K:=k_2 rfl (λ_=>rfl) K
theorem Wp {k:IntKind}{n:Nat}{F:Nat->ER}:qv (.int k (n:Int)) F=F n:=by show force n F=F n;rw[jF]
theorem qo {a b:Nat}(h:a<=b):QcC a b=true:=by rw[qi];exact h
theorem jbO {a b:Nat}(h:b<a):QcC a b=false:=by
 cases hb:QcC a b
 .rfl
 .rw[qi] at hb;omega
theorem XT {a b:Nat}(h:a=b):QcA a b=true:=by rw[qJ];exact h
theorem jhn {a b:Nat}(h:a≠b):QcA a b=false:=by
 cases hb:QcA a b
 .rfl
 .rw[qJ] at hb;exact absurd hb h
theorem ki {size bytes l c:Nat}{z:List AV}{k k':IntKind}(h1:l<=c)(h2:bytes * c<=140737488355328)(h3:c<=9223372036854775807)
  (hk:∀ st',Made st st' (c * size) (λi=>z.getD (i % size) .bad)->K (.slice st.nx 0 l c size true) st'):jk (jgA size bytes z (.int k (l:Int)) (.int k' (c:Int)) st) K:=by
 have e2:QcC (QcE bytes c) 140737488355328=true:=qo h2;simp only[jgA,Wp,qo h1,e2,qo h3,cond_true,jF,St.alloc_eq,jk];refine hk _ (jmc λi _=>?_);rw[yP,XM];rfl
def One (v:AV):Prop:=v.cells=[v]/\v.plain=true/\v.cell=true
theorem One.lall {v:AV}(h:One v):lall AV.cell [v]=true:=by
 simp only[Ev.lall,h.2.2,cond_true]
end
section
variable {P:Program} {base:Bs} {st:St} {K:AV->St->Prop} {e:En}
theorem jnu (off b o:Nat):jk (jgV off (.ptr b o) st) K=K (.ptr b (o+off)) st:=by
 simp only[jgV,ya,jF,jk];rfl
theorem jhT (b o:Nat):jk (jgx (.ptr b o) st) K=K (.ptr b o) st:=nr rfl
theorem jh4 (a b:AV):jk (Vw 0 (.tup [a,b]) st) K=K a st:=nr rfl
theorem jh3 (a b:AV):jk (Vw 1 (.tup [a,b]) st) K=K b st:=nr rfl
theorem K9 {a:Nat}(h:a<=4294967295):jk (yE .quo (.int .u32 (a:Int)) (.int .u32 2) st) K=K (.int .u32 ((a / 2:Nat):Int)) st:=by
 refine jbP ?_;show some (AV.int .u32 (qU .u32 (((a / 2:Nat):Int))))=_;rw[Qq,IntWalk.u32_in _ ⟨om,om⟩]
theorem jrm {a:Nat}:jk (yE .rem (.int .u32 (a:Int)) (.int .u32 2) st) K=K (.int .u32 ((a % 2:Nat):Int)) st:=
 jbP (show some (AV.int .u32 ((a % 2:Nat):Int))=_ from rfl)
theorem jot {a:Nat}(h:a<=4294967295):jk (UF .u32 (.int .i64 (a:Int)) st) K=K (.int .u32 (a:Int)) st:=by
 simp only[UF,jk,Qq];rw[IntWalk.u32_in _ ⟨om,om⟩]
theorem jet {a:Nat}(h:a<=4294967295):jk (UF .i64 (.int .u32 (a:Int)) st) K=K (.int .i64 (a:Int)) st:=by
 simp only[UF,jk,Qq];rw[IntWalk.i64_in _ ⟨om,om⟩]
end
section
variable {P:Program} {base:Bs} {st:St} {K:AV->St->Prop} {e:En}
def gT (st:St):ER:=st.alloc (.map []) λb st=>.ok (.map b) st
theorem juZ:wK P base (.i .mkMap) e st K=jk (gT st) K:=k_0 (V:=gT) rfl (λ_=>rfl) K
end
structure Gate (h:T AO)(nx g p m:Nat):Prop where
 g_lt:g<nx
 p_lt:p<nx
 glen:jV h g=3
 g0:rat h g 0=.slice p 0 1 1 2 true
 g1:rat h g 1=.nils
 plen:jV h p=2
 p0:rat h p 0=.int .u32 0
 p1:rat h p 1=.int .u32 0
theorem Gate.keep {h h':T AO}{nx nx' g p m:Nat}(k:Gate h nx g p m)(hk:∀ c,c<nx->jv h' c=jv h c)(hn:nx<=nx'):Gate h' nx' g p m:=
 ⟨Qat k.g_lt hn,Qat k.p_lt hn,(yo (hk g k.g_lt)).trans k.glen,(yx (hk g k.g_lt) 0).trans k.g0,(yx (hk g k.g_lt) 1).trans k.g1,
  (yo (hk p k.p_lt)).trans k.plen,(yx (hk p k.p_lt) 0).trans k.p0,(yx (hk p k.p_lt) 1).trans k.p1⟩
inductive XK where
 |i (i:Ins)
 |call (f:A) (l:List A)
 |pan (x:A)
 |defer (f:A) (l:List A)
structure XS where
 dst:Option Nat
 keep:Bool
 g:Option (Nat×Bool)
 k:XK
structure XD where
 s:XS
 te:Option (Option A)
 lt:TypeId
 prt:List (Nat×TypeId)
inductive XC where
 |skip
 |ops (l:List XS)
 |cops (l:List (XS×Option (List XD)))
 |dops (l:List (XD×Option (List XD)))
 |seq (a b:XC)
 |cond (x:A) (a b:XC)
 |block (id:Nat) (c:XC)
 |loop (c:XC)
 |exit (id:Nat)
 |ret
structure XF where
 ps:Lc
 body:XC
 res:List RV
structure XH where
 ps:Lc
 dst:Option Nat
 keep:Bool
 ops:List XS
 body:XC
 res:List RV
def gV (P:Program)(o:Op):Option XK:=
 match qy o with
 |some (f,args)=>(qT f).bind λf=>(wN args).map λl=>.call f l
 |none=>match o with
  |.panic x=>(qT x).map .pan
  |.defer c=>(match c.callee with | .value f=>(qT f).bind λf=>(wN c.args.toList).map λl=>.defer f l|_=>none)
  |o=>(Yj P o).map .i
def X8 (U:Nat)(dst:Option Nat):Bool:=match dst with|some d=>inU U d|none=>false
def jbA (P:Program)(U:Nat)(ops:Array Oper)(o:Oper):Option XS:=
 (gV P o.op).bind λk=>(jmf ops o).map λg=>⟨o.dst,X8 U o.dst,g,k⟩
def kD (P:Program)(U:Nat)(ops:Array Oper):List Oper->Option (List XS)
 |[]=>some []
 |o :: l=>(jbA P U ops o).bind λs=>(kD P U ops l).map λl=>s :: l
def Uj (P:Program)(U:Nat)(ops:Array Oper)(i:Nat):Nat->List Oper->Option (List XD)
 |_,[]=>some []
 |k,o :: l=>cond (JK ops i k) ((Uj P U ops i (k+1) l).map λl=>⟨⟨o.dst,X8 U o.dst,none,.i (.mv (.c qe))⟩,none,0,[]⟩ :: l)
  (cond (yO P ops k o) none (match qy o.op with
   |some _=>none
   |none=>(jbA P U ops o).bind λs=>(jcX P o.op).bind λte=>(Uj P U ops i (k+1) l).map λl=>⟨s,te,Qz o.op,Ev.partners P ops (qC k) k o⟩ :: l))
def vS (P:Program)(U:Nat)(ops:Array Oper)(i:Nat)(lo:List Oper):Option (List XD):=
 cond (jbt P U ops i) (cond ((Qag i (QcF ops.size i)).all (JK ops i)) (some []) (Uj P U ops i i lo)) none
def kB (P:Program)(U:Nat)(ops:Array Oper)(i:Nat)(lo:List Oper):Option (List XD):=
 (vS P U ops i lo).bind λl=>cond (l.all λs=>s.prt.isEmpty) (some l) none
def Hx (P:Program)(U:Nat)(ops:Array Oper):Nat->List Oper->Option (List (XS×Option (List XD)))
 |_,[]=>some []
 |i,o :: lo=>(jbA P U ops o).bind λs=>(Hx P U ops (i+1) lo).map λl=>(s,match qy o.op with|some _=>kB P U ops i (o :: lo)|none=>none) :: l
def jbB (P:Program)(U:Nat)(ops:Array Oper):Nat->List Oper->Option (List (XD×Option (List XD)))
 |_,[]=>some []
 |i,o :: lo=>cond (yO P ops i o) none ((jbA P U ops o).bind λs=>(jcX P o.op).bind λte=>(jbB P U ops (i+1) lo).map λl=>(⟨s,te,Qz o.op,Ev.partners P ops (qC i) i o⟩,match qy o.op with|some _=>vS P U ops i (o :: lo)|none=>none) :: l)
def Vh (P:Program)(U:Nat):Code->Option XC
 |.skip=>some .skip
 |.region _ ops d=>(match d with
  |false=>(kD P U ops ops.toList).map .ops
  |true=>cond (Jx P ops) (cond (calm P ops 0 ops.toList) ((Hx P U ops 0 ops.toList).map .cops) ((jbB P U ops 0 ops.toList).map .dops)) none)
 |.seq a b=>(Vh P U a).bind λa=>(Vh P U b).map λb=>.seq a b
 |.cond x a b=>(qT x).bind λx=>(Vh P U a).bind λa=>(Vh P U b).map λb=>.cond x a b
 |.block id a=>(Vh P U a).map λa=>.block id a
 |.loop a=>(Vh P U a).map λa=>.loop a
 |.exit id=>some (.exit id)
 |.ret=>some .ret
 |_=>none
def jx (P:Program)(f:FuncId):Option XF:=
 match P.funcs[f]? with
 |some fn=>(match fn.body with
  |some c=>(Vh P (yc fn c) c).bind λb=>(gY P fn.results.toList).map λr=>⟨(ω (fn.params.size+fn.nfree)).filter (inU (yc fn c)),b,r⟩
  |none=>none)
 |none=>none
def gX (P:Program)(f:FuncId):Option XH:=
 match P.funcs[f]? with
 |some fn=>(match fn.body with
  |some (.seq (.region id ops false) c)=>(match ops.toList with
   |o :: l=>cond (uI o) ((kD P (yc fn (.seq (.region id ops false) c)) ops l).bind λq=>(Vh P (yc fn (.seq (.region id ops false) c)) c).bind λb=>(gY P fn.results.toList).map λr=>
    ⟨(ω (fn.params.size+fn.nfree)).filter (inU (yc fn (.seq (.region id ops false) c))),o.dst,X8 (yc fn (.seq (.region id ops false) c)) o.dst,q,b,r⟩) none
   |[]=>none)
  |_=>none)
 |none=>none
def XK.nd:XK->Bool | .defer _ _=>false|_=>true
def XC.nd:XC->Bool
 |.ops l=>l.all λs=>s.k.nd
 |.cops l=>l.all λs=>s.1.k.nd
 |.dops l=>l.all λs=>s.1.s.k.nd
 |.seq a b=>_root_.cond a.nd b.nd false
 |.cond _ a b=>_root_.cond a.nd b.nd false
 |.block _ a=>a.nd
 |.loop a=>a.nd
 |_=>true
def ZM (r:ER)(K Kp:AV->St->Prop):Prop:=match r with | .ok v st=>K v st | .pn v st=>Kp v st | .no=>False
def CX (P:Program)(base:Bs)(f:FuncId)(args:List AV)(st:St)(K Kp:AV->St->Prop):Res (K,Kp):=
 ∃ r,(∃ N D,∀ n,N<=n->∀ d,D<=d->evC P base n d f args st=r)/\ZM r K Kp
theorem CW.cx {base:Bs}(h:CW P base f args st K):CX P base f args st K Kp:=by
 obtain⟨v,st',h1,h2⟩:=h;exact⟨_,h1,h2⟩
theorem jgu {r:ER}(h:ZM r K Kp)(h1:∀ v s,K v s->K' v s)(h2:∀ v s,Kp v s->Kp' v s):ZM r K' Kp':=by
 cases r with
 |no=>exact h
 |ok v s=>exact h1 v s h
 |pn v s=>exact h2 v s h
theorem CX.mono {base:Bs}(h:CX P base f args st K Kp)(h1:∀ v s,K v s->K' v s)(h2:∀ v s,Kp v s->Kp' v s):CX P base f args st K' Kp':=by
 obtain⟨r,h3,h4⟩:=h;exact⟨r,h3,jgu h4 h1 h2⟩
theorem CX.cw {base:Bs}(h:CX P base f args st K λ_ _=>False):CW P base f args st K:=by
 obtain⟨r,h3,h4⟩:=h;cases r with
 |no=>exact h4.elim
 |pn v s=>exact h4.elim
 |ok v s=>exact⟨v,s,h3,h4⟩
def DX (P:Program)(base:Bs)(f:FuncId)(args:List AV)(m:Md)(st:St)(K:Md->St->Prop):Res K:=
 ∃ m' st',(∃ N D,∀ n,N<=n->∀ d,D<=d->(yT P f).run (evC P base n d) n args m st=.ok m' st')/\K m' st'
section
variable (P:Program) (base:Bs)
def w6 (fv:AV)(vs:List AV)(st:St)(K Kp:AV->St->Prop):Res (K,Kp):=
 match fv with
 |.fn f caps=>CX P base f (vs ++ caps) st (λv st'=>K v (back st st')) (λv st'=>Kp v (back st st'))
 |_=>False
def jcO (v:AV)(st:St)(Kp:AV->St->Prop):Res Kp:=match v with | .iface t u=>Kp (.iface t u) st|_=>False
def UC (fv:AV)(vs:List AV)(st:St)(K:AV->St->Prop):Res K:=
 match fv with
 |.fn f caps=>K qe ⟨st.nx,st.h,st.dirty,(f,vs ++ caps) :: st.fr⟩
 |_=>False
def xK (k:XK)(e:En)(st:St)(K Kp:AV->St->Prop):Res (k,K,Kp):=
 match k with
 |.i i=>wI P i e st K
 |.call f l=>okA e f=true/\l.all (okA e)=true/\w6 P base (vl e f) (l.map (vl e)) st K Kp
 |.pan x=>okA e x=true/\jcO (vl e x) st Kp
 |.defer f l=>okA e f=true/\l.all (okA e)=true/\UC (vl e f) (l.map (vl e)) st K
def xO:(l:List XS)->En->St->(K:En->St->Prop)->(Kp:AV->Sl->St->Prop)->Res (l,K,Kp)
 |[],e,st,K,Kp=>K e st
 |s :: l,e,st,K,Kp=>gW s.g e (xK P base s.k e st (λv st'=>xO l (yf s.dst s.keep v e) st' K Kp) λv st'=>Kp v e.g st') (xO l (yf s.dst s.keep qe e) st K Kp)
def xRK (k:XK)(e:En)(st:St)(K:AV->St->Prop):Res (k,K):=match k with | .i i=>wI P i e st K|_=>False
def xR:(l:List XD)->En->List TE->St->Res l
 |[],e,tb,st=>True
 |s :: l,e,tb,st=>gW s.s.g e (xRK P s.s.k e st λv st'=>held P s.lt (teW s.te e v st st') tb s.prt=true/\xR l (yf s.s.dst s.s.keep v e) (teW s.te e v st st' :: tb) st') (xR l (yf s.s.dst s.s.keep qe e) (.none :: tb) st)
def XO (b:Option (List XD))(e:En)(tb:List TE)(st:St)(p:Prop):Res (b,p):=match b with|some l=>xR P l e tb st/\p|none=>False
def xCO (L0:Sl):(l:List (XS×Option (List XD)))->En->St->(K:En->St->Prop)->(Kp:AV->Sl->St->Prop)->Res (l,K,Kp)
 |[],e,st,K,Kp=>K e st
 |s :: l,e,st,K,Kp=>gW s.1.g e (xK P base s.1.k e st (λv st'=>xCO L0 l (yf s.1.dst s.1.keep v e) st' K Kp) λv st'=>XO P s.2 e [] st (Kp v L0 st')) (xCO L0 l (yf s.1.dst s.1.keep qe e) st K Kp)
def xDO (L0:Sl):(l:List (XD×Option (List XD)))->En->List TE->St->(K:En->St->Prop)->(Kp:AV->Sl->St->Prop)->Res (l,K,Kp)
 |[],e,tb,st,K,Kp=>K e st
 |s :: l,e,tb,st,K,Kp=>gW s.1.s.g e
  (xK P base s.1.s.k e st (λv st'=>held P s.1.lt (teW s.1.te e v st st') tb s.1.prt=true/\xDO L0 l (yf s.1.s.dst s.1.s.keep v e) (teW s.1.te e v st st' :: tb) st' K Kp) λv st'=>XO P s.2 e tb st (Kp v L0 st'))
  (xDO L0 l (yf s.1.s.dst s.1.s.keep qe e) (.none :: tb) st K Kp)
def xC:(c:XC)->Sl->St->(Q:Out->Prop)->(Kp:AV->Sl->St->Prop)->Res (c,Q,Kp)
 |.skip,L,st,Q,Kp=>Q (.go L st)
 |.ops l,L,st,Q,Kp=>xO P base l ⟨[],L⟩ st (λe st'=>Q (.go e.g st')) Kp
 |.cops l,L,st,Q,Kp=>xCO P base L l ⟨[],L⟩ st (λe st'=>Q (.go e.g st')) Kp
 |.dops l,L,st,Q,Kp=>xDO P base L l ⟨[],L⟩ [] st (λe st'=>Q (.go e.g st')) Kp
 |.seq a b,L,st,Q,Kp=>xC a L st (Qu (λL' st'=>xC b L' st' Q Kp) Q) Kp
 |.cond x a b,L,st,Q,Kp=>okA ⟨[],L⟩ x=true/\uP (vl ⟨[],L⟩ x) (xC a L st Q Kp) (xC b L st Q Kp)
 |.block id a,L,st,Q,Kp=>xC a L st (yz id Q) Kp
 |.loop a,L,st,Q,Kp=>∃ n,WS (λL st Q=>xC a L st Q Kp) n L st Q
 |.exit id,L,st,Q,Kp=>Q (.ex id L st)
 |.ret,L,st,Q,Kp=>Q (.rt L st)
def yM (res:List RV)(K Kp:AV->St->Prop):(ds:List (FuncId×List AV))->Sl->St->Md->Res (ds,K,Kp)
 |[],L,st,m=>(match m with
  |.calm=>yv P res L st λvs=>K (zB vs) st
  |.pan v=>Kp v st
  |.done=>False)
 |d :: ds,L,st,m=>DX P base d.1 d.2 m st.bare λm' st'=>(match m' with
  |.calm=>yM res K Kp ds L st'.bare .calm
  |.pan v=>yM res K Kp ds L st'.bare (.pan v)
  |.done=>yM res K Kp ds L st'.bare .calm)
def UA (res:List RV)(K Kp:AV->St->Prop):Out->Res (K,Kp)
 |.go L st=>yM P base res K Kp st.fr L st.bare .calm
 |.rt L st=>yM P base res K Kp st.fr L st.bare .calm
 |.ex _ _ _=>False
def vO (res:List RV)(K Kp:AV->St->Prop)(v:AV)(L:Sl)(st:St):Res (K,Kp):=yM P base res K Kp st.fr L st.bare (.pan v)
def jg8 (res:List RV)(m:Md)(K:Md->St->Prop):Out->Res K
 |.go L st=>yv P res L st λ_=>K m st
 |.rt L st=>yv P res L st λ_=>K m st
 |.ex _ _ _=>False
end
section
variable {P:Program} {base:Bs} {U:Nat} {t:T AV}
def RX (U:Nat)(nd:Bool)(st:St)(r:R)(Q:Out->Prop)(Kp:AV->Sl->St->Prop):Prop:=
 match r with
 |.go t s=>∃ L,Qm U t L/\(nd=true->s.fr=st.fr)/\Q (.go L s)
 |.ex id t s=>∃ L,Qm U t L/\(nd=true->s.fr=st.fr)/\Q (.ex id L s)
 |.rt t s=>∃ L,Qm U t L/\(nd=true->s.fr=st.fr)/\Q (.rt L s)
 |.pn v t s=>∃ L,Qm U t L/\(nd=true->s.fr=st.fr)/\Kp v L s
 |.no=>False
theorem RX.fr {nd:Bool}{st st':St}{r:R}{Q:Out->Prop}{Kp:AV->Sl->St->Prop}(h:RX U nd st' r Q Kp)(hf:nd=true->st'.fr=st.fr):RX U nd st r Q Kp:=by
 cases r with
 |no=>exact h
 |go t s=>obtain⟨L,h1,h2,h3⟩:=h;exact⟨L,h1,λhn=>(h2 hn).trans (hf hn),h3⟩
 |ex i t s=>obtain⟨L,h1,h2,h3⟩:=h;exact⟨L,h1,λhn=>(h2 hn).trans (hf hn),h3⟩
 |rt t s=>obtain⟨L,h1,h2,h3⟩:=h;exact⟨L,h1,λhn=>(h2 hn).trans (hf hn),h3⟩
 |pn v t s=>obtain⟨L,h1,h2,h3⟩:=h;exact⟨L,h1,λhn=>(h2 hn).trans (hf hn),h3⟩
theorem jf8 {ns:Lc}{rs:List AV}{e:En}{st:St}(h:HasO U ns t rs e){o:Op}{k:XK}(hl:gV P o=some k){K Kp:AV->St->Prop}(hw:xK P base k e st K Kp) :
  (∃ v st',qy o=none/\(jy P (jS U ns) o).run ⟨t,rs⟩ st=.ok v st'/\(k.nd=true->st'.fr=st.fr)/\K v st') \/
  (∃ v,qy o=none/\(jy P (jS U ns) o).run ⟨t,rs⟩ st=.pn v st/\Kp v st) \/
  (∃ f args fid caps r N D,qy o=some (f,args)/\(jS U ns f).run ⟨t,rs⟩=.fn fid caps /\
   (∀ n,N<=n->∀ d,D<=d->evC P base n d fid (yN (yj (λx=>(jS U ns x).run ⟨t,rs⟩) args) caps) st=r)/\ZM r (λv s=>K v (back st s)) λv s=>Kp v (back st s)):=by
 unfold gV at hl;cases hc:qy o with
 |some p=>
  obtain⟨f,args⟩:=p;rw[hc] at hl;obtain⟨fa,h1,hl⟩:=bind_some hl;obtain⟨l,h2,rfl⟩:=Go.Sy.map_some hl;obtain⟨h3,h4,h5⟩:=hw;obtain⟨h6,h7⟩:=h.fn h1 h2 h3 h4;right;right;unfold w6 at h5;cases hv:vl e fa<;>rw[hv] at h5<;>try(exact h5.elim)
  rename_i fid caps;obtain⟨r,⟨N,D,h8⟩,h9⟩:=h5;refine⟨f,args,fid,caps,r,N,D,rfl,h6.trans hv,λn hn d hd=>?_,h9⟩;rw[yu,yG,h7];exact h8 n hn d hd
 |none=>
  rw[hc] at hl;dsimp only at hl;have ins:∀ i,Yj P o=some i->k=.i i->(∃ v st',qy o=none/\(jy P (jS U ns) o).run ⟨t,rs⟩ st=.ok v st'/\(k.nd=true->st'.fr=st.fr)/\K v st'):=by
   intro i h1 hk;subst hk;obtain⟨v,st',h2,h3,h4⟩:=jng h h1 hw;exact⟨v,st',hc,h2,λ_=>h3,h4⟩
  cases o;case panic x=>
   obtain⟨a,h1,rfl⟩:=Go.Sy.map_some hl;obtain⟨h2,h3⟩:=hw;have hv:=(jL (KJ U ns t rs) h1).trans (h.val h2);unfold jcO at h3;cases hk:vl e a<;>rw[hk] at h3<;>try(exact h3.elim)
   rename_i ty u;rw[hk] at hv;refine .inr (.inl ⟨_,rfl,?_,h3⟩);simp only[jy];rw[hv]
  case defer c=>
   dsimp only at hl;cases hcal:c.callee with
   |value f=>
    rw[hcal] at hl;obtain⟨fa,h1,hl⟩:=bind_some hl;obtain⟨l,h2,rfl⟩:=Go.Sy.map_some hl;obtain⟨h3,h4,h5⟩:=hw;obtain⟨h6,h7⟩:=h.fn h1 h2 h3 h4;unfold UC at h5;cases hv:vl e fa<;>rw[hv] at h5<;>try(exact h5.elim)
    rename_i fid caps;rw[hv] at h6;refine .inl ⟨_,_,rfl,?_,(λhn=>nomatch hn),h5⟩;simp only[jy,hcal];rw[h6];dsimp only;rw[yu,yG,h7]
   |_=>rw[hcal] at hl;cases hl
  all_goals
   obtain⟨i,h1,h2⟩:=Go.Sy.map_some hl;exact .inl (by have:=ins i h1 h2.symm;rw[hc] at this;exact this)
theorem K2 {ops:Array Oper}{Q:Out->Prop}{Kp:AV->Sl->St->Prop}(nd:Bool):∀ (lo:List Oper) (l:List XS) (ns:Lc) (rs:List AV) (e:En) (st:St),kD P U ops lo=some l->HasO U ns t rs e->(nd=true->(l.all λs=>s.k.nd)=true)->
  xO P base l e st (λe s=>Q (.go e.g s)) Kp->∃ r N D,RX U nd st r Q Kp/\∀ n,N<=n->∀ d,D<=d->(y8 P U ops lo ns).run (evC P base n d) n t rs st=r
 |[],l,ns,rs,e,st,hl,h,hnd,hw=>by
  cases hl;exact⟨.go _ st,0,0,⟨e.g,h.flush,λ_=>rfl,hw⟩,λ_ _ _ _=>rfl⟩
 |o :: lo,l,ns,rs,e,st,hl,h,hnd,hw=>by
  obtain⟨s,h1,hl⟩:=bind_some hl;obtain⟨l',h2,rfl⟩:=Go.Sy.map_some hl;obtain⟨k,h3,h1⟩:=bind_some h1;obtain⟨g,h4,rfl⟩:=Go.Sy.map_some h1;have hnd1:nd=true->k.nd=true:=λhn=>by have:=hnd hn;simp only[QaC,ψ] at this;exact this.1
  have hnd2:nd=true->(l'.all λs=>s.k.nd)=true:=λhn=>by have:=hnd hn;simp only[QaC,ψ] at this;exact this.2
  have step:xK P base k e st (λv st'=>xO P base l' (yf o.dst (X8 U o.dst) v e) st' (λe s=>Q (.go e.g s)) Kp) (λv st'=>Kp v e.g st')->
    ∃ r N D,RX U nd st r Q Kp/\∀ n,N<=n->∀ d,D<=d->(ZG P (jS U ns) (zY U ns) o (y8 P U ops lo (qA o.dst ns))).run (evC P base n d) n t rs st=r:=by
   intro hk;rcases jf8 h h3 hk with ⟨v,st1,k1,k2,k3,k4⟩|⟨v,k1,k2,k3⟩|⟨f,args,fid,caps,r1,N1,D1,k1,k2,k3,k4⟩
   .obtain⟨r,N,D,m1,m2⟩:=K2 nd lo l' _ _ _ _ h2 (h.push o.dst v) hnd2 k4;refine⟨r,N,D,m1.fr λhn=>k3 (hnd1 hn),λn hn d hd=>?_⟩;unfold ZG;rw[k1];dsimp only;rw[k2];exact m2 n hn d hd
   .refine⟨.pn v _ st,0,0,⟨e.g,h.flush,λ_=>rfl,k3⟩,λn hn d hd=>?_⟩;unfold ZG;rw[k1];dsimp only;rw[k2]
   .cases r1 with
    |no=>exact k4.elim
    |ok v st1=>
     obtain⟨r,N,D,m1,m2⟩:=K2 nd lo l' _ _ _ _ h2 (h.push o.dst v) hnd2 k4;refine⟨r,max N1 N,max D1 D,m1.fr λ_=>rfl,λn hn d hd=>?_⟩;unfold ZG;rw[k1];dsimp only;rw[k2];dsimp only;rw[k3 n (χ (Qao _ _) hn) d (χ (Qao _ _) hd)];exact m2 n (χ (Qap _ _) hn) d (χ (Qap _ _) hd)
    |pn v st1=>
     refine⟨.pn v _ (back st st1),N1,D1,⟨e.g,h.flush,λ_=>rfl,k4⟩,λn hn d hd=>?_⟩;unfold ZG;rw[k1];dsimp only;rw[k2];dsimp only;rw[k3 n hn d hd]
  rw[UG];rcases jbE h h4 hw with ⟨q1,q2⟩|⟨wf,q1,⟨q2,q3⟩|⟨q2,q3⟩⟩
  .rw[q1];exact step q2
  .rw[q1];obtain⟨r,N,D,m1,m2⟩:=step q3;refine⟨r,N,D,m1,λn hn d hd=>?_⟩;simp only[Ul];rw[q2];exact m2 n hn d hd
  .rw[q1];obtain⟨r,N,D,m1,m2⟩:=K2 nd lo l' _ _ _ _ h2 (h.push o.dst qe) hnd2 q3;refine⟨r,N,D,m1,λn hn d hd=>?_⟩;simp only[Ul];rw[q2];exact m2 n hn d hd
theorem gx {ops:Array Oper}{pan:Nat->Lc->Lc->AV->St->RD}{abs:Nat->Bool}{call:qG}{n:Nat}:∀ (l:Lc) (es ns:Lc) (rs:List AV) (tb:List TE) (st:St),(∀ k∈l,abs k=true)->(∀ k∈l,k<ops.size)->
  ∃ t',(yr P U ops (XX U) pan abs l es ns).run call n t rs tb st=.go t' st
 |[],es,ns,rs,tb,st,_,_=>⟨_,rfl⟩
 |k :: l,es,ns,rs,tb,st,h1,h2=>by
  have hk:k<ops.size:=h2 k hac;have ho:ops[k]? = some ops[k]:=Qcv hk;rw[uw k l es ns ho,h1 k hac];simp only[cond_true];exact gx l _ _ _ _ st (λj hj=>h1 j (by simp[hj])) (λj hj=>h2 j (by simp[hj]))
theorem jbb {ops:Array Oper}{i:Nat}{call:qG}{n:Nat}:∀ (lo:List Oper) (k:Nat) (l:List XD) (ns:Lc) (rs:List AV) (tb:List TE) (e:En) (st:St),ops.toList.drop k=lo->
  Uj P U ops i k lo=some l->HasO U ns t rs e->xR P l e tb st->
  ∃ t' s',(yr P U ops (XX U) (λ_ _ _ _ _=>wt) (JK ops i) (Qag k (ops.size - k)) (qC k) ns).run call n t rs tb st=.go t' s'
 |[],k,l,ns,rs,tb,e,st,hdr,hl,h,hw=>by
  have:ops.size - k=0:=by
   have:=congrArg List.length hdr;simpa using this
  rw[this];exact⟨_,_,rfl⟩
 |o :: lo,k,l,ns,rs,tb,e,st,hdr,hl,h,hw=>by
  obtain⟨ho,hdr',hlt⟩:=UB hdr;have hr:Qag k (ops.size - k)=k :: Qag (k+1) (ops.size - (k+1)):=by
   have:ops.size - k=(ops.size - (k+1))+1:=om
   rw[this,Qbn]
  rw[hr,uw k _ _ _ ho];unfold Uj at hl;cases ha:JK ops i k with
  |true=>
   rw[ha] at hl;simp only[cond_true] at hl ⊢;obtain⟨l',h2,rfl⟩:=Go.Sy.map_some hl;have hw':xR P l' (yf o.dst (X8 U o.dst) qe e) (.none :: tb) st:=hw.2.2;exact jbb lo (k+1) l' _ _ _ _ st hdr' h2 (h.push o.dst qe) hw'
  |false=>
   rw[ha] at hl;simp only[cond_false] at hl ⊢;cases hwt:yO P ops k o;case true=>rw[hwt] at hl;cases hl
   rw[hwt] at hl;simp only[cond_false] at hl;cases hc:qy o.op with
   |some p=>rw[hc] at hl;cases hl
   |none=>
    rw[hc] at hl;dsimp only at hl;obtain⟨s,h1,hl⟩:=bind_some hl;obtain⟨te,h5,hl⟩:=bind_some hl;obtain⟨l',h2,rfl⟩:=Go.Sy.map_some hl;obtain⟨q,h3,h1⟩:=bind_some h1;obtain⟨g,h4,rfl⟩:=Go.Sy.map_some h1;have step:xRK P q e st (λv st'=>held P (Qz o.op) (teW te e v st st') tb (Ev.partners P ops (qC k) k o)=true/\xR P l' (yf o.dst (X8 U o.dst) v e) (teW te e v st st' :: tb) st')->
      ∃ t' s',(JI P (jS U ns) false (Ev.partners P ops (qC k) k o) o (yr P U ops (XX U) (λ_ _ _ _ _=>wt) (JK ops i) (Qag (k+1) (ops.size - (k+1))) (qC (k+1)) (qA o.dst ns)) (λ_ _=>wt)).run call n t rs tb st=.go t' s':=by
     intro hk;unfold gV at h3;rw[hc] at h3;dsimp only at h3;cases q with
     |call f l=>exact hk.elim
     |pan x=>exact hk.elim
     |defer f l=>exact hk.elim
     |i ins=>
      have hlo:Yj P o.op=some ins:=by
       split at h3
       .obtain⟨a,_,h⟩:=Go.Sy.map_some h3;cases h
       .split at h3
        .obtain⟨a,_,h3⟩:=bind_some h3;obtain⟨b,_,h⟩:=Go.Sy.map_some h3;cases h
        .cases h3
       .obtain⟨a,h6,h⟩:=Go.Sy.map_some h3;cases h;exact h6
      have hk':wI P ins e st (λv st'=>held P (Qz o.op) (teW te e v st st') tb (Ev.partners P ops (qC k) k o)=true/\xR P l' (yf o.dst (X8 U o.dst) v e) (teW te e v st st' :: tb) st'):=hk;have hcov:=hk'.1;obtain⟨v,st',g1,g2,g3,g4⟩:=jng h hlo hk';have hte:JL P (jS U ns) o.op ⟨t,rs⟩ v st st'=teW te e v st st':=by
       unfold jcX at h5;unfold JL;cases hcl:jY P o.op<;>rw[hcl] at h5<;>try(cases h5;rfl)
       obtain⟨ty,a,hop⟩:=Xw hcl;rw[hop] at h5 hlo ⊢;obtain⟨a',h6,rfl⟩:=Go.Sy.map_some h5;simp only[teW];have hok:okA e a'=true:=by
        simp only[Yj] at hlo;obtain⟨a2,h8,h9⟩:=bind_some hlo;rw[h6] at h8;cases h8;split at h9
        .cases h9;simpa[wk] using hcov
        .cases h9;simpa[wk] using hcov
        .cases h9
       rw[jL (KJ U ns t rs) h6,h.val hok]
      obtain⟨t',s',e1⟩:=jbb (i:=i) (call:=call) (n:=n) lo (k+1) l' _ _ _ _ st' hdr' h2 (h.push o.dst v) g4;refine⟨t',s',?_⟩;unfold JI;dsimp only;rw[Hp hc g1 Xw,hte,g3];exact e1
    rcases jbE h h4 hw with ⟨q1,q2⟩|⟨wf,q1,⟨q2,q3⟩|⟨q2,q3⟩⟩
    .rw[q1];exact step q2
    .rw[q1];obtain⟨t',s',m1⟩:=step q3;refine⟨t',s',?_⟩;simp only[QK];rw[q2];exact m1
    .rw[q1];obtain⟨t',s',m1⟩:=jbb (i:=i) (call:=call) (n:=n) lo (k+1) l' _ _ _ _ st hdr' h2 (h.push o.dst qe) q3;refine⟨t',s',?_⟩;simp only[QK];rw[q2];exact m1
theorem jf7:∀ {l:List XD} {e:En} {tb tb':List TE} {st:St},(l.all λs=>s.prt.isEmpty)=true->xR P l e tb st->xR P l e tb' st
 |[],e,tb,tb',st,_,h=>h
 |s :: l,e,tb,tb',st,ha,h=>by
  simp only[QaC,ψ] at ha;have hp:s.prt=[]:=by simpa using ha.1
  refine kM h (λh=>?_) λh=>jf7 ha.2 h;cases hk:s.s.k<;>rw[hk] at h<;>try(exact h.elim)
  refine⟨h.1,jap h.2 λv st' h3=>⟨?_,jf7 ha.2 h3.2⟩⟩;rw[hp];rfl
theorem jeO {ops:Array Oper}{i:Nat}{lo:List Oper}{l:List XD}(h:vS P U ops i lo=some l)(hdr:ops.toList.drop i=lo){ns:Lc}{rs:List AV}{e:En}(he:HasO U ns t rs e){tb:List TE}{st:St}(hw:xR P l e tb st)(v:AV)(st':St)(call:qG)(n:Nat) :
  (Yr P U ops i (qC i) ns v st').run call n t rs tb st=.pn v t st':=by
 unfold vS at h;obtain⟨h1,h2⟩:=JU h;have fin:(∃ t' s',(yr P U ops (XX U) (λ_ _ _ _ _=>wt) (JK ops i) (Qag i (QcF ops.size i)) (qC i) ns).run call n t rs tb st=.go t' s')->(Yr P U ops i (qC i) ns v st').run call n t rs tb st=.pn v t st':=by
  rintro ⟨t',s',ht⟩;unfold Yr;rw[h1];simp only[cond_true];rw[ht]
 refine fin ?_;cases ha:(Qag i (QcF ops.size i)).all (JK ops i) with
 |true=>
  rw[Qah] at ha;obtain⟨t',ht⟩:=gx (P:=P) (U:=U) (t:=t) (ops:=ops) (pan:=λ_ _ _ _ _=>wt) (abs:=JK ops i) (call:=call) (n:=n) (Qag i (QcF ops.size i)) (qC i) ns rs tb st ha (λk hk=>by
   rw[List.mem_range'_1] at hk;have e:QcF ops.size i=ops.size - i:=rfl;rw[e] at hk;omega)
  exact⟨t',st,ht⟩
 |false=>
  rw[ha] at h2;exact jbb lo i l ns rs tb e st hdr h2 he hw
theorem jao {op:Operand->OF}{o:Op}{env:Env}{v:AV}{st st1:St}{call:qG}{k:AV->TE->St->R}{kp:AV->St->R}{f:Operand}{args:List Operand}{fid:FuncId}{caps:List AV}(hc:qy o=some (f,args))
  (hf:(op f).run env=.fn fid caps) (he:call fid (yN (yj (λx=>(op x).run env) args) caps) st=.pn v st1) :
  (opD P op false o).run call env st k kp=kp v (back st st1):=by
 unfold opD;rw[hc];simp only[cond_false];rw[hf];dsimp only;rw[he]
theorem K4 {ops:Array Oper}{Q:Out->Prop}{Kp:AV->Sl->St->Prop}{L0:Sl}(ht0:Qm U t L0)(nd:Bool):∀ (lo:List Oper) (i:Nat) (l:List (XS×Option (List XD))) (ns:Lc) (rs:List AV) (tb:List TE) (e:En) (st:St),ops.toList.drop i=lo->calm P ops i lo=true->
  Hx P U ops i lo=some l->HasO U ns t rs e->(nd=true->(l.all λs=>s.1.k.nd)=true)->xCO P base L0 l e st (λe s=>Q (.go e.g s)) Kp->
  ∃ r N D,RX U nd st r Q Kp/\∀ n,N<=n->∀ d,D<=d->(yr P U ops (XX U) (Yr P U ops) (λ_=>false) (Qag i (ops.size - i)) (qC i) ns).run (evC P base n d) n t rs tb st=r
 |[],i,l,ns,rs,tb,e,st,hdr,hcalm,hl,h,hnd,hw=>by
  cases hl;have:ops.size - i=0:=by
   have:=congrArg List.length hdr;simpa using this
  rw[this];exact⟨.go _ st,0,0,⟨e.g,h.flush,λ_=>rfl,hw⟩,λ_ _ _ _=>rfl⟩
 |o :: lo,i,l,ns,rs,tb,e,st,hdr,hcalm,hl,h,hnd,hw=>by
  obtain⟨ho,hdr',hlt⟩:=UB hdr;unfold calm at hcalm;cases hwt:yO P ops i o;case true=>rw[hwt] at hcalm;cases hcalm
  rw[hwt] at hcalm;simp only[cond_false] at hcalm;obtain⟨hpe,hcalm⟩:=qN hcalm;have hpe':Ev.partners P ops (qC i) i o=[]:=by simpa using hpe
  obtain⟨s,h1,hl⟩:=bind_some hl;obtain⟨l',h2,rfl⟩:=Go.Sy.map_some hl;obtain⟨k,h3,h1⟩:=bind_some h1;obtain⟨g,h4,rfl⟩:=Go.Sy.map_some h1;have hnd1:nd=true->k.nd=true:=λhn=>by have:=hnd hn;simp only[QaC,ψ] at this;exact this.1
  have hnd2:nd=true->(l'.all λs=>s.1.k.nd)=true:=λhn=>by have:=hnd hn;simp only[QaC,ψ] at this;exact this.2
  have hr:Qag i (ops.size - i)=i :: Qag (i+1) (ops.size - (i+1)):=by
   have:ops.size - i=(ops.size - (i+1))+1:=om
   rw[this,Qbn]
  have step:xK P base k e st (λv st'=>xCO P base L0 l' (yf o.dst (X8 U o.dst) v e) st' (λe s=>Q (.go e.g s)) Kp) (λv st'=>XO P (match qy o.op with|some _=>kB P U ops i (o :: lo)|none=>none) e [] st (Kp v L0 st'))->
    ∃ r N D,RX U nd st r Q Kp/\∀ n,N<=n->∀ d,D<=d->
     (JI P (jS U ns) false (Ev.partners P ops (qC i) i o) o (yr P U ops (XX U) (Yr P U ops) (λ_=>false) (Qag (i+1) (ops.size - (i+1))) (qC (i+1)) (qA o.dst ns)) (Yr P U ops i (qC i) ns)).run (evC P base n d) n t rs tb st=r:=by
   intro hk;rw[hpe'];rcases jf8 h h3 hk with ⟨v,st1,k1,k2,k3,k4⟩|⟨v,k1,k2,k3⟩|⟨f,args,fid,caps,r1,N1,D1,k1,k2,k3,k4⟩
   .obtain⟨r,N,D,m1,m2⟩:=K4 ht0 nd lo (i+1) l' _ _ (Qal (JL P (jS U ns) o.op ⟨t,rs⟩ v st st1) tb) _ _ hdr' hcalm h2 (h.push o.dst v) hnd2 k4;refine⟨r,N,D,m1.fr λhn=>k3 (hnd1 hn),λn hn d hd=>?_⟩;unfold JI;dsimp only;rw[Hp k1 k2 Xw];exact m2 n hn d hd
   .rw[k1] at k3;exact k3.elim
   .rw[k1] at k4;cases r1 with
    |no=>exact k4.elim
    |ok v st1=>
     obtain⟨r,N,D,m1,m2⟩:=K4 ht0 nd lo (i+1) l' _ _ (Qal (TE.wr st.h (back st st1).h) tb) _ _ hdr' hcalm h2 (h.push o.dst v) hnd2 k4;refine⟨r,max N1 N,max D1 D,m1.fr λ_=>rfl,λn hn d hd=>?_⟩;unfold JI;dsimp only;rw[jcR k1 k2 (k3 n (χ (Qao _ _) hn) d (χ (Qao _ _) hd))];exact m2 n (χ (Qap _ _) hn) d (χ (Qap _ _) hd)
    |pn v st1=>
     have k5:XO P (kB P U ops i (o :: lo)) e [] st (Kp v L0 (back st st1)):=k4;cases hm:kB P U ops i (o :: lo) with
     |none=>rw[hm] at k5;exact k5.elim
     |some lr=>
      rw[hm] at k5;obtain⟨lr',hm1,hm2⟩:=bind_some hm;obtain⟨hm3,hm4⟩:=JU hm2;cases hm4;refine⟨.pn v t (back st st1),N1,D1,⟨L0,ht0,λ_=>rfl,k5.2⟩,λn hn d hd=>?_⟩;unfold JI;dsimp only;rw[jao k1 k2 (k3 n hn d hd)];exact jeO hm1 hdr h (jf7 hm3 k5.1) _ _ _ _
  rw[hr,uw i _ _ _ ho,hwt];simp only[cond_false];rcases jbE h h4 hw with ⟨q1,q2⟩|⟨wf,q1,⟨q2,q3⟩|⟨q2,q3⟩⟩
  .rw[q1];exact step q2
  .rw[q1];obtain⟨r,N,D,m1,m2⟩:=step q3;refine⟨r,N,D,m1,λn hn d hd=>?_⟩;simp only[QK];rw[q2];exact m2 n hn d hd
  .rw[q1];obtain⟨r,N,D,m1,m2⟩:=K4 ht0 nd lo (i+1) l' _ _ (Qal TE.none tb) _ _ hdr' hcalm h2 (h.push o.dst qe) hnd2 q3;refine⟨r,N,D,m1,λn hn d hd=>?_⟩;simp only[QK];rw[q2];exact m2 n hn d hd
theorem K3 {ops:Array Oper}{Q:Out->Prop}{Kp:AV->Sl->St->Prop}{L0:Sl}(ht0:Qm U t L0)(nd:Bool):∀ (lo:List Oper) (i:Nat) (l:List (XD×Option (List XD))) (ns:Lc) (rs:List AV) (tb:List TE) (e:En) (st:St),ops.toList.drop i=lo->
  jbB P U ops i lo=some l->HasO U ns t rs e->(nd=true->(l.all λs=>s.1.s.k.nd)=true)->xDO P base L0 l e tb st (λe s=>Q (.go e.g s)) Kp->
  ∃ r N D,RX U nd st r Q Kp/\∀ n,N<=n->∀ d,D<=d->(yr P U ops (XX U) (Yr P U ops) (λ_=>false) (Qag i (ops.size - i)) (qC i) ns).run (evC P base n d) n t rs tb st=r
 |[],i,l,ns,rs,tb,e,st,hdr,hl,h,hnd,hw=>by
  cases hl;have:ops.size - i=0:=by
   have:=congrArg List.length hdr;simpa using this
  rw[this];exact⟨.go _ st,0,0,⟨e.g,h.flush,λ_=>rfl,hw⟩,λ_ _ _ _=>rfl⟩
 |o :: lo,i,l,ns,rs,tb,e,st,hdr,hl,h,hnd,hw=>by
  obtain⟨ho,hdr',hlt⟩:=UB hdr;unfold jbB at hl;cases hwt:yO P ops i o;case true=>rw[hwt] at hl;cases hl
  rw[hwt] at hl;simp only[cond_false] at hl;obtain⟨s,h1,hl⟩:=bind_some hl;obtain⟨te,h5,hl⟩:=bind_some hl;obtain⟨l',h2,rfl⟩:=Go.Sy.map_some hl;obtain⟨k,h3,h1⟩:=bind_some h1;obtain⟨g,h4,rfl⟩:=Go.Sy.map_some h1;have hnd1:nd=true->k.nd=true:=λhn=>by have:=hnd hn;simp only[QaC,ψ] at this;exact this.1
  have hnd2:nd=true->(l'.all λs=>s.1.s.k.nd)=true:=λhn=>by have:=hnd hn;simp only[QaC,ψ] at this;exact this.2
  have hte:∀ v st',(∀ a,te=some (some a)->okA e a=true)->JL P (jS U ns) o.op ⟨t,rs⟩ v st st'=teW te e v st st':=by
   intro v st' hok;unfold jcX at h5;unfold JL;cases hcl:jY P o.op<;>rw[hcl] at h5<;>try(cases h5;rfl)
   obtain⟨ty,a,hop⟩:=Xw hcl;rw[hop] at h5 ⊢;obtain⟨a',h6,rfl⟩:=Go.Sy.map_some h5;simp only[teW];rw[jL (KJ U ns t rs) h6,h.val (hok a' rfl)]
  have hokr:∀ (K Kp:AV->St->Prop),xK P base k e st K Kp->∀ a,te=some (some a)->okA e a=true:=by
   intro K Kp hk a ha;unfold jcX at h5;cases hcl:jY P o.op<;>rw[hcl] at h5<;>try(cases h5;cases ha;done)
   obtain⟨ty,ad,hop⟩:=Xw hcl;rw[hop] at h5 h3;obtain⟨a',h6,rfl⟩:=Go.Sy.map_some h5;cases ha;have:qy (Op.load ty ad)=none:=rfl;unfold gV at h3;rw[this] at h3;obtain⟨ins,h7,rfl⟩:=Go.Sy.map_some h3;simp only[Yj] at h7;obtain⟨a2,h8,h9⟩:=bind_some h7;rw[h6] at h8;cases h8;have hcov:=hk.1;split at h9
   .cases h9;simpa[wk] using hcov
   .cases h9;simpa[wk] using hcov
   .cases h9
  have hr:Qag i (ops.size - i)=i :: Qag (i+1) (ops.size - (i+1)):=by
   have:ops.size - i=(ops.size - (i+1))+1:=om
   rw[this,Qbn]
  have step:xK P base k e st (λv st'=>held P (Qz o.op) (teW te e v st st') tb (Ev.partners P ops (qC i) i o)=true/\xDO P base L0 l' (yf o.dst (X8 U o.dst) v e) (teW te e v st st' :: tb) st' (λe s=>Q (.go e.g s)) Kp) (λv st'=>XO P (match qy o.op with|some _=>vS P U ops i (o :: lo)|none=>none) e tb st (Kp v L0 st'))->
    ∃ r N D,RX U nd st r Q Kp/\∀ n,N<=n->∀ d,D<=d->
     (JI P (jS U ns) false (Ev.partners P ops (qC i) i o) o (yr P U ops (XX U) (Yr P U ops) (λ_=>false) (Qag (i+1) (ops.size - (i+1))) (qC (i+1)) (qA o.dst ns)) (Yr P U ops i (qC i) ns)).run (evC P base n d) n t rs tb st=r:=by
   intro hk;have hok:=hokr _ _ hk;rcases jf8 h h3 hk with ⟨v,st1,k1,k2,k3,k4⟩|⟨v,k1,k2,k3⟩|⟨f,args,fid,caps,r1,N1,D1,k1,k2,k3,k4⟩
   .obtain⟨g1,g2⟩:=k4;obtain⟨r,N,D,m1,m2⟩:=K3 ht0 nd lo (i+1) l' _ _ _ _ _ hdr' h2 (h.push o.dst v) hnd2 g2;refine⟨r,N,D,m1.fr λhn=>k3 (hnd1 hn),λn hn d hd=>?_⟩;unfold JI;dsimp only;rw[Hp k1 k2 Xw,hte v st1 hok,g1];exact m2 n hn d hd
   .rw[k1] at k3;exact k3.elim
   .rw[k1] at k4;have hw':∀ v st1,teW te e v st (back st st1)=.wr st.h (back st st1).h:=λv st1=>by
     rw[<-hte v _ hok];unfold JL;rw[Qi (P:=P) k1]
    cases r1 with
    |no=>exact k4.elim
    |ok v st1=>
     obtain⟨g1,g2⟩:=k4;rw[hw'] at g1 g2;obtain⟨r,N,D,m1,m2⟩:=K3 ht0 nd lo (i+1) l' _ _ _ _ _ hdr' h2 (h.push o.dst v) hnd2 g2;refine⟨r,max N1 N,max D1 D,m1.fr λ_=>rfl,λn hn d hd=>?_⟩;unfold JI;dsimp only;rw[jcR k1 k2 (k3 n (χ (Qao _ _) hn) d (χ (Qao _ _) hd)),g1];exact m2 n (χ (Qap _ _) hn) d (χ (Qap _ _) hd)
    |pn v st1=>
     have k5:XO P (vS P U ops i (o :: lo)) e tb st (Kp v L0 (back st st1)):=k4;cases hm:vS P U ops i (o :: lo) with
     |none=>rw[hm] at k5;exact k5.elim
     |some lr=>
      rw[hm] at k5;refine⟨.pn v t (back st st1),N1,D1,⟨L0,ht0,λ_=>rfl,k5.2⟩,λn hn d hd=>?_⟩;unfold JI;dsimp only;rw[jao k1 k2 (k3 n hn d hd)];exact jeO hm hdr h k5.1 _ _ _ _
  rw[hr,uw i _ _ _ ho,hwt];simp only[cond_false];rcases jbE h h4 hw with ⟨q1,q2⟩|⟨wf,q1,⟨q2,q3⟩|⟨q2,q3⟩⟩
  .rw[q1];exact step q2
  .rw[q1];obtain⟨r,N,D,m1,m2⟩:=step q3;refine⟨r,N,D,m1,λn hn d hd=>?_⟩;simp only[QK];rw[q2];exact m2 n hn d hd
  .rw[q1];obtain⟨r,N,D,m1,m2⟩:=K3 ht0 nd lo (i+1) l' _ _ _ _ _ hdr' h2 (h.push o.dst qe) hnd2 q3;refine⟨r,N,D,m1,λn hn d hd=>?_⟩;simp only[QK];rw[q2];exact m2 n hn d hd
theorem jne (nd:Bool):∀ (c:Code) (C:XC),Vh P U c=some C->(nd=true->C.nd=true)->∀ (t:T AV) (L:Sl) (st:St) (Q:Out->Prop) (Kp:AV->Sl->St->Prop),Qm U t L->xC P base C L st Q Kp->
  ∃ r N D,RX U nd st r Q Kp/\∀ n,N<=n->∀ d,D<=d->(comp P U c).run (evC P base n d) n t st=r:=by
 intro c;induction c with
 |skip=>
  intro C hl hnd t L st Q Kp ht hw;cases hl;exact⟨.go t st,0,0,⟨L,ht,λ_=>rfl,hw⟩,λ_ _ _ _=>rfl⟩
 |region id ops d=>
  intro C hl hnd t L st Q Kp ht hw;cases d with
  |false=>
   obtain⟨l,h1,rfl⟩:=Go.Sy.map_some hl;exact K2 nd _ _ _ _ _ _ h1 (HasO.of_t ht) hnd hw
  |true=>
   obtain⟨ho,hl⟩:=JU hl;have hcomp:∀ call n,(comp P U (.region id ops true)).run call n t st=(wV P U ops).run call n t [] [] st:=by
    intro call n;change (cond (Jx P ops) (⟨λcall n t st=>(wV P U ops).run call n t [] [] st⟩:CF) NOC).run call n t st=_;rw[ho];rfl
   have hdraw:∀ call n,(wV P U ops).run call n t [] [] st=(yr P U ops (XX U) (Yr P U ops) (λ_=>false) (Qag 0 (ops.size - 0)) (qC 0) []).run call n t [] [] st:=by
    intro call n;unfold wV;rw[List.range_eq_range'];rfl
   cases hc:calm P ops 0 ops.toList
   .rw[hc] at hl;obtain⟨l,h1,rfl⟩:=Go.Sy.map_some hl;obtain⟨r,N,D,h3,h2⟩:=K3 ht nd ops.toList 0 l [] [] [] ⟨[],L⟩ st rfl h1 (HasO.of_t ht) hnd hw;exact⟨r,N,D,h3,λn hn d hd=>by rw[hcomp,hdraw];exact h2 n hn d hd⟩
   .rw[hc] at hl;obtain⟨l,h1,rfl⟩:=Go.Sy.map_some hl;obtain⟨r,N,D,h3,h2⟩:=K4 ht nd ops.toList 0 l [] [] [] ⟨[],L⟩ st rfl hc h1 (HasO.of_t ht) hnd hw;exact⟨r,N,D,h3,λn hn d hd=>by rw[hcomp,hdraw];exact h2 n hn d hd⟩
 |seq x y ihx ihy=>
  intro C hl hnd t L st Q Kp ht hw;obtain⟨cx,h1,hl⟩:=bind_some hl;obtain⟨cy,h2,rfl⟩:=Go.Sy.map_some hl;obtain⟨r,N,D,h4,h5⟩:=ihx cx h1 (λhn=>(qN (hnd hn)).1) t L st _ _ ht hw;have hcomp:∀ call n,(comp P U (.seq x y)).run call n t st=match (comp P U x).run call n t st with | .go env st=>(comp P U y).run call n env st|r=>r:=λ_ _=>rfl
  cases r with
  |no=>exact h4.elim
  |go t' st'=>
   obtain⟨L',h6,h7,h3⟩:=h4;obtain⟨r2,N2,D2,k1,k3⟩:=ihy cy h2 (λhn=>(qN (hnd hn)).2) t' L' st' Q Kp h6 h3;refine⟨r2,max N N2,max D D2,k1.fr h7,λn hn d hd=>?_⟩;rw[hcomp,h5 n (χ (Qao _ _) hn) d (χ (Qao _ _) hd)];exact k3 n (χ (Qap _ _) hn) d (χ (Qap _ _) hd)
  |ex i t' st'=>exact⟨.ex i t' st',N,D,h4,λn hn d hd=>by rw[hcomp,h5 n hn d hd]⟩
  |rt t' st'=>exact⟨.rt t' st',N,D,h4,λn hn d hd=>by rw[hcomp,h5 n hn d hd]⟩
  |pn v t' st'=>exact⟨.pn v t' st',N,D,h4,λn hn d hd=>by rw[hcomp,h5 n hn d hd]⟩
 |cond x a b iha ihb=>
  intro C hl hnd t L st Q Kp ht hw;obtain⟨cx,h0,hl⟩:=bind_some hl;obtain⟨ca,h1,hl⟩:=bind_some hl;obtain⟨cb,h2,rfl⟩:=Go.Sy.map_some hl;obtain⟨h3,h4⟩:=hw;have hv:=(jL (KJ U [] t []) h0).trans ((HasO.of_t ht).val h3);have hcomp:∀ call n,(comp P U (.cond x a b)).run call n t st=match (jS U [] x).run ⟨t,[]⟩ with | .bool q=>_root_.cond q ((comp P U a).run call n t st) ((comp P U b).run call n t st)|_=>.no:=λ_ _=>rfl
  unfold uP at h4;cases hk:vl ⟨[],L⟩ cx<;>rw[hk] at h4<;>try(exact h4.elim)
  rename_i q;rw[hk] at hv;cases q
  .obtain⟨r,N,D,k1,k3⟩:=ihb cb h2 (λhn=>(qN (hnd hn)).2) t L st Q Kp ht h4;refine⟨r,N,D,k1,λn hn d hd=>?_⟩;rw[hcomp,hv];exact k3 n hn d hd
  .obtain⟨r,N,D,k1,k3⟩:=iha ca h1 (λhn=>(qN (hnd hn)).1) t L st Q Kp ht h4;refine⟨r,N,D,k1,λn hn d hd=>?_⟩;rw[hcomp,hv];exact k3 n hn d hd
 |block id x ih=>
  intro C hl hnd t L st Q Kp ht hw;obtain⟨cx,h1,rfl⟩:=Go.Sy.map_some hl;obtain⟨r,N,D,h4,h5⟩:=ih cx h1 hnd t L st _ _ ht hw;have hcomp:∀ call n,(comp P U (.block id x)).run call n t st=match (comp P U x).run call n t st with | .ex id' env st=>_root_.cond (QcA id' id) (.go env st) (.ex id' env st)|r=>r:=λ_ _=>rfl
  cases r with
  |no=>exact h4.elim
  |go t' st'=>exact⟨.go t' st',N,D,h4,λn hn d hd=>by rw[hcomp,h5 n hn d hd]⟩
  |rt t' st'=>exact⟨.rt t' st',N,D,h4,λn hn d hd=>by rw[hcomp,h5 n hn d hd]⟩
  |pn v t' st'=>exact⟨.pn v t' st',N,D,h4,λn hn d hd=>by rw[hcomp,h5 n hn d hd]⟩
  |ex i t' st'=>
   obtain⟨L',h6,h7,h3⟩:=h4;simp only[yz] at h3;cases hb:QcA i id
   .rw[hb] at h3;exact⟨.ex i t' st',N,D,⟨L',h6,h7,h3⟩,λn hn d hd=>by rw[hcomp,h5 n hn d hd];dsimp only;rw[hb];rfl⟩
   .rw[hb] at h3;exact⟨.go t' st',N,D,⟨L',h6,h7,h3⟩,λn hn d hd=>by rw[hcomp,h5 n hn d hd];dsimp only;rw[hb];rfl⟩
 |loop x ih=>
  intro C hl hnd t L st Q Kp ht hw;obtain⟨cx,h1,rfl⟩:=Go.Sy.map_some hl;obtain⟨m,hm⟩:=hw;have key:∀ m t L st,Qm U t L->WS (λL st Q=>xC P base cx L st Q Kp) m L st Q->∃ r N D,RX U nd st r Q Kp/\∀ n,N<=n->∀ d,D<=d->∀ k,m<=k->uG (comp P U x) (evC P base n d) n k t st=r:=by
   intro m;induction m with
   |zero=>intro t L st _ h;exact h.elim
   |succ m ihm=>
    intro t L st ht h;obtain⟨r,N,D,h4,h5⟩:=ih cx h1 hnd t L st _ _ ht h;have one:∀ r',(∀ n,N<=n->∀ d,D<=d->(comp P U x).run (evC P base n d) n t st=r')->(∀ t s,r'≠.go t s)->∀ n,N<=n->∀ d,D<=d->∀ k,m+1<=k->uG (comp P U x) (evC P base n d) n k t st=r':=by
     intro r' hr' hne n hn d hd k hk;obtain⟨k',rfl⟩:∃ k',k=k'+1:=⟨k - 1,om⟩;rw[gZ,hr' n hn d hd];cases r' with
     |go t s=>exact absurd rfl (hne t s)
     |_=>rfl
    cases r with
    |no=>exact h4.elim
    |go t' st'=>
     obtain⟨L',h6,h7,h3⟩:=h4;obtain⟨r2,N2,D2,k1,k3⟩:=ihm t' L' st' h6 h3;refine⟨r2,max N N2,max D D2,k1.fr h7,λn hn d hd k hk=>?_⟩;obtain⟨k',rfl⟩:∃ k',k=k'+1:=⟨k - 1,om⟩;rw[gZ,h5 n (χ (Qao _ _) hn) d (χ (Qao _ _) hd)];exact k3 n (χ (Qap _ _) hn) d (χ (Qap _ _) hd) k' om
    |ex i t' st'=>exact⟨.ex i t' st',N,D,h4,one _ h5 λ_ _ h=>by cases h⟩
    |rt t' st'=>exact⟨.rt t' st',N,D,h4,one _ h5 λ_ _ h=>by cases h⟩
    |pn v t' st'=>exact⟨.pn v t' st',N,D,h4,one _ h5 λ_ _ h=>by cases h⟩
  obtain⟨r,N,D,k1,k3⟩:=key m t L st ht hm;exact⟨r,max N m,D,k1,λn hn d hd=>k3 n (χ (Qao _ _) hn) d hd n (χ (Qap _ _) hn)⟩
 |exit id=>
  intro C hl hnd t L st Q Kp ht hw;cases hl;exact⟨.ex id t st,0,0,⟨L,ht,λ_=>rfl,hw⟩,λ_ _ _ _=>rfl⟩
 |ret=>
  intro C hl hnd t L st Q Kp ht hw;cases hl;exact⟨.rt t st,0,0,⟨L,ht,λ_=>rfl,hw⟩,λ_ _ _ _=>rfl⟩
 |_=>intro C hl;cases hl
end
section
variable {P:Program} {base:Bs}
theorem jfi {fn:Func}{c:Code}(args:List AV):Qm (yc fn c) (Ji args 0 .e) (jj ((ω (fn.params.size+fn.nfree)).filter (inU (yc fn c))) args):=by
 intro x hx;obtain⟨k1,k2⟩:=jg7 hx;refine⟨by simpa using (List.mem_filter.1 k1).2,?_⟩;rw[k2,wg];by_cases hlt:x<args.length
 .rw[if_pos hae];simp
 .rw[if_neg hae];simp only[zI,XM,Option.getD_none];simp[Qaf,List.getElem?_eq_none (by omega:args.length<=x)]
theorem jfv {s:St}(h:s.fr=[]):s.bare=s:=by
 cases s;simp only at h;subst h;rfl
theorem vU {fn:Func}{U:Nat}{res:List RV}(hr:gY P fn.results.toList=some res){K Kp:AV->St->Prop}{L:Sl}{t:T AV}(ht:Qm U t L):∀ (ds:List (FuncId×List AV)) (st:St) (m:Md),yM P base res K Kp ds L st m->
  ∃ r N D,ZM r K Kp/\∀ n,N<=n->∀ d,D<=d->zo P U ⟨λf args m st=>(yT P f).run (evC P base n d) n args m st⟩ fn.results.toList ds t st m=r
 |[],st,m,h=>by
  cases m with
  |calm=>
   obtain⟨vs,q1,q2⟩:=u1 ht hr h;refine⟨.ok (zB vs) st,0,0,q2,λn _ d _=>?_⟩;show(match yD P U fn.results.toList ⟨t,[]⟩ st with|some vs=>ER.ok (zB vs) st|none=>.no)=_;rw[q1]
  |pan v=>exact⟨.pn v st,0,0,h,λ_ _ _ _=>rfl⟩
  |done=>exact h.elim
 |d :: ds,st,m,h=>by
  obtain⟨m',st',⟨N,D,h1⟩,h2⟩:=h;have key:∀ m2,yM P base res K Kp ds L st'.bare m2->(m2=match m' with | .calm=>.calm | .pan v=>.pan v | .done=>.calm)->
    ∃ r N D,ZM r K Kp/\∀ n,N<=n->∀ d',D<=d'->zo P U ⟨λf args m st=>(yT P f).run (evC P base n d') n args m st⟩ fn.results.toList (d :: ds) t st m=r:=by
   intro m2 h3 he;obtain⟨r,N2,D2,h4,h5⟩:=vU hr ht ds st'.bare m2 h3;refine⟨r,max N N2,max D D2,h4,λn hn d' hd=>?_⟩;have e1:=h1 n (χ (Qao _ _) hn) d' (χ (Qao _ _) hd);have e2:=h5 n (χ (Qap _ _) hn) d' (χ (Qap _ _) hd);have:zo P U ⟨λf args m st=>(yT P f).run (evC P base n d') n args m st⟩ fn.results.toList (d :: ds) t st m =
    (match (yT P d.1).run (evC P base n d') n d.2 m st.bare with
     |.ok m' st'=>(match m' with
      |.calm=>zo P U ⟨λf args m st=>(yT P f).run (evC P base n d') n args m st⟩ fn.results.toList ds t st'.bare .calm
      |.pan v=>zo P U ⟨λf args m st=>(yT P f).run (evC P base n d') n args m st⟩ fn.results.toList ds t st'.bare (.pan v)
      |.done=>zo P U ⟨λf args m st=>(yT P f).run (evC P base n d') n args m st⟩ fn.results.toList ds t st'.bare .calm)
     |.no=>.no):=rfl
   rw[this,e1];cases m'<;>(subst he;exact e2)
  cases m' with
  |calm=>exact key _ h2 rfl
  |pan v=>exact key _ h2 rfl
  |done=>exact key _ h2 rfl
def BX (P:Program)(base:Bs)(f:FuncId)(args:List AV)(st:St)(K Kp:AV->St->Prop):Prop:=
 ∃ r,(∃ N D,∀ n,N<=n->∀ d,D<=d->(XR P f).run (evC P base n d) n args st=r)/\ZM r K Kp
theorem jdP {f:FuncId}{F:XF}(hl:jx P f=some F){args:List AV}{st:St}{K Kp:AV->St->Prop}(nd:Bool)(hnd:nd=true->F.body.nd=true){Q:Out->Prop}{Kq:AV->Sl->St->Prop}
  (hQ:∀ o,Q o->match o with | .go L s=>(nd=true->s.fr=[])->yM P base F.res K Kp s.fr L s.bare .calm | .rt L s=>(nd=true->s.fr=[])->yM P base F.res K Kp s.fr L s.bare .calm | .ex _ _ _=>False)
  (hKq:∀ v L s,Kq v L s->(nd=true->s.fr=[])->yM P base F.res K Kp s.fr L s.bare (.pan v))
  (h:xC P base F.body (jj F.ps args) st.bare Q Kq):BX P base f args st K Kp:=by
 unfold jx at hl;cases hf:P.funcs[f]? with
 |none=>rw[hf] at hl;cases hl
 |some fn=>
  rw[hf] at hl;dsimp only at hl;cases hbd:fn.body with
  |none=>rw[hbd] at hl;cases hl
  |some c=>
   rw[hbd] at hl;dsimp only at hl;obtain⟨b,h1,hl⟩:=bind_some hl;obtain⟨r,h2,rfl⟩:=Go.Sy.map_some hl;dsimp only at h hQ hKq hnd;obtain⟨r',N,D,k1,k3⟩:=jne nd c b h1 hnd _ _ _ _ _ (jfi args) h;have hrun:∀ n d,(XR P f).run (evC P base n d) n args st=match (comp P (yc fn c) c).run (evC P base n d) n (Ji args 0 .e) st.bare with
     |.go env st=>zo P (yc fn c) ⟨λf args m st=>(yT P f).run (evC P base n d) n args m st⟩ fn.results.toList st.fr env st.bare .calm
     |.rt env st=>zo P (yc fn c) ⟨λf args m st=>(yT P f).run (evC P base n d) n args m st⟩ fn.results.toList st.fr env st.bare .calm
     |.pn v env st=>zo P (yc fn c) ⟨λf args m st=>(yT P f).run (evC P base n d) n args m st⟩ fn.results.toList st.fr env st.bare (.pan v)
     |_=>.no:=by
    intro n d;unfold XR jdH;rw[hf];dsimp only;rw[hbd];rfl
   have fin:∃ r N D,ZM r K Kp/\∀ n,N<=n->∀ d,D<=d->(XR P f).run (evC P base n d) n args st=r:=by
    have leave:∀ (t:T AV) (L:Sl) (s:St) (m:Md),Qm (yc fn c) t L->yM P base r K Kp s.fr L s.bare m->(∀ n,N<=n->∀ d,D<=d->(XR P f).run (evC P base n d) n args st=zo P (yc fn c) ⟨λf args m st=>(yT P f).run (evC P base n d) n args m st⟩ fn.results.toList s.fr t s.bare m)->
      ∃ r N D,ZM r K Kp/\∀ n,N<=n->∀ d,D<=d->(XR P f).run (evC P base n d) n args st=r:=by
     intro t L s m ht hr he;obtain⟨r2,N2,D2,q1,q2⟩:=vU h2 ht s.fr s.bare m hr;refine⟨r2,max N N2,max D D2,q1,λn hn d hd=>?_⟩;rw[he n (χ (Qao _ _) hn) d (χ (Qao _ _) hd)];exact q2 n (χ (Qap _ _) hn) d (χ (Qap _ _) hd)
    cases r' with
    |no=>exact k1.elim
    |go t s=>
     obtain⟨L,h6,h7,h8⟩:=k1;exact leave t L s .calm h6 (hQ _ h8 h7) λn hn d hd=>by rw[hrun,k3 n hn d hd]
    |rt t s=>
     obtain⟨L,h6,h7,h8⟩:=k1;exact leave t L s .calm h6 (hQ _ h8 h7) λn hn d hd=>by rw[hrun,k3 n hn d hd]
    |ex i t s=>
     obtain⟨L,h6,h7,h8⟩:=k1;exact(hQ _ h8).elim
    |pn v t s=>
     obtain⟨L,h6,h7,h8⟩:=k1;exact leave t L s (.pan v) h6 (hKq _ _ _ h8 h7) λn hn d hd=>by rw[hrun,k3 n hn d hd]
   obtain⟨r2,N2,D2,q1,q2⟩:=fin;exact⟨r2,⟨N2,D2,q2⟩,q1⟩
theorem BX.cx {f:FuncId}{args:List AV}{st:St}(hb:base.at0 f args st){K Kp:AV->St->Prop}(h:BX P base f args st K Kp):CX P base f args st K Kp:=by
 obtain⟨r2,⟨N2,D2,q2⟩,q1⟩:=h;refine⟨r2,⟨N2,D2+1,λn hn d hd=>?_⟩,q1⟩;obtain⟨d',rfl⟩:∃ d',d=d'+1:=⟨d - 1,om⟩;simp only[evC,hb.1,hb.2,uE];exact q2 n hn d' om
theorem Yv {f:FuncId}{F:XF}(hl:jx P f=some F)(hnd:F.body.nd=true){args:List AV}{st:St}{K Kp:AV->St->Prop}
  (h:xC P base F.body (jj F.ps args) st.bare (Xo P F.res K) λv _ s=>Kp v s.bare):BX P base f args st K Kp:=by
 refine jdP hl true (λ_=>hnd) (λo ho=>?_) (λv L s hk hfr=>?_) h
 .cases o with
  |go L s=>
   intro hfr;rw[hfr rfl];have hs:=jfv (hfr rfl);rw[hs];have ho':yv P F.res L s λvs=>K (zB vs) s.bare:=ho;rw[hs] at ho';exact ho'
  |rt L s=>
   intro hfr;rw[hfr rfl];have hs:=jfv (hfr rfl);rw[hs];have ho':yv P F.res L s λvs=>K (zB vs) s.bare:=ho;rw[hs] at ho';exact ho'
  |ex i L s=>exact ho.elim
 .rw[hfr rfl];exact hk
theorem jmp {f:FuncId}{F:XF}(hl:jx P f=some F)(hnd:F.body.nd=true){args:List AV}{st:St}(hb:base.at0 f args st){K Kp:AV->St->Prop}
 (h:xC P base F.body (jj F.ps args) st.bare (Xo P F.res K) λv _ s=>Kp v s.bare):CX P base f args st K Kp:=(Yv hl hnd h).cx hb
theorem jdO {f:FuncId}{F:XF}(hl:jx P f=some F){args:List AV}{st:St}{K Kp:AV->St->Prop}
  (h:xC P base F.body (jj F.ps args) st.bare (UA P base F.res K Kp) (vO P base F.res K Kp)):BX P base f args st K Kp:=by
 refine jdP hl false (λh=>by cases h) (λo ho=>?_) (λv L s hk _=>hk) h;cases o with
 |go L s=>exact λ_=>ho
 |rt L s=>exact λ_=>ho
 |ex i L s=>exact ho.elim
theorem jmq {f:FuncId}{F:XF}(hl:jx P f=some F){args:List AV}{st:St}(hb:base.at0 f args st){K Kp:AV->St->Prop}
 (h:xC P base F.body (jj F.ps args) st.bare (UA P base F.res K Kp) (vO P base F.res K Kp)):CX P base f args st K Kp:=(jdO hl h).cx hb
theorem Z9 {f:FuncId}{H:XH}(hl:gX P f=some H)(hnd:cond H.body.nd (H.ops.all λs=>s.k.nd) false=true){args:List AV}{m:Md}{st:St}(hfr:st.fr=[]){K:Md->St->Prop}
  (h:xO P base H.ops (yf H.dst H.keep (Xc m) ⟨[],jj H.ps args⟩) st (λe s=>xC P base H.body e.g s (jg8 P H.res (XV m) K) λ_ _ _=>False) λ_ _ _=>False):DX P base f args m st K:=by
 unfold gX at hl;cases hf:P.funcs[f]? with
 |none=>rw[hf] at hl;cases hl
 |some fn=>
  rw[hf] at hl;dsimp only at hl;split at hl
  .rename_i id ops c hbd;split at hl
   .rename_i o l hops;obtain⟨hrec,hl⟩:=JU hl;obtain⟨q,h1,hl⟩:=bind_some hl;obtain⟨b,h2,hl⟩:=bind_some hl;obtain⟨r,h3,rfl⟩:=Go.Sy.map_some hl;dsimp only at h hnd;obtain⟨hn1,hn2⟩:=qN hnd;generalize hU:yc fn (.seq (.region id ops false) c)=U at *;have h0:HasO U (qA o.dst []) (Ji args 0 .e) ((yQ o.dst).run (Xc m) []) (yf o.dst (X8 U o.dst) (Xc m) ⟨[],jj ((ω (fn.params.size+fn.nfree)).filter (inU U)) args⟩):=by
     have ht:Qm U (Ji args 0 .e) (jj ((ω (fn.params.size+fn.nfree)).filter (inU U)) args):=by
      rw[<-hU];exact jfi args
     exact(HasO.of_t ht).push o.dst (Xc m)
    obtain⟨r1,N1,D1,k1,k2⟩:=K2 (Q:=Qu (λL s=>xC P base b L s (jg8 P r (XV m) K) λ_ _ _=>False) (jg8 P r (XV m) K)) true l q _ _ _ st h1 h0 (λ_=>hn2) h;have hrun:∀ n d,(yT P f).run (evC P base n d) n args m st=hY P fn U (XV m) (match (y8 P U ops l (qA o.dst [])).run (evC P base n d) n (Ji args 0 .e) ((yQ o.dst).run (Xc m) []) st with
      |.go env st=>(comp P U c).run (evC P base n d) n env st
      |r=>r):=by
     intro n d;unfold yT;rw[hf];dsimp only;rw[hbd];dsimp only;rw[hops];dsimp only;rw[hrec,hU];rfl
    have left:∀ (t:T AV) (L:Sl) (s:St),Qm U t L->s.fr=[]->yv P r L s (λ_=>K (XV m) s)->∃ m' s',(match s.fr with|[]=>(match yD P U fn.results.toList ⟨t,[]⟩ s with|some _=>DR.ok (XV m) s|none=>.no)|_=>.no)=.ok m' s'/\K m' s':=by
     intro t L s ht hs hr;obtain⟨vs,q1,q2⟩:=u1 ht h3 hr;refine⟨_,_,?_,q2⟩;rw[hs];dsimp only;rw[q1]
    cases r1 with
    |no=>exact k1.elim
    |ex i t s=>obtain⟨L,h6,h7,h8⟩:=k1;exact h8.elim
    |rt t s=>
     obtain⟨L,h6,h7,h8⟩:=k1;obtain⟨m',s',e1,e2⟩:=left t L s h6 ((h7 rfl).trans hfr) h8;refine⟨m',s',⟨N1,D1,λn hn d hd=>?_⟩,e2⟩;rw[hrun,k2 n hn d hd];exact e1
    |pn v t s=>obtain⟨L,h6,h7,h8⟩:=k1;exact h8.elim
    |go t s=>
     obtain⟨L,h6,h7,h8⟩:=k1;obtain⟨r2,N2,D2,k4,k5⟩:=jne true c b h2 (λ_=>hn1) t L s _ _ h6 h8;have e0:∀ n,max N1 N2<=n->∀ d,max D1 D2<=d->(yT P f).run (evC P base n d) n args m st=hY P fn U (XV m) r2:=by
      intro n hn d hd;rw[hrun,k2 n (χ (Qao _ _) hn) d (χ (Qao _ _) hd)];dsimp only;rw[k5 n (χ (Qap _ _) hn) d (χ (Qap _ _) hd)]
     cases r2 with
     |no=>exact k4.elim
     |ex i t s=>obtain⟨L,_,_,h8⟩:=k4;exact h8.elim
     |pn v t s=>obtain⟨L,_,_,h8⟩:=k4;exact h8.elim
     |go t s2=>
      obtain⟨L2,g6,g7,g8⟩:=k4;obtain⟨m',s',e1,e2⟩:=left t L2 s2 g6 (((g7 rfl).trans (h7 rfl)).trans hfr) g8;exact⟨m',s',⟨_,_,λn hn d hd=>by rw[e0 n hn d hd];exact e1⟩,e2⟩
     |rt t s2=>
      obtain⟨L2,g6,g7,g8⟩:=k4;obtain⟨m',s',e1,e2⟩:=left t L2 s2 g6 (((g7 rfl).trans (h7 rfl)).trans hfr) g8;exact⟨m',s',⟨_,_,λn hn d hd=>by rw[e0 n hn d hd];exact e1⟩,e2⟩
   .cases hl
  .cases hl
theorem jhj {fv:AV}{vs:List AV}{st:St}{K Kp K' Kp':AV->St->Prop}(h:w6 P base fv vs st K Kp)(h1:∀ v s,K v s->K' v s)(h2:∀ v s,Kp v s->Kp' v s):w6 P base fv vs st K' Kp':=by
 unfold w6 at h ⊢;split at h
 .exact CX.mono h (λv s=>h1 v _) (λv s=>h2 v _)
 .exact h
theorem GZ {k:XK}{e:En}{st:St}{K Kp K' Kp':AV->St->Prop}(h:xK P base k e st K Kp)(h1:∀ v s,K v s->K' v s)(h2:∀ v s,Kp v s->Kp' v s):xK P base k e st K' Kp':=by
 cases k with
 |i i=>exact⟨h.1,jap h.2 h1⟩
 |call f l=>exact⟨h.1,h.2.1,jhj h.2.2 h1 h2⟩
 |pan x=>
  refine⟨h.1,?_⟩;have h3:=h.2;unfold jcO at h3 ⊢;split at h3
  .exact h2 _ _ h3
  .exact h3
 |defer f l=>
  refine⟨h.1,h.2.1,?_⟩;have h3:=h.2.2;unfold UC at h3 ⊢;split at h3
  .exact h1 _ _ h3
  .exact h3
theorem GY:∀ {l:List XS} {e:En} {st:St} {K K':En->St->Prop} {Kp:AV->Sl->St->Prop},xO P base l e st K Kp->(∀ e st,K e st->K' e st)->xO P base l e st K' Kp
 |[],e,st,K,K',Kp,h,hk=>hk e st h
 |s :: l,e,st,K,K',Kp,h,hk=>kM h (λh=>GZ h (λv st' h=>GY h hk) λ_ _ h=>h) λh=>GY h hk
theorem Kk {L0:Sl}:∀ {l:List (XS×Option (List XD))} {e:En} {st:St} {K K':En->St->Prop} {Kp:AV->Sl->St->Prop},xCO P base L0 l e st K Kp->(∀ e st,K e st->K' e st)->xCO P base L0 l e st K' Kp
 |[],e,st,K,K',Kp,h,hk=>hk e st h
 |s :: l,e,st,K,K',Kp,h,hk=>kM h (λh=>GZ h (λv st' h=>Kk h hk) λ_ _ h=>h) λh=>Kk h hk
theorem Kj {L0:Sl}:∀ {l:List (XD×Option (List XD))} {e:En} {tb:List TE} {st:St} {K K':En->St->Prop} {Kp:AV->Sl->St->Prop},xDO P base L0 l e tb st K Kp->(∀ e st,K e st->K' e st)->xDO P base L0 l e tb st K' Kp
 |[],e,tb,st,K,K',Kp,h,hk=>hk e st h
 |s :: l,e,tb,st,K,K',Kp,h,hk=>kM h (λh=>GZ h (λv st' h=>⟨h.1,Kj h.2 hk⟩) λ_ _ h=>h) λh=>Kj h hk
theorem jem {Kp:AV->Sl->St->Prop}:∀ (c:XC) (L:Sl) (st:St) (Q Q':Out->Prop),xC P base c L st Q Kp->(∀ o,Q o->Q' o)->xC P base c L st Q' Kp:=by
 intro c;induction c with
 |skip=>exact λL st Q Q' h hk=>hk _ h
 |ops l=>exact λL st Q Q' h hk=>GY (P:=P) (base:=base) h λe st h=>hk _ h
 |cops l=>exact λL st Q Q' h hk=>Kk (P:=P) (base:=base) h λe st h=>hk _ h
 |dops l=>exact λL st Q Q' h hk=>Kj (P:=P) (base:=base) h λe st h=>hk _ h
 |seq a b iha ihb=>exact λL st Q Q' h hk=>iha L st _ _ h (H9 (λL st h=>ihb L st _ _ h hk) hk)
 |cond x a b iha ihb=>
  intro L st Q Q' h hk;obtain⟨h1,h2⟩:=h;refine⟨h1,?_⟩;unfold uP at h2 ⊢;cases hv:vl ⟨[],L⟩ x<;>rw[hv] at h2<;>try(exact h2.elim)
  rename_i q;cases q
  .exact ihb L st _ _ h2 hk
  .exact iha L st _ _ h2 hk
 |block id a iha=>exact λL st Q Q' h hk=>iha L st _ _ h (jeg hk)
 |loop a iha=>
  intro L st Q Q' h hk;obtain⟨n,h⟩:=h;exact⟨n,K6 (λL st Q Q'=>iha L st Q Q') hk n L st h⟩
 |exit id=>exact λL st Q Q' h hk=>hk _ h
 |ret=>exact λL st Q Q' h hk=>hk _ h
theorem ye {a:XC}{Q:Out->Prop}{Kp:AV->Sl->St->Prop}(I:Nat->Sl->St->Prop)(step:∀ k L st,I k L st->um (xC P base a L st (Qu (λL' st'=>∃ k',k'<k/\I k' L' st') Q) Kp))(k:Nat){L:Sl}{st:St}(h:I k L st):xC P base (.loop a) L st Q Kp:=
 jiR (w:=λL st Q=>xC P base a L st Q Kp) (λL st Q Q'=>jem a L st Q Q') I step k L st h
section
variable {L:Sl} {st:St} {Q:Out->Prop} {Kp:AV->Sl->St->Prop} {e:En} {K:En->St->Prop}
theorem jb6:xC P base .skip L st Q Kp=Q (.go L st):=nr rfl
theorem ja9 (l:List XS):xC P base (.ops l) L st Q Kp=xO P base l ⟨[],L⟩ st (λe st'=>Q (.go e.g st')) Kp:=nr rfl
theorem jhG (l:List (XS×Option (List XD))):xC P base (.cops l) L st Q Kp=xCO P base L l ⟨[],L⟩ st (λe st'=>Q (.go e.g st')) Kp:=nr rfl
theorem jhE (l:List (XD×Option (List XD))):xC P base (.dops l) L st Q Kp=xDO P base L l ⟨[],L⟩ [] st (λe st'=>Q (.go e.g st')) Kp:=nr rfl
theorem jhF (L0:Sl)(tb:List TE):xDO P base L0 [] e tb st K Kp=K e st:=nr rfl
theorem jca (L0:Sl)(d:Option Nat)(kp:Bool)(b:Option (List XD))(k:XK)(te:Option (Option A))(lt:TypeId)(prt:List (Nat×TypeId))(l:List (XD×Option (List XD)))(tb:List TE) :
 xDO P base L0 ((⟨⟨d,kp,none,k⟩,te,lt,prt⟩,b) :: l) e tb st K Kp=xK P base k e st (λv st'=>held P lt (teW te e v st st') tb prt=true/\xDO P base L0 l (yf d kp v e) (teW te e v st st' :: tb) st' K Kp) λv st'=>XO P b e tb st (Kp v L0 st'):=nr rfl
theorem jb9 (L0:Sl)(d:Option Nat)(kp:Bool)(b:Option (List XD))(x:Nat)(want:Bool)(k:XK)(te:Option (Option A))(lt:TypeId)(prt:List (Nat×TypeId))(l:List (XD×Option (List XD)))(tb:List TE) :
 xDO P base L0 ((⟨⟨d,kp,some (x,want),k⟩,te,lt,prt⟩,b) :: l) e tb st K Kp=on1 e (.t x) λv=>onG v want (xK P base k e st (λv st'=>held P lt (teW te e v st st') tb prt=true/\xDO P base L0 l (yf d kp v e) (teW te e v st st' :: tb) st' K Kp) λv st'=>XO P b e tb st (Kp v L0 st')) (xDO P base L0 l (yf d kp qe e) (.none :: tb) st K Kp):=nr rfl
theorem ja8 (a b:XC):xC P base (.seq a b) L st Q Kp=xC P base a L st (Qu (λL' st'=>xC P base b L' st' Q Kp) Q) Kp:=nr rfl
theorem UR (id:Nat)(a:XC):xC P base (.block id a) L st Q Kp=xC P base a L st (yz id Q) Kp:=nr rfl
theorem jb8 (id:Nat):xC P base (.exit id) L st Q Kp=Q (.ex id L st):=nr rfl
theorem jnc:xC P base .ret L st Q Kp=Q (.rt L st):=nr rfl
theorem jcb (x:A)(a b:XC):xC P base (.cond x a b) L st Q Kp=on1 ⟨[],L⟩ x λv=>uP v (xC P base a L st Q Kp) (xC P base b L st Q Kp):=nr rfl
theorem jba:xO P base [] e st K Kp=K e st:=nr rfl
theorem UQ (d:Option Nat)(kp:Bool)(k:XK)(l:List XS) :
 xO P base (⟨d,kp,none,k⟩ :: l) e st K Kp=xK P base k e st (λv st'=>xO P base l (yf d kp v e) st' K Kp) λv st'=>Kp v e.g st':=nr rfl
theorem jel (d:Option Nat)(kp:Bool)(x:Nat)(want:Bool)(k:XK)(l:List XS) :
 xO P base (⟨d,kp,some (x,want),k⟩ :: l) e st K Kp=on1 e (.t x) λv=>onG v want (xK P base k e st (λv st'=>xO P base l (yf d kp v e) st' K Kp) λv st'=>Kp v e.g st') (xO P base l (yf d kp qe e) st K Kp):=nr rfl
theorem jhH (L0:Sl):xCO P base L0 [] e st K Kp=K e st:=nr rfl
theorem jcd (L0:Sl)(d:Option Nat)(kp:Bool)(b:Option (List XD))(k:XK)(l:List (XS×Option (List XD))) :
 xCO P base L0 ((⟨d,kp,none,k⟩,b) :: l) e st K Kp=xK P base k e st (λv st'=>xCO P base L0 l (yf d kp v e) st' K Kp) λv st'=>XO P b e [] st (Kp v L0 st'):=nr rfl
theorem jcc (L0:Sl)(d:Option Nat)(kp:Bool)(b:Option (List XD))(x:Nat)(want:Bool)(k:XK)(l:List (XS×Option (List XD))) :
 xCO P base L0 ((⟨d,kp,some (x,want),k⟩,b) :: l) e st K Kp=on1 e (.t x) λv=>onG v want (xK P base k e st (λv st'=>xCO P base L0 l (yf d kp v e) st' K Kp) λv st'=>XO P b e [] st (Kp v L0 st')) (xCO P base L0 l (yf d kp qe e) st K Kp):=nr rfl
theorem jej (tb:List TE)(p:Prop):XO P (some []) e tb st p=p:=by simp[XO,xR]
theorem Yx (s:XD)(l:List XD)(tb:List TE)(p:Prop):XO P (some (s :: l)) e tb st p=(xR P (s :: l) e tb st/\p):=nr rfl
theorem VU (tb:List TE):xR P [] e tb st=True:=nr rfl
theorem VS (d:Option Nat)(kp:Bool)(i:Ins)(te:Option (Option A))(lt:TypeId)(prt:List (Nat×TypeId))(l:List XD)(tb:List TE) :
 xR P (⟨⟨d,kp,none,.i i⟩,te,lt,prt⟩ :: l) e tb st=wK P base (.i i) e st λv st'=>held P lt (teW te e v st st') tb prt=true/\xR P l (yf d kp v e) (teW te e v st st' :: tb) st':=nr rfl
end
section
variable {e:En} {st:St} {K Kp:AV->St->Prop}
theorem x_i (i:Ins):xK P base (.i i) e st K Kp=wK P base (.i i) e st K:=nr rfl
theorem jhI (f:A)(l:List A):xK P base (.call f l) e st K Kp=on1 e f λfv=>vP e l λvs=>w6 P base fv vs st K Kp:=by
 simp only[xK,on1,Wq]
theorem jnd (x:A):xK P base (.pan x) e st K Kp=on1 e x λv=>jcO v st Kp:=nr rfl
theorem jek (f:A)(l:List A):xK P base (.defer f l) e st K Kp=on1 e f λfv=>vP e l λvs=>UC fv vs st K:=by
 simp only[xK,on1,Wq]
theorem jhD (t:TypeId)(u:AV):jcO (.iface t u) st Kp=Kp (.iface t u) st:=nr rfl
theorem jb7 (res:List RV)(L:Sl)(f:FuncId)(vs:List AV)(ds:List (FuncId×List AV))(m:Md):yM P base res K Kp ((f,vs) :: ds) L st m=DX P base f vs m st.bare λm' st'=>(match m' with
 |.calm=>yM P base res K Kp ds L st'.bare .calm
 |.pan v=>yM P base res K Kp ds L st'.bare (.pan v)
 |.done=>yM P base res K Kp ds L st'.bare .calm):=nr rfl
end
end
def CB (P:Program)(base:Bs)(f:FuncId)(args:List AV)(st:St)(K:AV->St->Prop):Res K:=CW P base f args st λv st'=>K v (back st st')
def XB (P:Program)(base:Bs)(f:FuncId)(args:List AV)(st:St)(K Kp:AV->St->Prop):Res (K,Kp):=CX P base f args st (λv st'=>K v (back st st')) λv st'=>Kp v (back st st')
section
variable {P:Program} {base:Bs}
theorem CB.of {f:FuncId}{args:List AV}{st:St}{K:AV->St->Prop}(h:CW P base f args st λv st'=>K v (back st st')):CB P base f args st K:=h
theorem XB.of {f:FuncId}{args:List AV}{st:St}{K Kp:AV->St->Prop}(h:CX P base f args st (λv st'=>K v (back st st')) λv st'=>Kp v (back st st')):XB P base f args st K Kp:=h
theorem CB.x {f:FuncId}{args:List AV}{st:St}{K Kp:AV->St->Prop}(h:CB P base f args st K):XB P base f args st K Kp:=CW.cx h
theorem XB.cb {f:FuncId}{args:List AV}{st:St}{K:AV->St->Prop}(h:XB P base f args st K λ_ _=>False):CB P base f args st K:=CX.cw h
theorem CB.mono {f:FuncId}{args:List AV}{st:St}{K K':AV->St->Prop}(h:CB P base f args st K)(h1:∀ v s,K v s->K' v s):CB P base f args st K':=CW.mono h λv s=>h1 v _
theorem XB.mono {f:FuncId}{args:List AV}{st:St}{K Kp K' Kp':AV->St->Prop}(h:XB P base f args st K Kp)(h1:∀ v s,K v s->K' v s)(h2:∀ v s,Kp v s->Kp' v s):XB P base f args st K' Kp':=CX.mono h (λv s=>h1 v _) λv s=>h2 v _
def bk (st s:St):St:=back st s.bare
theorem qu {f:FuncId}{F:XF}(hl:jx P f=some F)(hnd:F.body.nd=true){args:List AV}{st:St}(hb:base.at0 f args st){K Kp:AV->St->Prop}
 (h:xC P base F.body (jj F.ps args) st.bare (Xo P F.res λv st'=>K v (back st st')) λv _ s=>Kp v (bk st s)):XB P base f args st K Kp:=jmp hl hnd hb h
theorem CB.gen {f:FuncId}{args:List AV}{st:St}{K:AV->St->Prop}(h:∀ u,u=st->CB P base f args u K):CB P base f args st K:=h st rfl
theorem XB.gen {f:FuncId}{args:List AV}{st:St}{K Kp:AV->St->Prop}(h:∀ u,u=st->XB P base f args u K Kp):XB P base f args st K Kp:=h st rfl
theorem Wh {c:XC}{L:Sl}{st:St}{Q:Out->Prop}{Kp:AV->Sl->St->Prop}(h:∀ u,u=st->xC P base c L u Q Kp):xC P base c L st Q Kp:=h st rfl
variable {st:St} {K Kp:AV->St->Prop}
theorem jb5 (f:FuncId)(vs:List AV):w6 P base (.fn f []) vs st K Kp=XB P base f vs st K Kp:=by
 simp only[w6,QaU];rfl
theorem jb4 (f:FuncId)(caps vs:List AV):w6 P base (.fn f caps) vs st K Kp=XB P base f (vs ++ caps) st K Kp:=nr rfl
theorem jft (s:St):back st s.bare=bk st s:=nr rfl
theorem jfs (s:St):bk st s.bare=bk st s:=nr rfl
end
def pc:AV->Bool
 |.bool _=>true | .int _ _=>true | .str _=>true | .zstr _=>true | .nilp=>true | .nilm=>true | .nilf=>true | .nilif=>true | .lst _ _=>true | .lptr _ _=>true | .fn _ []=>true
 |_=>false
def pa:AV->Bool
 |.agg cs=>cs.all pc
 |v=>pc v
theorem jbF {v:AV}(h:pc v=true)(d:Nat)(m:T AO):fz (d+1) m v=some (v,[]):=by
 cases v<;>first|(cases h;done)|rfl|skip
 case fn f caps=>cases caps with
  |nil=>rfl
  |cons c l=>cases h
theorem Un {m:T AO}:∀ {l:List AV},l.all pc=true->fzs (fz (d+1) m) l=some (l,[])
 |[],_=>rfl
 |v :: l,h=>by
  simp only[QaC,ψ] at h;simp only[fzs];rw[jbF h.1,Un h.2];rfl
theorem jbG {v:AV}(h:pa v=true)(d:Nat)(m:T AO):fz (d+2) m v=some (v,[]):=by
 unfold pa at h;split at h
 .show(fzs (fz (d+1) m) _).map _=_;rw[Un h];rfl
 .exact jbF h (d+1) m
theorem Gn {m:T AO}:∀ {l:List AV},l.all pa=true->fzs (fz (d+2) m) l=some (l,[])
 |[],_=>rfl
 |v :: l,h=>by
  simp only[QaC,ψ] at h;simp only[fzs];rw[jbG h.1,Gn h.2];rfl
def FzD (m d:Nat)(s:St)(v u:AV):Prop:=∃ ks,fz d s.h v=some (u,ks)/\∀ b∈ks,m<=b
def FzsD (m d:Nat)(s:St)(l r:List AV):Prop:=∃ ks,fzs (fz d s.h) l=some (r,ks)/\∀ b∈ks,m<=b
section
variable {m d:Nat} {s:St}
theorem FzD.pc {v:AV}(h:pc v=true):FzD m (d+1) s v v:=⟨[],jbF h d _,λ_ h=>by cases h⟩
theorem FzD.pa {v:AV}(h:pa v=true):FzD m (d+2) s v v:=⟨[],jbG h d _,λ_ h=>by cases h⟩
theorem FzsD.pc {l:List AV}(h:l.all pc=true):FzsD m (d+1) s l l:=⟨[],Un h,λ_ h=>by cases h⟩
theorem FzD.nils:FzD m (d+1) s .nils (.lst 0 []):=⟨[],rfl,λ_ h=>by cases h⟩
theorem FzD.xlst {n:Nat}{cs:List AV}:FzD m (d+1) s (.xlst n cs) (.lst n cs):=⟨[],rfl,λ_ h=>by cases h⟩
theorem FzsD.nil:FzsD m d s [] []:=⟨[],rfl,λ_ h=>by cases h⟩
theorem FzsD.cons {v u:AV}{l r:List AV}(h:FzD m d s v u)(k:FzsD m d s l r):FzsD m d s (v :: l) (u :: r):=by
 obtain⟨ks,h1,h2⟩:=h;obtain⟨js,k1,k2⟩:=k;refine⟨ks ++ js,by simp only[fzs];rw[h1,k1],λb hb=>?_⟩;rcases QaH.1 hb with h|h
 .exact h2 b h
 .exact k2 b h
theorem FzsD.append {l r l' r':List AV}(h:FzsD m d s l r)(k:FzsD m d s l' r'):FzsD m d s (l ++ l') (r ++ r'):=by
 induction l generalizing r with
 |nil=>
  obtain⟨ks,h1,h2⟩:=h;simp only[fzs,Option.some.injEq,Prod.mk.injEq] at h1;obtain⟨rfl,rfl⟩:=h1;exact k
 |cons v l ih=>
  obtain⟨ks,h1,h2⟩:=h;simp only[fzs] at h1;split at h1<;>try(cases h1;done)
  rename_i y k1 l1 k2 e1 e2;simp only[Option.some.injEq,Prod.mk.injEq] at h1;obtain⟨rfl,rfl⟩:=h1;exact FzsD.cons ⟨k1,e1,λb hb=>h2 b (List.mem_append_left _ hb)⟩ (ih ⟨k2,e2,λb hb=>h2 b (List.mem_append_right _ hb)⟩)
theorem FzD.agg {l r:List AV}(h:FzsD m d s l r):FzD m (d+1) s (.agg l) (.agg r):=by
 obtain⟨ks,h1,h2⟩:=h;exact⟨ks,by show(fzs (fz d s.h) l).map _=_;rw[h1];rfl,h2⟩
theorem FzD.tup {l r:List AV}(h:FzsD m d s l r):FzD m (d+1) s (.tup l) (.tup r):=by
 obtain⟨ks,h1,h2⟩:=h;exact⟨ks,by show(fzs (fz d s.h) l).map _=_;rw[h1];rfl,h2⟩
theorem FzD.iface {t:TypeId}{v u:AV}(h:FzD m d s v u):FzD m (d+1) s (.iface t v) (.iface t u):=by
 obtain⟨ks,h1,h2⟩:=h;exact⟨ks,by show(fz d s.h v).map _=_;rw[h1];rfl,h2⟩
def Rw (h:T AO)(b:Nat)(cs:List AV):Prop:=∃ n zl z c,jv h b=some (.row n zl z c)/\jR zl z c n 0=cs
theorem Rw.len {h:T AO}{b:Nat}{cs:List AV}(k:Rw h b cs):∃ n zl z c,jv h b=some (.row n zl z c)/\jR zl z c n 0=cs/\n=cs.length:=by
 obtain⟨n,zl,z,c,h1,h2⟩:=k;exact⟨n,zl,z,c,h1,h2,by rw[<-h2,qm];simp⟩
theorem ja4 (zl:Nat)(z:List AV)(c:T AV){n o k:Nat}(h:o+k<=n):jR zl z c k o=((jR zl z c n 0).drop o).take k:=by
 rw[qm,qm];apply Qbg
 .simp;omega
 .intro i h1 h2;simp
theorem FzD.slice {b n c sz:Nat}{x:Bool}{cs r:List AV}(hR:Rw s.h b cs)(hl:n * sz<=cs.length)(hb:m<=b)(h:FzsD m d s (cs.take (n * sz)) r):FzD m (d+1) s (.slice b 0 n c sz x) (.lst n r):=by
 obtain⟨k,zl,z,ct,h1,h2,h3⟩:=hR.len;obtain⟨ks,q1,q2⟩:=h;refine⟨b :: ks,?_,λb' hb'=>?_⟩
 .show(match jv s.h b with
   |some (.row n' zl z cs)=>cond (QcC (QcD 0 (QcE n sz)) n') ((fzs (fz d s.h) (jR zl z cs (QcE n sz) 0)).map λ(p:List AV×Lc)=>(AV.lst n p.1,b :: p.2)) none
   |_=>none)=_
  rw[h1];dsimp only;have e1:QcC (QcD 0 (QcE n sz)) k=true:=by rw[qi];show 0+n * sz<=k;omega
  have e2:jR zl z ct (QcE n sz) 0=cs.take (n * sz):=by
   rw[ja4 zl z ct (n:=k) (o:=0) (by show 0+n * sz<=k;omega),h2,Qbl];rfl
  rw[e1,e2,q1];rfl
 .rcases QaT.1 hb' with h|h
  .rw[h];exact hb
  .exact q2 b' h
end
inductive Oc where
 |ok (v:AV)
 |pn (v:AV)
def Oc.er:Oc->St->ER
 |.ok v,st=>.ok v st
 |.pn v,st=>.pn v st
def Ys (o:Oc)(K Kp:AV->St->Prop)(st:St):Prop:=match o with | .ok v=>K v st | .pn v=>Kp v st
def XP (G:AV->AV->St->Prop)(o:Oc):AV->St->Prop:=λv s=>match o with | .ok u=>G u v s | .pn _=>False
def Xy (G:AV->AV->St->Prop)(o:Oc):AV->St->Prop:=λv s=>match o with | .pn u=>G u v s | .ok _=>False
theorem Kv {r:ER}{G:AV->AV->St->Prop}{o:Oc}(h:ZM r (XP G o) (Xy G o)):∃ v s u,G u v s/\((r=.ok v s/\o=.ok u)\/(r=.pn v s/\o=.pn u)):=by
 cases r with
 |no=>exact h.elim
 |ok v s=>cases o with
  |ok u=>exact⟨v,s,u,h,.inl ⟨rfl,rfl⟩⟩
  |pn u=>exact h.elim
 |pn v s=>cases o with
  |ok u=>exact h.elim
  |pn u=>exact⟨v,s,u,h,.inr ⟨rfl,rfl⟩⟩
section
variable {P:Program} {base:Bs}
def PX (P:Program)(base:Bs)(f:FuncId)(aZ:List AV)(o:Oc):Prop:=∃ N D,∀ n,N<=n->∀ d,D<=d->∀ st aZ' ks,fzs (fz 9 st.h) aZ'=some (aZ,ks)->(∀ st,base.run f aZ' st=.no)->evC P base n d f aZ' st=o.er (kills ks st)
theorem PX.of {f:FuncId}{aZ:List AV}{o:Oc}(hm:base.pur f=1)(h:BX P base f aZ st0 (XP (λu v s=>FzD 0 9 s v u) o) (Xy (λu v s=>FzD 0 9 s v u) o)):PX P base f aZ o:=by
 obtain⟨r,⟨N,D,h1⟩,h2⟩:=h;refine⟨N,D+1,λn hn d hd st aZ' ks hf hb=>?_⟩;obtain⟨d',rfl⟩:∃ d',d=d'+1:=⟨d - 1,om⟩;simp only[evC,hb,hm,uE,jbq,hf];have e:=h1 n hn d' om;obtain⟨v,s,u,⟨ks,q1,_⟩,⟨q2,q3⟩|⟨q2,q3⟩⟩:=Kv h2<;>(subst q3;rw[e,q2];dsimp only;rw[q1];rfl)
def Oc.flat:Oc->Bool | .ok v=>wS v | .pn v=>wS v
def PL (P:Program)(base:Bs)(f:FuncId)(aZ:List AV)(o:Oc):Prop:=∃ N D,∀ n,N<=n->∀ d,D<=d->∀ st aZ',J2 st.h aZ'=some aZ->(∀ st,base.run f aZ' st=.no)->evC P base n d f aZ' st=o.er st
theorem PL.of {f:FuncId}{aZ:List AV}{o:Oc}(hm:base.pur f=5)(ho:o.flat=true)(h:BX P base f aZ st0 (XP (λu v s=>FzD 0 9 s v u) o) (Xy (λu v s=>FzD 0 9 s v u) o)):PL P base f aZ o:=by
 obtain⟨r,⟨N,D,h1⟩,h2⟩:=h;refine⟨N,D+1,λn hn d hd st aZ' hf hb=>?_⟩;obtain⟨d',rfl⟩:∃ d',d=d'+1:=⟨d - 1,om⟩;simp only[evC,hb,hm,uE,jbC,hf];have e:=h1 n hn d' om;obtain⟨v,s,u,⟨ks,q1,_⟩,⟨q2,q3⟩|⟨q2,q3⟩⟩:=Kv h2<;>(subst q3;rw[e,q2];dsimp only;rw[q1];dsimp only;rw[show wS u=true from ho];rfl)
theorem PL.cx {f:FuncId}{aZ aZ':List AV}{o:Oc}(h:PL P base f aZ o){st:St}(hf:J2 st.h aZ'=some aZ)(hb:∀ st,base.run f aZ' st=.no)(K Kp:AV->St->Prop):XB P base f aZ' st K Kp=Ys o K Kp (back st st):=by
 obtain⟨N,D,h⟩:=h;refine propext ⟨λ⟨r,⟨N2,D2,h2⟩,h3⟩=>?_,λh3=>⟨o.er st,⟨N,D,λn hn d hd=>h n hn d hd st aZ' hf hb⟩,?_⟩⟩
 .have e1:=h (max N N2) (Qao ..) (max D D2) (Qao ..) st aZ' hf hb;have e2:=h2 (max N N2) (Qap ..) (max D D2) (Qap ..);rw[e1] at e2;rw[<-e2] at h3;cases o<;>exact h3
 .cases o<;>exact h3
theorem PX.cxk {f:FuncId}{aZ aZ':List AV}{ks:Lc}{o:Oc}(h:PX P base f aZ o){st:St}(hf:fzs (fz 9 st.h) aZ'=some (aZ,ks))(hb:∀ st,base.run f aZ' st=.no)(K Kp:AV->St->Prop):XB P base f aZ' st K Kp=Ys o K Kp (back st (kills ks st)):=by
 obtain⟨N,D,h⟩:=h;refine propext ⟨λ⟨r,⟨N2,D2,h2⟩,h3⟩=>?_,λh3=>⟨o.er (kills ks st),⟨N,D,λn hn d hd=>h n hn d hd st aZ' ks hf hb⟩,?_⟩⟩
 .have e1:=h (max N N2) (Qao ..) (max D D2) (Qao ..) st aZ' ks hf hb;have e2:=h2 (max N N2) (Qap ..) (max D D2) (Qap ..);rw[e1] at e2;rw[<-e2] at h3;cases o<;>exact h3
 .cases o<;>exact h3
theorem PX.xb {f:FuncId}{aZ:List AV}{o:Oc}(h:PX P base f aZ o)(hp:aZ.all pa=true)(hb:∀ st,base.run f aZ st=.no)(st:St)(K Kp:AV->St->Prop):XB P base f aZ st K Kp=Ys o K Kp st:=
 h.cxk (Gn (d:=7) hp) hb K Kp
def PM (P:Program)(base:Bs)(f:FuncId)(c aZ:List AV)(o:Oc)(c':List AV):Prop:=∃ N D,∀ n,N<=n->∀ d,D<=d->∀ (st:St) p aZ' ks,Rw (kills ks st).h p c->fzs (fz 9 st.h) aZ'=some (aZ,ks)->aZ.all pa=true->(∀ st,base.run f (.ptr p 0 :: aZ') st=.no)->
 evC P base n d f (.ptr p 0 :: aZ') st=o.er ⟨(kills ks st).nx,(j2 (jK p)).run (match jv (kills ks st).h p with|some (.row n zl z cs)=>.row n zl z (qk c' cs 0)|_=>.row 0 1 [] (qk c' .e 0)) (kills ks st).h,min (kills ks st).dirty p,(kills ks st).fr⟩
theorem PM.of {f:FuncId}{c aZ:List AV}{o:Oc}{c':List AV}(hm:base.pur f=3)(hc:c.all pc=true)
  (h:BX P base f (.ptr 0 0 :: aZ) (Zt c) (XP (λu v s=>FzD 1 9 s v u/\∃ c2,Rw s.h 0 c2/\c2.length=c.length/\FzsD 1 9 s c2 c') o) (Xy (λu v s=>FzD 1 9 s v u/\∃ c2,Rw s.h 0 c2/\c2.length=c.length/\FzsD 1 9 s c2 c') o)):PM P base f c aZ o c':=by
 obtain⟨r,⟨N,D,h1⟩,h2⟩:=h;refine⟨N,D+1,λn hn d hd st p aZ' ks0 hR hf hpa hb=>?_⟩;obtain⟨d',rfl⟩:∃ d',d=d'+1:=⟨d - 1,om⟩;obtain⟨k,zl,z,ct,g1,g2,g3⟩:=hR.len;have e:=h1 n hn d' om;have hfc:fzs (fz 9 (kills ks0 st).h) (jR zl z ct k 0)=some (c,[]):=by rw[g2];exact Un hc
 have hf2:fzs (fz 9 (kills ks0 st).h) aZ=some (aZ,[]):=Gn (d:=7) hpa;obtain⟨v,s,u,⟨⟨ks,q1,q1'⟩,c2,qR,ql,⟨js,q4,q4'⟩⟩,q⟩:=Kv h2;obtain⟨k2,zl2,z2,ct2,r1,r2,r3⟩:=qR.len;have he:ZV k v s=some (u,c'):=by
  have a1:(ks.all λb=>QcC 1 b)=true:=Qah.2 λb hb=>by rw[qi];exact q1' b hb
  have a2:(js.all λb=>QcC 1 b)=true:=Qah.2 λb hb=>by rw[qi];exact q4' b hb
  have a3:QcA k2 k=true:=by rw[qJ];omega
  unfold ZV;rw[q1,r1];dsimp only;rw[r2,q4];dsimp only;rw[a1,a2,a3];rfl
 simp only[evC,hb,hm,uE,jby,hf,gU,g1,hfc,hf2];rcases q with ⟨q2,q3⟩|⟨q2,q3⟩<;>(subst q3;rw[e,q2];dsimp only;rw[he];rfl)
end
end Go.Sy
end
