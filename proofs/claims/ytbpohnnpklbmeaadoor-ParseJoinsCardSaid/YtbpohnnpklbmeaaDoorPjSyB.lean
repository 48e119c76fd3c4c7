/-
  The evaluator of runs, second part: code, calls, regions that draw their order; from a run to what a row asks.
-/
import Derived.Test.YtbpohnnpklbmeaaDoorPjSyA
import Derived.WalkKit
import Derived.ProofKit
import Derived.OpenShut
import Derived.IntWalk
set_option linter.unusedVariables false
set_option linter.unusedSimpArgs false
open Int renaming reduceToNat → Qaa, natCast_zero → Qan, zero_add → Qaq, ofNat → Qbb, eq_ofNat_of_zero_le → Qbk, natCast_nonneg → QbR
open Nat renaming reduceAdd → Qab, reduceSub → Qac, reduceMul → Qad, reduceBEq → Qae, le_refl → Qag, ble → Qak, beq → Qap, mul → Qar, le_trans → Qas, add → Qaw, succ → Qax, le_max_right → QaB, le_max_left → QaC, zero_add → QaF, lt_of_lt_of_le → QaH, zero_le → QaM, lt_or_ge → QaR, sub → QaS, add_mul → Qbd, sub_zero → Qbf, mul_le_mul_right → Qbg, lt_succ_self → Qbt, not_lt_zero → Qbw, le_of_eq → Qbx, mod_eq_of_lt → QbB, succ_lt_succ → QbE, add_zero → QbG, zero_mul → QbH, succ_mul → QbI, min_eq_left → QbJ, succ_pos → QbO, ne_of_lt → QbX, add_assoc → QbZ, lt_irrefl → Qca, add_comm → Qci, lt_trichotomy → Qcm
open List renaming getD_cons_zero → Qah, getD_cons_succ → Qai, map_cons → Qaj, length_cons → Qal, map_nil → Qam, length_nil → Qao, length_append → Qat, getElem?_eq_getElem → Qav, length_drop → QaA, range' → QaD, getD_eq_getElem?_getD → QaE, all_eq_true → QaG, getD → QaI, getElem_mem → QaJ, eq_nil_of_length_eq_zero → QaL, range → QaN, length_take → QaO, cons → QaP, cons_append → QaT, length_map → QaU, nil_append → QaV, take_length → QaY, all_cons → QaZ, map_append → Qbe, mem_append → Qbj, map_congr_left → Qbl, take_append_of_le_length → Qbn, range'_succ → Qbo, mem_cons → Qbp, getElem?_append_right → Qbs, getElem?_append_left → Qbu, map_map → Qbv, getElem?_map → Qby, take_succ_cons → Qbz, drop_drop → QbA, drop_zero → QbD, getElem_cons_succ → QbF, mem_cons_of_mem → QbM, ext_getElem → QbN, map_toArray → QbP, append_nil → QbS, getElem_cons_zero → QbT, take_take → QbU, take_zero → QbV, countP_singleton → QbW, length → Qcb, length_pos_iff → Qcd, foldr_cons → Qcf, all_append → Qcg, getElem?_take → Qch, append_assoc → Qck
open Array renaming length_toList → Qau, getElem?_eq_some_iff → Qay, replicate → QaQ, getD_eq_getD_getElem? → Qbq, toList_map → QbC, getElem?_toList → QbK, getElem?_setIfInBounds_ne → QbQ, mem_toList_iff → QbY, toList_append → Qcc, getElem?_eq_getElem → Qce
open Bool renaming and_eq_true → Qaz, eq_iff_iff → QaW, false_eq_true → Qba, not_eq_true' → Qbh, or_eq_true → Qbi, or_eq_false_iff → QbL, true_eq_false → Qcj
open Option renaming map_some → QaK, getD_some → QaX, bind_some → Qbc, map_none → Qbm, map_eq_some_iff → Qbr
open Function renaming comp_def → Qcl
noncomputable section
namespace Go.Ev
open Go.RowKit
theorem Pu.mk {v:AV}{F:St->ER}(h:∀ st,F st=.ok v st):Pu F:=λst x st' e=>by
 rw[h] at e;cases e;exact⟨rfl,λst2=>h st2⟩
section
variable {P:Program} {op:Operand->OF} {env:Env}
theorem jdV (t:TypeId)(ps:List (Nat×OF)):Pu λst=>(vF P t ps).run env st:=by
 unfold vF;split
 ·rename_i z fields _ _;cases fields.toList.all λf=>(Ev.sizeOf P f.type).isSome
  ·exact Pu.no
  ·exact Pu.some λ_=>Pu.ok _
 ·split
  ·exact Pu.some λ_=>Pu.ok _
  ·exact Pu.no
 ·exact Pu.no
theorem uD (x:OF):Pu λst=>(Ja x).run env st:=by
 unfold Ja;dsimp only;generalize x.run env=v;cases v<;>first|exact Pu.no|exact Pu.ok _
theorem KS (b:BinOp)(t:TypeId)(c:Bool)(x y:OF):Pu λst=>(zY P b t c x y).run env st:=by
 unfold zY;split
 ·split<;>first|exact Pu.no|exact Pu.some λ_=>Pu.ok _
 ·split
  ·dsimp only;generalize x.run env=u;generalize y.run env=v;cases u<;>cases v<;>first|exact Pu.no|exact Pu.some λ_=>Pu.ok _
  ·dsimp only;generalize x.run env=u;generalize y.run env=v;cases u<;>cases v<;>first|exact Pu.no|exact Pu.some λ_=>Pu.ok _
  ·dsimp only;generalize x.run env=u;generalize y.run env=v;cases u<;>cases v<;>first|exact Pu.no|exact Pu.cond (Pu.some λ_=>Pu.ok _) Pu.no
 ·dsimp only;generalize x.run env=u;generalize y.run env=v;cases u<;>cases v<;>first|exact Pu.no|exact Pu.some λ_=>Pu.ok _
 ·cases P.eqGuardType P.depth t
  ·simp only[cond_false];split<;>first|exact Pu.no|exact Pu.some λ_=>Pu.ok _
  ·exact Pu.no
theorem GX (b:UnOp)(x:OF):Pu λst=>(Xl b x).run env st:=by
 unfold Xl;split
 ·dsimp only;generalize x.run env=v;cases v<;>first|exact Pu.no|exact Pu.ok _
 ·dsimp only;generalize x.run env=v;cases v<;>first|exact Pu.no|exact Pu.some λ_=>Pu.ok _
 ·exact Pu.bool λ_=>Pu.ok _
 ·exact Pu.no
theorem KP (t:TypeId)(x:OF)(lo hi mx:Option OF):Pu λst=>(Jx P t x lo hi mx).run env st:=by
 unfold Jx;split
 ·split
  ·exact Pu.str λs=>Pu.force λn=>Pu.opt λl=>Pu.opt λh=>Pu.cond (Pu.cond (Pu.ok _) Pu.no) Pu.no
  ·exact Pu.no
 ·split
  ·split
   ·dsimp only;generalize x.run env=v;cases v;case nils=>exact Pu.opt λl=>Pu.opt λh=>Pu.cond (Pu.cond (Pu.ok _) Pu.no) Pu.no
    case slice=>exact Pu.opt λl=>Pu.opt λh=>Pu.cond (Pu.cond (Pu.cond (Pu.force λk=>Pu.force λo=>Pu.force λc=>Pu.ok _) Pu.no) Pu.no) Pu.no
    case lst=>exact Pu.opt λl=>Pu.opt λh=>Pu.cond (Pu.cond (Pu.cond (Pu.ok _) Pu.no) Pu.no) Pu.no
    all_goals exact Pu.no
   ·split
    ·exact Pu.no
    ·dsimp only;generalize x.run env=v;cases v;case slice=>exact Pu.opt λl=>Pu.nat λh=>Pu.nat λm=>Pu.cond (Pu.cond (Pu.cond (Pu.force λk=>Pu.force λo=>Pu.force λc=>Pu.ok _) Pu.no) Pu.no) Pu.no
     case lst=>exact Pu.opt λl=>Pu.nat λh=>Pu.nat λm=>Pu.cond (Pu.cond (Pu.cond (Pu.cond (Pu.ok _) Pu.no) Pu.no) Pu.no) Pu.no
     all_goals exact Pu.no
  ·exact Pu.no
 ·split
  ·split
   ·exact Pu.ptr λb o=>Pu.opt λl=>Pu.opt λh=>Pu.cond (Pu.cond (Pu.force λk=>Pu.force λo=>Pu.force λc=>Pu.ok _) Pu.no) Pu.no
   ·exact Pu.no
  ·exact Pu.no
 ·exact Pu.no
theorem KR (s:TypeId)(x:OF)(f:Nat):Pu λst=>(QP P s x f).run env st:=by
 unfold QP;split
 ·split
  ·split
   ·dsimp only;generalize x.run env=v;cases v;case ptr=>exact Pu.force λo=>Pu.ok _
    case lptr=>exact Pu.ok _
    all_goals exact Pu.no
   ·exact Pu.no
  ·exact Pu.no
 ·exact Pu.no
theorem jdU (s:TypeId)(x:OF)(f:Nat):Pu λst=>(ZQ P s x f).run env st:=by
 unfold ZQ;split
 ·split
  ·exact Pu.agg λcs=>Pu.some λv=>Pu.ok _
  ·exact Pu.no
 ·exact Pu.no
theorem KQ (t:TypeId)(x i:OF):Pu λst=>(JQ P t x i).run env st:=by
 unfold JQ;split
 ·split
  ·exact Pu.ptr λb o=>Pu.nat λi=>Pu.cond (Pu.force λo=>Pu.ok _) Pu.no
  ·exact Pu.no
 ·split
  ·dsimp only;generalize x.run env=v;cases v;case slice=>exact Pu.nat λi=>Pu.cond (Pu.force λo=>Pu.ok _) Pu.no
   case lst=>exact Pu.nat λi=>Pu.cond (Pu.ok _) Pu.no
   all_goals exact Pu.no
  ·exact Pu.no
 ·exact Pu.no
theorem jdT (t:TypeId)(x i:OF):Pu λst=>(YM P t x i).run env st:=by
 unfold YM;split
 ·split
  ·exact Pu.agg λcs=>Pu.nat λi=>Pu.cond (Pu.some λv=>Pu.ok _) Pu.no
  ·exact Pu.no
 ·exact Pu.str λs=>Pu.nat λi=>Pu.cond (Pu.ok _) Pu.no
 ·exact Pu.no
theorem wb (b:Builtin)(hb:b=.cap\/b=.min\/b=.max)(ts:Array TypeId)(l:List OF):Pu λst=>(qb P b ts l).run env st:=by
 unfold qb;split
 ·rcases hb with h|h|h<;>cases h
 ·unfold vC;split
  ·dsimp only;rename_i x _ _ _ _ _ _;generalize OF.run _ env=v;cases v;case nils=>exact Pu.ok _
   case slice b o n c sz ex=>cases ex<;>first|exact Pu.no|exact Pu.ok _
   all_goals exact Pu.no
  ·exact Pu.no
 ·rcases hb with h|h|h<;>cases h
 ·rcases hb with h|h|h<;>cases h
 ·exact Pu.some λv=>Pu.ok _
 ·exact Pu.some λv=>Pu.ok _
 ·exact Pu.no
theorem jhw (ts:Array TypeId)(l:List OF)(h:∀ t r,ts.toList=t :: r->∀ k e,P.underlying t≠some (.map k e)):Pu λst=>(qb P .len ts l).run env st:=by
 unfold qb;split
 ·rename_i x t r ht;unfold XI;split
  ·dsimp only;generalize OF.run _ env=v;cases v;case str=>exact Pu.force λ_=>Pu.ok _
   case zstr=>exact Pu.ok _
   all_goals exact Pu.no
  ·exact Pu.ok _
  ·dsimp only;generalize OF.run _ env=v;cases v;case nils=>exact Pu.ok _
   case slice=>exact Pu.ok _
   case lst=>exact Pu.ok _
   all_goals exact Pu.no
  ·rename_i hu;exact absurd hu (h _ _ ht _ _)
  ·exact Pu.no
 all_goals first|exact Pu.no|contradiction
theorem jbV (o:Op)(h:jC P o=.pure):Pu λst=>(je P op o).run env st:=by
 cases o<;>simp only[jC] at h<;>try(cases h;done)
 case move x=>exact Pu.ok _
 case assign x=>exact Pu.ok _
 case pick c a b=>exact Pu.bool λq=>Pu.ok _
 case build t ps=>exact jdV t _
 case nilCheck x=>exact uD _
 case binOp b t x y s=>exact KS _ _ _ _ _
 case unOp b t x=>exact GX _ _
 case makeInterface t x=>
  simp only[je];split
  ·exact Pu.no
  ·exact Pu.ok _
  ·exact Pu.no
 case makeFunc f first caps=>
  cases f;case func f=>
   simp only[je];split
   ·exact Pu.ok _
   ·exact Pu.no
  all_goals exact Pu.no
 case slice t x lo hi mx=>exact KP _ _ _ _ _
 case fieldAddr s x f=>exact KR _ _ _
 case field s x f=>exact jdU _ _ _
 case indexAddr t x i=>exact KQ _ _ _
 case index t x i=>exact jdT _ _ _
 case extract x i=>
  simp only[je];generalize (op x).run env=v;cases v;case tup=>exact Pu.cond (Pu.ok _) Pu.no
  all_goals exact Pu.no
 case call c=>
  split at h
  ·rename_i hc;simp only[je,hc];split at h
   ·rename_i t r ht;split at h
    ·cases h
    ·rename_i hnm;refine jhw _ _ λt' r' ht' k e hm=>?_;rw[ht] at ht';cases ht';exact hnm k e hm
   ·cases h
  ·rename_i hc;simp only[je,hc];exact wb _ (.inl rfl) _ _
  ·rename_i hc;simp only[je,hc];exact wb _ (.inr (.inl rfl)) _ _
  ·rename_i hc;simp only[je,hc];exact wb _ (.inr (.inr rfl)) _ _
  ·cases h
def Mk (F:St->ER):Prop:=∀ st v st',F st=.ok v st'->∃ o,st'=⟨st.nx+1,(jT (jv st.nx)).run o st.h,st.dirty,st.fr⟩ /\
 ∀ st2,st2.nx=st.nx->F st2=.ok v ⟨st2.nx+1,(jT (jv st2.nx)).run o st2.h,st2.dirty,st2.fr⟩
theorem Mk.no:Mk λ_=>.no:=λst v st' h=>by cases h
theorem Mk.cond {b:Bool}{F G:St->ER}(hF:Mk F)(hG:Mk G):Mk λst=>cond b (F st) (G st):=by cases b<;>assumption
theorem Mk.some {α:Type}{x:Option α}{F:α->St->ER}(h:∀ b,Mk (F b)):Mk λst=>jG x λb=>F b st:=by
 cases x<;>first|exact h _|exact Mk.no
theorem Mk.nat {x:AV}{F:Nat->St->ER}(h:∀ b,Mk (F b)):Mk λst=>j9 x λb=>F b st:=by
 unfold j9;split
 ·simp only[jo];exact h _
 ·exact Mk.no
theorem Mk.force {n:Nat}{F:Nat->St->ER}(h:∀ b,Mk (F b)):Mk λst=>force n λb=>F b st:=by
 simp only[jo];exact h _
theorem Mk.alloc (o:AO)(f:Nat->AV):Mk λst=>st.alloc o λb st=>.ok (f b) st:=λst v st' h=>by
 simp only[St.alloc,jo] at h;cases h;refine⟨o,rfl,λst2 h2=>?_⟩;simp only[St.alloc,jo,h2]
theorem Mk.row (l:List AV):Mk λst=>newRow st l:=by
 unfold newRow;exact Mk.force λn=>Mk.alloc _ _
theorem jb4 (o:Op)(h:jC P o=.makes):Mk λst=>(je P op o).run env st:=by
 cases o<;>simp only[jC] at h<;>try(cases h;done)
 case alloc t=>
  simp only[je];cases zeroCells P t with
  |none=>exact Mk.no
  |some z=>
   dsimp only;cases lall AV.cell z
   ·exact Mk.no
   ·exact Mk.row _
 case box t x=>exact Mk.cond (Mk.row _) Mk.no
 case buildSlice t n ps=>
  simp only[je];unfold Xt;split
  ·split
   ·generalize cond _ _ false=cc;cases cc
    ·exact Mk.no
    ·exact Mk.some λcells=>Mk.cond (Mk.force λn=>Mk.alloc _ _) Mk.no
   ·exact Mk.no
  ·exact Mk.no
 case makeMap t r=>
  cases r with
  |none=>exact Mk.alloc _ _
  |some r=>exact Mk.no
 case makeSlice t l c=>
  simp only[je];unfold X0;split
  ·split
   ·generalize cond _ _ false=cc;cases cc
    ·exact Mk.no
    ·exact Mk.nat λl=>Mk.nat λc=>Mk.cond (Mk.cond (Mk.cond (Mk.force λn=>Mk.alloc _ _) Mk.no) Mk.no) Mk.no
   ·exact Mk.no
  ·exact Mk.no
 case call c=>
  exfalso;split at h
  ·split at h
   ·split at h<;>cases h
   ·cases h
  all_goals cases h
theorem jgd {t:TypeId}{x:OF}{st st':St}{v:AV}(h:(QO P t x).run env st=.ok v st'):st'=st/\(qn P t).run (x.run env) st.h=some v:=by
 unfold QO at h;dsimp only at h;cases hk:(qn P t).run (x.run env) st.h with
 |none=>rw[hk] at h;cases h
 |some u=>rw[hk] at h;cases h;exact⟨rfl,rfl⟩
theorem w9 {t:TypeId}{b o:Nat}{h h2:T AO}(e:jh h b=jh h2 b):(qn P t).run (.ptr b o) h=(qn P t).run (.ptr b o) h2:=by
 unfold qn;split
 ·simp only[e]
 ·simp only[e]
 ·rfl
theorem jb8 {t:TypeId}{a v:AV}{h:T AO}(e:(qn P t).run a h=some v):(∃ b o,a=.ptr b o)\/∃ cs o,a=.lptr cs o:=by
 unfold qn at e;split at e
 ·cases a<;>first|(cases e;done)|exact .inl ⟨_,_,rfl⟩|exact .inr ⟨_,_,rfl⟩
 ·cases a<;>first|(cases e;done)|exact .inl ⟨_,_,rfl⟩|exact .inr ⟨_,_,rfl⟩
 ·cases e
theorem jab {t:TypeId}{cs:List AV}{o:Nat}(h h2:T AO):(qn P t).run (.lptr cs o) h=(qn P t).run (.lptr cs o) h2:=by
 unfold qn;split<;>rfl
end
def zN (w:Bool)(st:St):St:=cond w (stW st) st
def unSt (w:Bool)(st st1:St):St:=cond w ⟨st1.nx,st1.h,st.dirty,st1.fr⟩ st1
theorem jbu {st st1:St}{k:St->R}:unW st st1 k=cond (Qak st.nx st1.dirty) (k ⟨st1.nx,st1.h,st.dirty,st1.fr⟩) .no:=by
 simp only[unW,jo]
def OpR (P:Program)(op:Operand->OF)(w:Bool)(call:qd)(o:Op)(env:Env)(st:St)(v:AV)(st':St):Prop:=
 ∃ st1,(w=true->st.nx<=st1.dirty) /\
  match j5 o with
  |some (f,args)=>∃ fid caps,(op f).run env=.fn fid caps/\call fid (yA (qE (λx=>(op x).run env) args) caps) (zN w st)=.ok v st1/\st'=back st (unSt w st st1)
  |none=>(je P op o).run env (zN w st)=.ok v st1/\st'=unSt w st st1
def zB (P:Program)(op:Operand->OF)(o:Op)(env:Env)(v:AV)(st st':St):TE:=
 match jC P o with
 |.pure=>.none
 |.makes=>.none
 |.reads=>(match o with | .load _ a=>.rd ((op a).run env) v|_=>.none)
 |.writes=>.wr st.h st'.h
 |.other=>.wr st.h st'.h
theorem zW {P:Program}{o:Op}{x:Operand×List Operand}(h:j5 o=some x):jC P o=.other:=by
 unfold j5 at h;split at h
 ·rename_i c;split at h
  ·rename_i f hf;simp only[jC,hf]
  ·cases h
 ·cases h
def OpP (op:Operand->OF)(call:qd)(o:Op)(env:Env)(st:St)(v:AV)(st':St):Prop:=
 ∃ f args fid caps st1,j5 o=some (f,args)/\(op f).run env=.fn fid caps/\call fid (yA (qE (λx=>(op x).run env) args) caps) st=.pn v st1/\st'=back st st1
theorem jhy {P:Program}{op:Operand->OF}{w:Bool}{call:qd}{o:Op}{env:Env}{st:St}{k:AV->TE->St->R}{kp:AV->St->R}(hw:w=true->jC P o=.other)
  (h:(opD P op w o).run call env st k kp≠.no):(∃ v st',OpR P op w call o env st v st'/\(opD P op w o).run call env st k kp=k v (zB P op o env v st st') st') \/
   (∃ v st',OpP op call o env st v st'/\(opD P op w o).run call env st k kp=kp v st'):=by
 unfold opD at h ⊢;unfold OpR OpP;cases hc:j5 o with
 |some x=>
  obtain⟨f,args⟩:=x;rw[hc] at h;have ho:=zW (P:=P) hc;dsimp only at h ⊢;cases w
  ·simp only[cond_false] at h ⊢;cases hf:(op f).run env<;>rw[hf] at h<;>try(exact absurd rfl h)
   rename_i fid caps;dsimp only at h ⊢;cases he:call fid (yA (qE (λx=>(op x).run env) args) caps) st with
   |no=>rw[he] at h;exact absurd rfl h
   |pn v s=>exact .inr ⟨v,back st s,⟨f,args,fid,caps,s,rfl,hf,he,rfl⟩,rfl⟩
   |ok v s=>
    refine .inl ⟨v,back st s,⟨s,(λh=>by cases h),fid,caps,rfl,he,rfl⟩,?_⟩;simp only[zB,ho];rfl
  ·simp only[cond_true] at h ⊢;cases hf:(op f).run env<;>rw[hf] at h<;>try(exact absurd rfl h)
   rename_i fid caps;dsimp only at h ⊢;cases he:call fid (yA (qE (λx=>(op x).run env) args) caps) (stW st) with
   |no=>rw[he] at h;exact absurd rfl h
   |pn v s=>rw[he] at h;exact absurd rfl h
   |ok v s=>
    rw[he] at h;dsimp only at h ⊢;rw[jbu] at h ⊢;cases hb:Qak st.nx s.dirty
    ·rw[hb] at h;exact absurd rfl h
    ·rw[jY] at hb;refine .inl ⟨v,back st ⟨s.nx,s.h,st.dirty,s.fr⟩,⟨s,λ_=>hb,fid,caps,rfl,he,rfl⟩,?_⟩;simp only[zB,ho];rfl
 |none=>
  rw[hc] at h;have plain:∀ (w:Bool) (te:AV->T AO->T AO->Env->TE),(w=false)->(∀ v st',te v st.h st'.h env=zB P op o env v st st')->(J6 P op o te).run call env st k kp≠.no->
    ∃ v st',(∃ st1,(w=true->st.nx<=st1.dirty)/\(je P op o).run env (zN w st)=.ok v st1/\st'=unSt w st st1)/\(J6 P op o te).run call env st k kp=k v (zB P op o env v st st') st':=by
   intro w te hw hte hne;subst hw;unfold J6 at hne ⊢;dsimp only at hne ⊢;cases he:(je P op o).run env st with
   |no=>rw[he] at hne;exact absurd rfl hne
   |pn v s=>rw[he] at hne;exact absurd rfl hne
   |ok v s=>
    refine⟨v,s,⟨s,(λh=>by cases h),he,rfl⟩,?_⟩;dsimp only;rw[hte]
  dsimp only at h ⊢;have hwf:jC P o≠.other->w=false:=λhne=>by
   cases w
   ·rfl
   ·exact absurd (hw rfl) hne
  left;split at h
  ·rename_i hcl;exact plain w _ (hwf (by rw[hcl];simp)) (λv st'=>by simp only[zB,hcl]) h
  ·rename_i hcl;exact plain w _ (hwf (by rw[hcl];simp)) (λv st'=>by simp only[zB,hcl]) h
  ·rename_i hcl;exact plain w _ (hwf (by rw[hcl];simp)) (λv st'=>by simp only[zB,hcl]) h
  ·exact absurd rfl h
  ·rename_i hcl;exact plain w _ (hwf (by rw[hcl];simp)) (λv st'=>by simp only[zB,hcl]) h
  ·rename_i o2 c2 o1 hcl;cases w
   ·simp only[cond_false] at h ⊢;exact plain false _ rfl (λv st'=>by simp only[zB,hcl]) h
   ·simp only[cond_true] at h ⊢;cases he:(je P op o2).run env (stW st) with
    |no=>rw[he] at h;exact absurd rfl h
    |pn v s=>rw[he] at h;exact absurd rfl h
    |ok v s=>
     rw[he] at h;dsimp only at h ⊢;rw[jbu] at h ⊢;cases hb:Qak st.nx s.dirty
     ·rw[hb] at h;exact absurd rfl h
     ·rw[jY] at hb;refine⟨v,⟨s.nx,s.h,st.dirty,s.fr⟩,⟨s,λ_=>hb,he,rfl⟩,?_⟩;simp only[zB,hcl];rfl
def qD (ops:Array Oper)(p:Nat):Option Tmp:=(ops[p]?).bind (·.dst)
def jW (ops:Array Oper):Nat->List Nat
 |0=>[]
 |p+1=>j6 (qD ops p) (jW ops p)
def j7 (ops:Array Oper)(V:Nat->AV):Nat->List AV
 |0=>[]
 |p+1=>(yf (qD ops p)).run (V p) (j7 ops V p)
def yZ (E:Nat->TE):Nat->List TE
 |0=>[]
 |p+1=>E p :: yZ E p
def j8:Nat->List Nat
 |0=>[]
 |p+1=>p :: j8 p
theorem JM {ops:Array Oper}{V W:Nat->AV}:∀ p,(∀ i,i<p->V i=W i)->j7 ops V p=j7 ops W p
 |0,_=>rfl
 |p+1,h=>by simp only[j7];rw[h p (by omega),JM p λi hi=>h i (by omega)]
theorem XT {V W:Nat->TE}:∀ p,(∀ i,i<p->V i=W i)->yZ V p=yZ W p
 |0,_=>rfl
 |p+1,h=>by simp only[yZ];rw[h p (by omega),XT p λi hi=>h i (by omega)]
structure TrAt (P:Program)(call:qd)(U:Nat)(ops:Array Oper)(t:T AV)(ab:Bool)(p:Nat)(rs:List AV)(tb:List TE)(s:St)(x:Bool)(v:AV)(te:TE)(s':St)(o:Oper):Prop where
 hop:ops[p]? = some o
 out:ab=true->x=false
 want:ab=false->match qG (jy U (jW ops p)) ops o with|none=>x=true|some wf=>wf.run ⟨t,rs⟩=some x
 run:x=true->OpR P (jy U (jW ops p)) (ye P ops p o) call o.op ⟨t,rs⟩ s v s'/\te=zB P (jy U (jW ops p)) o.op ⟨t,rs⟩ v s s'/\held P (Jh o.op) te tb (partners P ops (j8 p) p o)=true
 skip:x=false->v=j1/\te=.none/\s'=s
theorem uw {P:Program}{ops:Array Oper}{i:Nat}{o:Oper}(h:ye P ops i o=true):jC P o.op=.other:=by
 unfold ye at h;simp only[Qaz] at h;have:=h.1;unfold zU at this;split at this
 ·assumption
 ·cases this
def Gf (P:Program)(call:qd)(n U:Nat)(ops:Array Oper)(t:T AV)(fin:List Nat->RD)(pan:Nat->List Nat->List Nat->AV->St->RD)(abs:Nat->Bool)(p:Nat)(V0:Nat->AV)(E0:Nat->TE)(st:St)(r:R):Prop:=
 ∃ (σ:Nat->St) (V:Nat->AV) (E:Nat->TE) (ex:Nat->Bool) (m:Nat),(∀ i,i<p->V i=V0 i)/\(∀ i,i<p->E i=E0 i)/\σ p=st/\p<=m /\
  (∀ i,p<=i->i<m->∃ o,TrAt P call U ops t (abs i) i (j7 ops V i) (yZ E i) (σ i) (ex i) (V i) (E i) (σ (i+1)) o) /\
  ((m=ops.size/\r=(fin (jW ops m)).run call n t (j7 ops V m) (yZ E m) (σ m)) \/
   (m<ops.size/\∃ o v st',ops[m]? = some o/\abs m=false/\(match qG (jy U (jW ops m)) ops o with|none=>True|some wf=>wf.run ⟨t,j7 ops V m⟩=some true) /\
    OpP (jy U (jW ops m)) call o.op ⟨t,j7 ops V m⟩ (σ m) v st'/\r=(pan m (j8 m) (jW ops m) v st').run call n t (j7 ops V m) (yZ E m) (σ m)))
theorem wP {P:Program}{call:qd}{n U:Nat}{ops:Array Oper}{t:T AV}(fin:List Nat->RD)(pan:Nat->List Nat->List Nat->AV->St->RD)(abs:Nat->Bool):∀ (k p:Nat),p+k=ops.size->∀ (V0:Nat->AV) (E0:Nat->TE) (st:St),
  (qO P U ops fin pan abs (QaD p k) (j8 p) (jW ops p)).run call n t (j7 ops V0 p) (yZ E0 p) st≠.no->
  Gf P call n U ops t fin pan abs p V0 E0 st ((qO P U ops fin pan abs (QaD p k) (j8 p) (jW ops p)).run call n t (j7 ops V0 p) (yZ E0 p) st)
 |0,p,hp,V0,E0,st,h=>by
  have:p=ops.size:=by omega
  subst this;exact⟨λ_=>st,V0,E0,λ_=>true,ops.size,λ_ _=>rfl,λ_ _=>rfl,rfl,Qag _,λi h1 h2=>by omega,.inl ⟨rfl,rfl⟩⟩
 |k+1,p,hp,V0,E0,st,h=>by
  have hlt:p<ops.size:=by omega
  obtain⟨o,ho⟩:∃ o,ops[p]? = some o:=⟨ops[p],by simp[hlt]⟩;have hd:qD ops p=o.dst:=by simp[qD,ho]
  have e:qO P U ops fin pan abs (QaD p (k+1)) (j8 p) (jW ops p) =
    cond (abs p) (vT o.dst (qO P U ops fin pan abs (QaD (p+1) k) (j8 (p+1)) (jW ops (p+1))))
     (Jl (qG (jy U (jW ops p)) ops o) o.dst
      (zw P (jy U (jW ops p)) (ye P ops p o) (partners P ops (j8 p) p o) o (qO P U ops fin pan abs (QaD (p+1) k) (j8 (p+1)) (jW ops (p+1))) (pan p (j8 p) (jW ops p)))
      (qO P U ops fin pan abs (QaD (p+1) k) (j8 (p+1)) (jW ops (p+1)))):=by
   have e1:qO P U ops fin pan abs (p :: QaD (p+1) k) (j8 p) (jW ops p)=(match ops[p]? with
    |some o=>cond (abs p) (vT o.dst (qO P U ops fin pan abs (QaD (p+1) k) (p :: j8 p) (j6 o.dst (jW ops p))))
     (Jl (qG (jy U (jW ops p)) ops o) o.dst
      (zw P (jy U (jW ops p)) (ye P ops p o) (partners P ops (j8 p) p o) o (qO P U ops fin pan abs (QaD (p+1) k) (p :: j8 p) (j6 o.dst (jW ops p))) (pan p (j8 p) (jW ops p)))
      (qO P U ops fin pan abs (QaD (p+1) k) (p :: j8 p) (j6 o.dst (jW ops p))))
    |none=>XP):=rfl
   rw[Qbo,e1,ho];simp only[j8,jW,hd]
  rw[e] at h ⊢;have follow:∀ (x:Bool) (v:AV) (te:TE) (st':St),TrAt P call U ops t (abs p) p (j7 ops V0 p) (yZ E0 p) st x v te st' o->
    (qO P U ops fin pan abs (QaD (p+1) k) (j8 (p+1)) (jW ops (p+1))).run call n t ((yf o.dst).run v (j7 ops V0 p)) (QaP te (yZ E0 p)) st'≠.no->
    Gf P call n U ops t fin pan abs p V0 E0 st ((qO P U ops fin pan abs (QaD (p+1) k) (j8 (p+1)) (jW ops (p+1))).run call n t ((yf o.dst).run v (j7 ops V0 p)) (QaP te (yZ E0 p)) st'):=by
   intro x v te st' htr hne;have hV:∀ i,i<p->(λi=>if i=p then v else V0 i) i=V0 i:=λi hi=>by simp only;rw[if_neg (by omega)]
   have hE:∀ i,i<p->(λi=>if i=p then te else E0 i) i=E0 i:=λi hi=>by simp only;rw[if_neg (by omega)]
   have h1:j7 ops (λi=>if i=p then v else V0 i) (p+1)=(yf o.dst).run v (j7 ops V0 p):=by
    simp only[j7,hd,if_true];rw[JM p hV]
   have h2:yZ (λi=>if i=p then te else E0 i) (p+1)=te :: yZ E0 p:=by
    simp only[yZ,if_true];rw[XT p hE]
   rw[<-h1,<-h2] at hne ⊢;obtain⟨σ,V,E,ex,m,k1,k2,k3,k6,k4,k5⟩:=wP fin pan abs k (p+1) (by omega) _ _ st' hne;have g1:∀ i,i<p->V i=V0 i:=λi hi=>(k1 i (by omega)).trans (hV i hi);have g2:∀ i,i<p->E i=E0 i:=λi hi=>(k2 i (by omega)).trans (hE i hi);refine⟨λi=>if i=p then st else σ i,V,E,λi=>if i=p then x else ex i,m,g1,g2,by simp,by omega,λi hi hi2=>?_,?_⟩
   ·by_cases hip:i=p
    ·subst hip;refine⟨o,?_⟩;simp only[if_true];rw[if_neg (by omega),k3,JM i g1,XT i g2,k1 i (by omega),k2 i (by omega)];simpa using htr
    ·simp only[if_neg hip];rw[if_neg (by omega)];exact k4 i (by omega) hi2
   ·simp only;rw[if_neg (by omega)];exact k5
  have step:abs p=false->(zw P (jy U (jW ops p)) (ye P ops p o) (partners P ops (j8 p) p o) o (qO P U ops fin pan abs (QaD (p+1) k) (j8 (p+1)) (jW ops (p+1))) (pan p (j8 p) (jW ops p))).run call n t (j7 ops V0 p) (yZ E0 p) st≠.no->
    (match qG (jy U (jW ops p)) ops o with|none=>true=true|some wf=>wf.run ⟨t,j7 ops V0 p⟩=some true)->
    Gf P call n U ops t fin pan abs p V0 E0 st ((zw P (jy U (jW ops p)) (ye P ops p o) (partners P ops (j8 p) p o) o (qO P U ops fin pan abs (QaD (p+1) k) (j8 (p+1)) (jW ops (p+1))) (pan p (j8 p) (jW ops p))).run call n t (j7 ops V0 p) (yZ E0 p) st):=by
   intro hab hne hw;unfold zw at hne ⊢;dsimp only at hne ⊢;rcases jhy (λhwt=>uw hwt) hne with ⟨v,st',hO,hk⟩|⟨v,st',hO,hk⟩
   ·rw[hk] at hne ⊢;try dsimp only at hne ⊢
    cases hh:held P (Jh o.op) (zB P (jy U (jW ops p)) o.op ⟨t,j7 ops V0 p⟩ v st st') (yZ E0 p) (partners P ops (j8 p) p o)
    ·rw[hh] at hne;exact absurd rfl hne
    ·rw[hh] at hne;exact follow true v _ st' ⟨ho,(λh=>by simp_all),λ_=>hw,λ_=>⟨hO,rfl,hh⟩,(λh=>by cases h)⟩ hne
   ·rw[hk];refine⟨λ_=>st,V0,E0,λ_=>true,p,λ_ _=>rfl,λ_ _=>rfl,rfl,Qag _,λi h1 h2=>by omega,.inr ⟨hlt,o,v,st',ho,hab,?_,hO,rfl⟩⟩;split at hw
    ·trivial
    ·exact hw
  cases hab:abs p
  ·rw[hab] at h;simp only[cond_false] at h ⊢;unfold Jl at h ⊢;cases hwf:qG (jy U (jW ops p)) ops o with
   |none=>
    rw[hwf] at h step;exact step hab h rfl
   |some wf=>
    rw[hwf] at h step;simp only at h ⊢ step;cases hb:wf.run ⟨t,j7 ops V0 p⟩ with
    |none=>rw[hb] at h;exact absurd rfl h
    |some b=>
     rw[hb] at h step;dsimp only at h ⊢;cases b
     ·exact follow false j1 .none st ⟨ho,(λh=>by simp_all),(λ_=>by rw[hwf];exact hb),(λh=>by cases h),λ_=>⟨rfl,rfl,rfl⟩⟩ h
     ·exact step hab h rfl
  ·rw[hab] at h;exact follow false j1 .none st ⟨ho,λ_=>rfl,(λh=>by simp_all),(λh=>by cases h),λ_=>⟨rfl,rfl,rfl⟩⟩ h
end Go.Ev
end
noncomputable section
namespace Go.Ev
open Go.RowKit
def Runs (P:Program)(o:Oper)(a:Act)(w:World)(R:Value->World->Prop):Prop:=
 (∃ x w',((execOp a.eval o).run P w=.ok (.value x) w'\/((execOp a.eval o).run P w=.ok .skip w'/\x=undef))/\R x w') \/
 (∃ f vs,(execOp a.eval o).run P w=.ok (.enter f vs) w/\Calls P f vs w λe w'=>∃ x,e=.returned x/\R x w')
theorem Runs.wp {P:Program}{o:Oper}{a:Act}{w:World}{R:Value->World->Prop}(h:Runs P o a w R){K:Act->World->Prop}{Q:Exit->Act->World->Prop}
  (hk:∀ x w',R x w'->K (a.put o.dst x) w'):o.wp P a w K Q:=by
 unfold Oper.wp;rcases h with ⟨x,w',h1,hR⟩|⟨f,vs,h1,h2⟩
 ·rcases h1 with h1|⟨h1,rfl⟩
  ·rw[h1];exact hk x w' hR
  ·rw[h1];exact hk undef w' hR
 ·rw[h1];exact Calls.mono h2 λe w' he=>by
   obtain⟨x,rfl,hR⟩:=he;exact hk x w' hR
theorem Runs.ex {P:Program}{o:Oper}{a:Act}{w:World}{R:Value->World->Prop}(h:Runs P o a w R):∃ x w',R x w':=by
 rcases h with ⟨x,w',_,hR⟩|⟨f,vs,_,h2⟩
 ·exact⟨x,w',hR⟩
 ·obtain⟨e,w',_,⟨x,_,hR⟩,_⟩:=h2 [];exact⟨x,w',hR⟩
def VM (o:Op):Bool:=match o with | .defer _=>false|_=>true
theorem Yz (w:Bool)(st st1:St):(unSt w st st1).h=st1.h/\(unSt w st st1).nx=st1.nx/\(unSt w st st1).fr=st1.fr:=by cases w<;>exact⟨rfl,rfl,rfl⟩
theorem wL (w:Bool)(st:St):(zN w st).h=st.h/\(zN w st).nx=st.nx/\(zN w st).fr=st.fr:=by cases w<;>exact⟨rfl,rfl,rfl⟩
theorem Cleanly.unSt {ι ι':Inj}{w:Bool}{st st1:St}(h:Cleanly ι ι' (zN w st) st1)(hd:w=true->st.nx<=st1.dirty):Cleanly ι ι' st (unSt w st st1):=by
 cases w
 ·exact h
 ·have hd:=hd rfl;exact⟨h.nx,Qag _,λb hb _=>h.keep b hb (QaH hb hd),h.above,h.u,h.le,h.n⟩
structure Left (ι:Inj)(w:World)(wch:Bool)(st:St)(v:AV)(st':St)(ι':Inj)(x:Value)(w':World):Prop where
 le:Le ι ι'
 v:VR ι' v x
 sim:Sim ι' st'.h st'.nx w'
 grew:Grew ι w ι' w'
 cl:Cleanly ι ι' st st'
 fr:st'.fr=st.fr
 quiet:wch=true->∀ b,b<st.nx->jh st'.h b=jh st.h b
theorem we {P:Program}{call:qd}(hcall:zt P call){ι:Inj}{w:World}{o:Oper}{a:Act}{op:Operand->OF}{wch:Bool}{env:Env}{st:St}{v:AV}{st':St}
  (hno:VM o.op=true) (hO:OpR P op wch call o.op env st v st') (k:Sim ι st.h st.nx w) (hx:∀ x∈o.op.operands.toList,VR ι ((op x).run env) (a.eval x)) :
  Runs P o a w λx w'=>∃ ι',Left ι w wch st v st' ι' x w':=by
 obtain⟨st1,hd,hO⟩:=hO;have k':Sim ι (zN wch st).h (zN wch st).nx w:=by rw[(wL wch st).1,(wL wch st).2.1];exact k
 have quiet:∀ {ι':Inj},Cleanly ι ι' (zN wch st) st1->wch=true->∀ b,b<st.nx->jh st1.h b=jh st.h b:=by
  intro ι' hcl hw b hb;have h1:=hd hw;subst hw;exact hcl.keep b hb (QaH hb h1)
 cases hco:j5 o.op with
 |some p=>
  obtain⟨f,args⟩:=p;rw[hco] at hO;dsimp only at hO;obtain⟨fid,caps,hfv,he,rfl⟩:=hO;have hcs:∃ c,o.op=.call c/\c.callee=.value f/\args=c.args.toList:=by
   unfold j5 at hco;split at hco
   ·rename_i c hoc;split at hco
    ·rename_i f' hf';cases hco;exact⟨c,hoc,hf',rfl⟩
    ·cases hco
   ·cases hco
  obtain⟨c,hoc,hcf,rfl⟩:=hcs;rw[hoc] at hx;have hvf:=hx f (by simp[Op.operands,Call.operands,hcf]);rw[hfv] at hvf;simp only[VR] at hvf;obtain⟨cv,hcv,hcaps⟩:=hvf;simp only[yn,ya] at he;have hargs:VRs ι (c.args.toList.map (λx=>(op x).run env) ++ caps) ((c.args.map a.eval) ++ cv).toList:=by
   rw[Qcc,QbC];exact(VRs.map_of _ λx hxm=>hx x (by simp[Op.operands,Call.operands];right;simpa using hxm)).append hcaps
  have hC:=hcall fid _ (zN wch st) ι w ((c.args.map a.eval) ++ cv) k' hargs;rw[he] at hC;obtain⟨hen,hcs⟩:=hC;refine .inr ⟨fid,(c.args.map a.eval) ++ cv,wB hoc hcf hcv hen,Calls.mono hcs λe w' he=>?_⟩;obtain⟨x,rfl,ι',hl,hv,hs,hg,hcl⟩:=he;refine⟨x,rfl,ι',hl,hv,?_,hg,?_,rfl,?_⟩
  ·show Sim ι' (unSt wch st st1).h (unSt wch st st1).nx w';rw[(Yz wch st st1).1,(Yz wch st st1).2.1];exact hs
  ·have:=hcl.unSt hd;exact⟨this.nx,this.dirty,this.keep,this.above,this.u,this.le,this.n⟩
  ·intro hw b hb;show jh (unSt wch st st1).h b=_;rw[(Yz wch st st1).1];exact quiet hcl hw b hb
 |none=>
  rw[hco] at hO;dsimp only at hO;obtain⟨he,rfl⟩:=hO;have hcalm:YS o.op=true:=by
   cases hcc:YS o.op
   ·exfalso;cases ho:o.op<;>rw[ho] at hcc hno hco he<;>simp only[YS] at hcc<;>try(cases hcc;done)
    case call c=>
     simp only[je] at he;split at hcc
     ·rename_i b hb;simp only[hb] at he;cases b<;>simp only[kI] at hcc<;>try(cases hcc;done)
      have:qb P .recover c.argTypes (qE op c.args.toList)=NOE:=by
       unfold qb;split<;>first|rfl|contradiction|simp_all
      rw[this] at he;cases he
     ·rename_i hnb;cases hcl:c.callee with
      |builtin b=>exact hnb b hcl
      |value f=>simp[j5,hcl] at hco
      |invoke r m=>rw[hcl] at he;cases he
    case defer c=>cases hno
   ·rfl
  have hres:=Hm (P:=P) (ρ:=a.eval) (op:=op) (env:=env) hcalm k' hx;rw[he] at hres;obtain⟨ι',x,w',hr,hl,hv,hs,hg,hcl,hfr⟩:=hres;refine .inl ⟨x,w',hr,ι',hl,hv,?_,hg,hcl.unSt hd,?_,?_⟩
  ·rw[(Yz wch st st1).1,(Yz wch st st1).2.1];exact hs
  ·rw[(Yz wch st st1).2.2,hfr,(wL wch st).2.2]
  ·intro hw b hb;rw[(Yz wch st st1).1];exact quiet hcl hw b hb
open Classical in
def qf (A:Nat->Prop):Nat->Option Nat
 |0=>none
 |k+1=>if A k then some k else qf A k
theorem yu {A B:Nat->Prop}:∀ m,(∀ p,p<m->(A p↔B p))->qf A m=qf B m
 |0,_=>rfl
 |m+1,h=>by
  simp only[qf];rw[yu m λp hp=>h p (by omega)];by_cases ha:A m
  ·rw[if_pos ha,if_pos ((h m (by omega)).1 ha)]
  ·rw[if_neg ha,if_neg λhb=>ha ((h m (by omega)).2 hb)]
theorem JP {A:Nat->Prop}{k:Nat}:∀ m,qf A m=some k->k<m/\A k/\∀ p,k<p->p<m->¬ A p
 |0,h=>by cases h
 |m+1,h=>by
  simp only[qf] at h;by_cases ha:A m
  ·rw[if_pos ha] at h;cases h;exact⟨by omega,ha,λp h1 h2=>by omega⟩
  ·rw[if_neg ha] at h;obtain⟨h1,h2,h3⟩:=JP m h;refine⟨by omega,h2,λp h4 h5=>?_⟩;by_cases hp:p=m
   ·rw[hp];exact ha
   ·exact h3 p h4 (by omega)
theorem X2 {A:Nat->Prop}:∀ m,qf A m=none->∀ p,p<m->¬ A p
 |0,_,p,hp=>by omega
 |m+1,h,p,hp=>by
  simp only[qf] at h;by_cases ha:A m
  ·rw[if_pos ha] at h;cases h
  ·rw[if_neg ha] at h;by_cases hpm:p=m
   ·rw[hpm];exact ha
   ·exact X2 m h p (by omega)
theorem ga {A:Nat->Prop}{k m:Nat}(hk:k<m)(ha:A k)(hn:∀ p,k<p->p<m->¬ A p):qf A m=some k:=by
 cases h:qf A m with
 |none=>exact absurd ha (X2 m h k hk)
 |some j=>
  obtain⟨h1,h2,h3⟩:=JP m h;rcases Qcm j k with h4|h4|h4
  ·exact absurd ha (h3 k h4 hk)
  ·rw[h4]
  ·exact absurd h2 (hn j h4 h1)
theorem Xx {A:Nat->Prop}{q:Nat}:∀ m,q<=m->qf (λp=>p<q/\A p) m=qf A q
 |0,h=>by
  have:q=0:=by omega
  subst this;rfl
 |m+1,h=>by
  by_cases hq:q=m+1
  ·subst hq;exact yu _ λp hp=>⟨λh=>h.2,λh=>⟨hp,h⟩⟩
  ·simp only[qf];rw[if_neg (by omega)];exact Xx m (by omega)
def tab (f:Nat->Option AO):Nat->T AO
 |0=>.e
 |n+1=>match f n with|some o=>(jT (jv n)).run o (tab f n)|none=>tab f n
theorem yj (f:Nat->Option AO)(b:Nat):∀ n,jh (tab f n) b=if b<n then f b else none
 |0=>by simp[tab,jhM]
 |n+1=>by
  simp only[tab];cases hf:f n with
  |none=>
   simp only;rw[yj f b n];by_cases hb:b=n
   ·subst hb;simp[hf]
   ·by_cases h2:b<n
    ·rw[if_pos h2,if_pos (by omega)]
    ·rw[if_neg h2,if_neg (by omega)]
  |some o=>
   simp only;rw[jS,yj f b n];by_cases hb:b=n
   ·subst hb;simp[hf]
   ·rw[if_neg hb];by_cases h2:b<n
    ·rw[if_pos h2,if_pos (by omega)]
    ·rw[if_neg h2,if_neg (by omega)]
theorem Sim.same {ι:Inj}{h h':T AO}{nx:Nat}{w:World}(k:Sim ι h nx w)(e:∀ b,ι b≠.unborn->jh h' b=jh h b):Sim ι h' nx w:=
 ⟨λb B S hb=>by
   obtain⟨o,x,h1,h2,h3⟩:=k.obj b B S hb;exact⟨o,x,by rw[e b (by rw[hb];simp)];exact h1,h2,h3⟩,
  λb hb o ho=>k.gone b hb o (by rw[<-e b (by rw[hb];simp)];exact ho),k.inj,k.born,k.glob⟩
theorem ug (U t:Nat):inU U t=U.testBit t:=by
 rw[QaW,inU,qh,Nat.testBit_eq_decide_div_mod_eq,decide_eq_true_iff];rw[show Nat.shiftRight U t=U >>> t from rfl,Nat.shiftRight_eq_div_pow];exact Iff.rfl
def jaP (acc:List Nat)(o:Oper):Nat:=o.after.toList.foldl (λs e=>cond (zX e) (Nat.lor (Nat.lor s (Nat.pow 2 e.on)) (acc.getD e.on 0)) s) 0
theorem vH (l:List Oper)(o:Oper):qx (l ++ [o])=qx l ++ [jaP (qx l) o]:=by
 unfold qx;rw[List.foldl_append];rfl
theorem GR {α:Type}{p:List α->Prop}(h0:p [])(h1:∀ l a,p l->p (l ++ [a]))(l:List α):p l:=by
 have key:∀ r:List α,p r.reverse:=by
  intro r;induction r with
  |nil=>exact h0
  |cons a r ih=>rw[List.reverse_cons];exact h1 _ _ ih
 have:=key l.reverse;rwa [List.reverse_reverse] at this
theorem Ub (l:List Oper):(qx l).length=l.length:=by
 refine GR (p:=λl=>(qx l).length=l.length) rfl (λl o ih=>?_) l;rw[vH,Qat,Qat,ih];rfl
theorem Gx (l:List Oper):∀ i o,l[i]? = some o->(qx l).getD i 0=jaP ((qx l).take i) o:=by
 refine GR (p:=λl=>∀ i o,l[i]? = some o->(qx l).getD i 0=jaP ((qx l).take i) o) (λi o h=>by simp at h) (λl o ih i u h=>?_) l;rw[vH];have hlen:=Ub l;by_cases hi:i<l.length
 ·rw[Qbu hi] at h;have:=ih i u h;rw[QaE,Qbu (by omega),<-QaE,this];rw[Qbn (by omega)]
 ·rw[Qbs (by omega)] at h;have hi0:i - l.length=0:=by
   cases hn:i - l.length with
   |zero=>rfl
   |succ k=>rw[hn] at h;simp at h
  rw[hi0] at h;simp at h;subst h;have hi2:i=l.length:=by omega
  subst hi2;rw[QaE,Qbs (by omega),hlen];simp only[Nat.sub_self,List.getElem?_cons_zero,QaX];rw[<-hlen,List.take_left]
theorem U0 (acc:List Nat)(j:Nat):∀ (l:List Edge) (s:Nat),inU (l.foldl (λs e=>cond (zX e) (Nat.lor (Nat.lor s (Nat.pow 2 e.on)) (acc.getD e.on 0)) s) s) j=true->
  inU s j=true\/∃ e∈l,zX e=true/\(e.on=j\/inU (acc.getD e.on 0) j=true)
 |[],s,h=>.inl h
 |e :: l,s,h=>by
  rw[List.foldl_cons] at h;rcases U0 acc j l _ h with h1|⟨e',he,h2,h3⟩
  ·cases hb:zX e
   ·rw[hb] at h1;exact .inl h1
   ·rw[hb] at h1;simp only[cond_true] at h1;rw[ug] at h1;have h2:((s |||2 ^ e.on) |||acc.getD e.on 0).testBit j=true:=h1;rw[Nat.testBit_or,Nat.testBit_or,Qbi,Qbi] at h2;rcases h2 with (h2|h2)|h2
    ·exact .inl (by rw[ug];exact h2)
    ·rw[Nat.testBit_two_pow] at h2;exact .inr ⟨e,by simp,hb,.inl (by simpa using h2)⟩
    ·exact .inr ⟨e,by simp,hb,.inr (by rw[ug];exact h2)⟩
  ·exact .inr ⟨e',by simp[he],h2,h3⟩
def bs (ops:Array Oper):List Nat:=qx ops.toList
def Gk (ops:Array Oper)(S:Nat->Prop):Prop:=∀ i o,S i->ops[i]? = some o->∀ e∈o.after,zX e=true->S e.on
def zh (ops:Array Oper)(S:Nat->Prop)(i:Nat):Prop:=∃ o,ops[i]? = some o/\∀ e∈o.after,zX e=true->S e.on
theorem ZU {ops:Array Oper}{S:Nat->Prop}(hlow:∀ i o,ops[i]? = some o->∀ e∈o.after,zX e=true->e.on<i)(hc:Gk ops S)(j:Nat):∀ (m i:Nat),i<m->zh ops S i->inU ((bs ops).getD i 0) j=true->S j
 |0,i,hi,_,_=>by omega
 |m+1,i,hi,hr,h=>by
  obtain⟨o,ho,hr⟩:=hr;rw[bs,Gx ops.toList i o (by rw[QbK];exact ho)] at h;rcases U0 _ j _ 0 h with h1|⟨e,he,hb,h1⟩
  ·simp[ug] at h1
  ·have he':e∈o.after:=QbY.1 he;have hlt:=hlow i o ho e he' hb;rcases h1 with h1|h1
   ·rw[<-h1];exact hr e he' hb
   ·have hS:=hr e he' hb;have h2:inU ((bs ops).getD e.on 0) j=true:=by
     rw[QaE,Qch,if_pos hlt,<-QaE] at h1;exact h1
    obtain⟨u,hu⟩:∃ u,ops[e.on]? = some u:=by
     have:i<ops.size:=(Qay.1 ho).1;exact⟨ops[e.on],by simp[Nat.lt_trans hlt this]⟩
    exact ZU hlow hc j m e.on (by omega) ⟨u,hu,hc e.on u hS hu⟩ h2
end Go.Ev
end
noncomputable section
namespace Go.Ev
open Go.RowKit
structure Ctx (P:Program)(call:qd)(U N:Nat)(ops:Array Oper)(t:T AV)(ι0:Inj)(w0:World)(a0:Act)(σ:Nat->St)(V:Nat->AV)(E:Nat->TE)(ex ab:Nat->Bool):Prop where
 hcall:zt P call
 ok:zk P ops=true
 dst:∀ o∈ops.toList,∀ x,o.dst=some x->x<N
 tr:∀ i,i<ops.size->∃ o,TrAt P call U ops t (ab i) i (j7 ops V i) (yZ E i) (σ i) (ex i) (V i) (E i) (σ (i+1)) o
 rel0:Rel ι0 U N t [] [] (σ 0) a0 w0
section
variable {P:Program} {call:qd} {U N:Nat} {ops:Array Oper} {t:T AV} {ι0:Inj} {w0:World} {a0:Act} {σ:Nat->St} {V:Nat->AV} {E:Nat->TE} {ex ab:Nat->Bool}
theorem wi (h:zk P ops=true){i:Nat}{o:Oper}(hi:ops[i]? = some o) :
  (∀ e∈o.after,zX e=true->e.on<i)/\VM o.op=true/\(∀ cs b,o.op≠.select cs b) /\
  ∀ j u,j<i->ops[j]? = some u->qH (bs ops) i j=true\/(u.apart ops o=true /\
   ((Jo (jC P u.op) && acts (jC P o.op)) ||(acts (jC P u.op) && Jo (jC P o.op)) ||(JB (jC P u.op) && acts (jC P o.op)))=false):=by
 unfold zk at h;simp only[QaG,List.mem_range] at h;have hlt:i<ops.size:=(Qay.1 hi).1;have h1:=h i hlt;rw[hi] at h1;simp only[Qaz,QaG,List.mem_range] at h1;obtain⟨⟨h2,h3⟩,h4⟩:=h1;refine⟨λe he hb=>?_,?_,?_,λj u hj hu=>?_⟩
 ·have:=h2 e (QbY.2 he);rw[hb] at this;simp only[cond_true] at this;rw[jY] at this;omega
 ·unfold VM;split
  ·rename_i c hc;rw[hc] at h3;cases h3
  ·rfl
 ·intro cs b hc;rw[hc] at h3;cases h3
 ·have:=h4 j hj;rw[hu] at this;simp only[Qbi,Qaz,Qbh] at this;rcases this with h5|⟨h5,h6⟩
  ·exact .inl h5
  ·exact .inr ⟨h5,h6⟩
theorem Jy (b:List Nat)(i j:Nat):qH b i j=qH b j i:=by unfold qH;rw[Bool.or_comm]
structure Free (P:Program)(ops:Array Oper)(o u:Oper):Prop where
 d1:∀ d,u.dst=some d->d∉o.looksAt ops
 d2:∀ d,o.dst=some d->d∉u.looksAt ops
 d3:∀ d,u.dst=some d->o.dst≠some d
 w1:¬ (Jo (jC P u.op)=true/\acts (jC P o.op)=true)
 w2:¬ (acts (jC P u.op)=true/\Jo (jC P o.op)=true)
theorem sep (h:zk P ops=true){i j:Nat}{o u:Oper}(hi:ops[i]? = some o)(hj:ops[j]? = some u)(hne:i≠j) :
  qH (bs ops) i j=true\/(Free P ops o u/\(j<i->¬ (JB (jC P u.op)=true/\acts (jC P o.op)=true))):=by
 rcases QaR j i with hlt|hge
 ·rcases (wi h hi).2.2.2 j u hlt hj with h1|⟨h1,h2⟩
  ·exact .inl h1
  ·obtain⟨k1,k2,k3⟩:=Oper.apart_spec h1;simp only[QbL,Bool.and_eq_false_iff] at h2;obtain⟨⟨h3,h4⟩,h5⟩:=h2;refine .inr ⟨⟨k1,k3,k2,λ⟨x,y⟩=>?_,λ⟨x,y⟩=>?_⟩,λ_ ⟨x,y⟩=>?_⟩
   ·rcases h3 with h3|h3
    ·rw[x] at h3;cases h3
    ·rw[y] at h3;cases h3
   ·rcases h4 with h4|h4
    ·rw[x] at h4;cases h4
    ·rw[y] at h4;cases h4
   ·rcases h5 with h5|h5
    ·rw[x] at h5;cases h5
    ·rw[y] at h5;cases h5
 ·have hlt:i<j:=by omega
  rcases (wi h hj).2.2.2 i o hlt hi with h1|⟨h1,h2⟩
  ·exact .inl (by rw[Jy];exact h1)
  ·obtain⟨k1,k2,k3⟩:=Oper.apart_spec h1;simp only[QbL,Bool.and_eq_false_iff] at h2;obtain⟨⟨h3,h4⟩,h5⟩:=h2;refine .inr ⟨⟨k3,k1,λd h1 h2=>k2 d h2 h1,λ⟨x,y⟩=>?_,λ⟨x,y⟩=>?_⟩,λhh=>by omega⟩
   ·rcases h4 with h4|h4
    ·rw[y] at h4;cases h4
    ·rw[x] at h4;cases h4
   ·rcases h3 with h3|h3
    ·rw[y] at h3;cases h3
    ·rw[x] at h3;cases h3
theorem Y1 (h:zk P ops=true):∀ i o,ops[i]? = some o->∀ e∈o.after,zX e=true->e.on<i:=λi o hi=>(wi h hi).1
theorem gX (h:zk P ops=true){i j:Nat}{o:Oper}(hi:ops[i]? = some o)(hb:inU ((bs ops).getD i 0) j=true):j<i:=by
 refine ZU (S:=λp=>p<i) (Y1 h) (λk u hk hu e he hbe=>?_) j (i+1) i (by omega) ⟨o,hi,Y1 h i o hi⟩ hb;have:=Y1 h k u hu e he hbe;show e.on<i;have hk:k<i:=hk;omega
theorem Yt (h:zk P ops=true){S:Nat->Prop}(hc:Gk ops S){p q:Nat}{u o:Oper}(hp:ops[p]? = some u)(hq:ops[q]? = some o)(hr:zh ops S q)(hn:¬ S q)(ho:qH (bs ops) q p=true):S p↔p<q:=by
 unfold qH at ho;rw[Qbi] at ho;rcases ho with ho|ho
 ·have h1:=ZU (Y1 h) hc p (q+1) q (by omega) hr ho;exact⟨λ_=>gX h hq ho,λ_=>h1⟩
 ·have hlt:=gX h hp ho;refine⟨λhS=>absurd (ZU (Y1 h) hc q (p+1) p (by omega) ⟨u,hp,hc p u hS hp⟩ ho) hn,λh=>by omega⟩
theorem Zf (x:Nat):∀ q,match qf (λp=>qD ops p=some x) q with
  |some k=>∃ i,idx x (jW ops q)=some i/\(j7 ops V q).getD i .bad=V k
  |none=>idx x (jW ops q)=none
 |0=>rfl
 |q+1=>by
  have ih:=Zf x q;simp only[qf];by_cases hd:qD ops q=some x
  ·rw[if_pos hd];refine⟨0,?_,?_⟩
   ·simp only[jW,hd,j6,idx,if_true]
   ·simp only[j7,hd,yf];rfl
  ·rw[if_neg hd];cases hd':qD ops q with
   |none=>
    simp only[jW,j7,hd',j6,yf];exact ih
   |some d=>
    have hne:d≠x:=λe=>hd (by rw[hd',e]);simp only[jW,j7,hd',j6,yf,idx,if_neg hne];cases hl:qf (λp=>qD ops p=some x) q with
    |none=>
     rw[hl] at ih;simp only at ih ⊢;rw[ih];rfl
    |some k=>
     rw[hl] at ih;simp only at ih ⊢;obtain⟨i,h1,h2⟩:=ih;exact⟨i+1,by rw[h1];rfl,by simpa using h2⟩
theorem jcJ (x q:Nat):(jy U (jW ops q) (.tmp x)).run ⟨t,j7 ops V q⟩=match qf (λp=>qD ops p=some x) q with
  |some k=>V k
  |none=>cond (inU U x) (yH t x) .bad:=by
 have h:=Zf (ops:=ops) (V:=V) x q;simp only[jy,VI];cases hl:qf (λp=>qD ops p=some x) q with
 |some k=>
  rw[hl] at h;simp only at h ⊢;obtain⟨i,h1,h2⟩:=h;rw[h1];simp only[QaK,yL];exact h2
 |none=>
  rw[hl] at h;simp only at h ⊢;rw[h];simp only[Qbm];cases inU U x
  ·rfl
  ·simp only[cond_true,yH];cases (Jq (jv x)).run t<;>rfl
def Chg (σ:Nat->St)(p b:Nat):Prop:=((σ p).nx<=b/\b<(σ (p+1)).nx)\/jh (σ (p+1)).h b≠jh (σ p).h b
def jeO (σ:Nat->St)(b:Nat):Option Nat->Option AO
 |some k=>jh (σ (k+1)).h b
 |none=>jh (σ 0).h b
def cur (σ:Nat->St)(m:Nat)(S:Nat->Prop)(b:Nat):Option AO:=jeO σ b (qf (λp=>S p/\Chg σ p b) m)
theorem XA (b:Nat):∀ q,jeO σ b (qf (λp=>Chg σ p b) q)=jh (σ q).h b
 |0=>rfl
 |q+1=>by
  simp only[qf];by_cases hc:Chg σ q b
  ·rw[if_pos hc];rfl
  ·rw[if_neg hc,XA b q];have:¬ (jh (σ (q+1)).h b≠jh (σ q).h b):=λh=>hc (.inr h);exact(Classical.not_not.1 this).symm
structure StF (P:Program)(σ:Nat->St)(ex:Nat->Bool)(ops:Array Oper)(p:Nat)(o:Oper):Prop where
 nx:(σ p).nx<=(σ (p+1)).nx
 above:∀ b,(σ (p+1)).nx<=b->jh (σ (p+1)).h b=jh (σ p).h b
 fr:(σ (p+1)).fr=(σ p).fr
 watched:ye P ops p o=true->∀ b,b<(σ p).nx->jh (σ (p+1)).h b=jh (σ p).h b
 calm:acts (jC P o.op)=false->∀ b,b<(σ p).nx->jh (σ (p+1)).h b=jh (σ p).h b
 same:JB (jC P o.op)=false->acts (jC P o.op)=false->σ (p+1)=σ p
theorem uV {op:Operand->OF}{wch:Bool}{o:Op}{env:Env}{st:St}{v:AV}{st':St}(hO:OpR P op wch call o env st v st')(h:jC P o=.pure) :
  st'=st/\j5 o=none/\∀ st2,(je P op o).run env st2=.ok v st2:=by
 obtain⟨st1,hd,hO⟩:=hO;have hco:j5 o=none:=by
  cases hc:j5 o with
  |none=>rfl
  |some x=>have:=zW (P:=P) hc;rw[h] at this;cases this
 rw[hco] at hO;dsimp only at hO;obtain⟨h1,rfl⟩:=hO;obtain⟨h2,h3⟩:=jbV (P:=P) (op:=op) (env:=env) o h _ _ _ h1;subst h2;refine⟨?_,hco,h3⟩;cases wch<;>rfl
theorem wZ {op:Operand->OF}{o:Op}{env:Env}{st:St}{v:AV}{st':St}(hO:OpR P op false call o env st v st')(h:jC P o=.reads) :
  st'=st/\j5 o=none/\∃ ty a,o=.load ty a/\(qn P ty).run ((op a).run env) st.h=some v:=by
 obtain⟨st1,hd,hO⟩:=hO;have hco:j5 o=none:=by
  cases hc:j5 o with
  |none=>rfl
  |some x=>have:=zW (P:=P) hc;rw[h] at this;cases this
 rw[hco] at hO;dsimp only at hO;obtain⟨h1,rfl⟩:=hO;cases o<;>simp only[jC] at h<;>try(cases h;done)
 case load ty a=>
  obtain⟨h2,h3⟩:=jgd (P:=P) h1;exact⟨h2,hco,ty,a,rfl,h3⟩
 case call c=>
  exfalso;split at h
  ·split at h
   ·split at h<;>cases h
   ·cases h
  all_goals cases h
theorem Uw {op:Operand->OF}{o:Op}{env:Env}{st:St}{v:AV}{st':St}(hO:OpR P op false call o env st v st')(h:jC P o=.makes) :
  j5 o=none/\∃ ob,st'=⟨st.nx+1,(jT (jv st.nx)).run ob st.h,st.dirty,st.fr⟩ /\
   ∀ st2,st2.nx=st.nx->(je P op o).run env st2=.ok v ⟨st2.nx+1,(jT (jv st2.nx)).run ob st2.h,st2.dirty,st2.fr⟩:=by
 obtain⟨st1,hd,hO⟩:=hO;have hco:j5 o=none:=by
  cases hc:j5 o with
  |none=>rfl
  |some x=>have:=zW (P:=P) hc;rw[h] at this;cases this
 rw[hco] at hO;dsimp only at hO;obtain⟨h1,rfl⟩:=hO;obtain⟨ob,h2,h3⟩:=jb4 (P:=P) (op:=op) (env:=env) o h _ _ _ h1;exact⟨hco,ob,h2,h3⟩
theorem Yx {i:Nat}{o:Oper}{c:Cl}(h:jC P o.op=c)(hc:c≠.other):ye P ops i o=false:=by
 cases hw:ye P ops i o
 ·rfl
 ·exact absurd ((uw hw).symm.trans h) (λe=>hc e.symm)
theorem u7 (c:Cl):c=.pure\/c=.reads\/c=.makes\/acts c=true:=by
 cases c
 ·exact .inl rfl
 ·exact .inr (.inl rfl)
 ·exact .inr (.inr (.inl rfl))
 ·exact .inr (.inr (.inr rfl))
 ·exact .inr (.inr (.inr rfl))
theorem Ctx.step (c:Ctx P call U N ops t ι0 w0 a0 σ V E ex ab){p:Nat}(hp:p<ops.size){o:Oper}(ho:ops[p]? = some o){ι:Inj}{a:Act}{w:World}(r:Rel ι U N t (jW ops p) (j7 ops V p) (σ p) a w) :
  StF P σ ex ops p o/\∃ ι' a' w',Rel ι' U N t (jW ops (p+1)) (j7 ops V (p+1)) (σ (p+1)) a' w'/\Le ι ι'/\Cleanly ι ι' (σ p) (σ (p+1)):=by
 obtain⟨o',htr⟩:=c.tr p hp;have:o'=o:=by have:=htr.hop;rw[ho] at this;cases this;rfl
 subst this;have hmem:o'∈ops.toList:=QbY.2 (Array.mem_of_getElem? ho);have hd:qD ops p=o'.dst:=by simp[qD,ho]
 have e1:jW ops (p+1)=j6 o'.dst (jW ops p):=by simp only[jW,hd]
 have e2:j7 ops V (p+1)=(yf o'.dst).run (V p) (j7 ops V p):=by simp only[j7,hd]
 rw[e1,e2];cases hx:ex p
 ·obtain⟨h1,h2,h3⟩:=htr.skip hx;rw[h3,h1];refine⟨⟨by rw[h3];exact Qag _,λb _=>by rw[h3],by rw[h3],λ_ b _=>by rw[h3],λ_ b _=>by rw[h3],λ_ _=>h3⟩,ι,a.put o'.dst undef,w,r.put (c.dst o' hmem) (Yy ι),Le.refl ι,Cleanly.refl ι _⟩
 ·obtain⟨h1,h2,h3⟩:=htr.run hx;obtain⟨x,w',ι',hl⟩:=(we c.hcall (wi c.ok ho).2.1 h1 r.sim λx _=>r.opd x).ex;refine⟨⟨hl.cl.nx,hl.cl.above,hl.fr,hl.quiet,λha b hb=>?_,λhm ha=>?_⟩,ι',a.put o'.dst x,w',?_,hl.le,hl.cl⟩
  ·rcases u7 (jC P o'.op) with h4|h4|h4|h4
   ·rw[(uV h1 h4).1]
   ·rw[Yx h4 (by simp)] at h1;rw[(wZ h1 h4).1]
   ·rw[Yx h4 (by simp)] at h1;obtain⟨_,ob,h5,_⟩:=Uw h1 h4;rw[h5];show jh ((jT (jv (σ p).nx)).run ob (σ p).h) b=_;rw[jS,if_neg (by omega)]
   ·rw[ha] at h4;cases h4
  ·rcases u7 (jC P o'.op) with h4|h4|h4|h4
   ·exact(uV h1 h4).1
   ·rw[Yx h4 (by simp)] at h1;exact(wZ h1 h4).1
   ·rw[h4] at hm;cases hm
   ·rw[ha] at h4;cases h4
  ·exact(r.mono hl.le hl.sim hl.fr).put (c.dst o' hmem) hl.v
theorem Ctx.can (c:Ctx P call U N ops t ι0 w0 a0 σ V E ex ab):∀ p,p<=ops.size->∃ ι a w,Rel ι U N t (jW ops p) (j7 ops V p) (σ p) a w/\Le ι0 ι/\Cleanly ι0 ι (σ 0) (σ p)
 |0,_=>⟨ι0,a0,w0,c.rel0,Le.refl ι0,Cleanly.refl ι0 _⟩
 |p+1,hp=>by
  obtain⟨ι,a,w,r,hl,hc⟩:=c.can p (by omega);obtain⟨_,ι',a',w',r',hl',hc'⟩:=c.step (by omega) (o:=ops[p]) (by simp[show p<ops.size by omega]) r;exact⟨ι',a',w',r',hl.trans hl',hc.trans hc'⟩
theorem Ctx.stf (c:Ctx P call U N ops t ι0 w0 a0 σ V E ex ab){p:Nat}{o:Oper}(ho:ops[p]? = some o):StF P σ ex ops p o:=by
 have hp:p<ops.size:=(Qay.1 ho).1;obtain⟨ι,a,w,r,_⟩:=c.can p (by omega);exact(c.step hp ho r).1
theorem Ctx.nx_mono (c:Ctx P call U N ops t ι0 w0 a0 σ V E ex ab){p:Nat}:∀ q,p<=q->q<=ops.size->(σ p).nx<=(σ q).nx
 |0,h,_=>by
  have:p=0:=by omega
  subst this;exact Qag _
 |q+1,h,hq=>by
  by_cases hpq:p=q+1
  ·subst hpq;exact Qag _
  ·exact Qas (c.nx_mono q (by omega) (by omega)) (c.stf (p:=q) (o:=ops[q]) (by simp[show q<ops.size by omega])).nx
theorem Ctx.chg (c:Ctx P call U N ops t ι0 w0 a0 σ V E ex ab){p b:Nat}{o:Oper}(ho:ops[p]? = some o)(h:Chg σ p b)(hb:b<(σ p).nx):acts (jC P o.op)=true/\ye P ops p o=false/\jh (σ (p+1)).h b≠jh (σ p).h b:=by
 have s:=c.stf ho;rcases h with ⟨h,_⟩|h
 ·omega
 ·refine⟨?_,?_,h⟩
  ·cases ha:acts (jC P o.op)
   ·exact absurd (s.calm ha b hb) h
   ·rfl
  ·cases ha:ye P ops p o
   ·rfl
   ·exact absurd (s.watched ha b hb) h
theorem Ctx.chg_lt (c:Ctx P call U N ops t ι0 w0 a0 σ V E ex ab){p b:Nat}{o:Oper}(ho:ops[p]? = some o)(h:Chg σ p b):b<(σ (p+1)).nx:=by
 rcases h with ⟨_,h⟩|h
 ·exact h
 ·rcases QaR b (σ (p+1)).nx with h1|h1
  ·exact h1
  ·exact absurd ((c.stf ho).above b h1) h
end
end Go.Ev
end
noncomputable section
namespace Go.Ev
open Go.RowKit
structure Inv (P:Program)(call:qd)(U N:Nat)(ops:Array Oper)(t:T AV)(ι0:Inj)(w0:World)(a0:Act)(σ:Nat->St)(V:Nat->AV)(ab:Nat->Bool)(S:Nat->Prop)(ι:Inj)(a:Act)(w:World):Prop where
 size:N<=a.tmps.size
 ds:DRs ι (σ 0).fr a.defers
 le:Le ι0 ι
 grew:Grew ι0 w0 ι w
 slot:∀ x,match qf (λp=>S p/\qD ops p=some x) ops.size with
  |some k=>VR ι (V k) (a.tmps.getD x undef)
  |none=>inU U x=true->VR ι (yH t x) (a.tmps.getD x undef)
 sim:Sim ι (tab (cur σ ops.size S) (σ ops.size).nx) (σ ops.size).nx w
 birth:∀ b,ι b≠.unborn->ι0 b≠.unborn\/∃ p,p<ops.size/\S p/\(σ p).nx<=b/\b<(σ (p+1)).nx
 born:∀ p,p<ops.size->S p->∀ b,(σ p).nx<=b->b<(σ (p+1)).nx->ι b≠.unborn
 closed:Gk ops S
 live:∀ p,S p->ab p=false
section
variable {P:Program} {call:qd} {U N:Nat} {ops:Array Oper} {t:T AV} {ι0:Inj} {w0:World} {a0:Act} {σ:Nat->St} {V:Nat->AV} {E:Nat->TE} {ex ab:Nat->Bool}
variable {S:Nat->Prop} {ι:Inj} {a:Act} {w:World}
theorem Jv {p:Nat}(hp:p<ops.size):ops[p]? = some ops[p]:=by simp[hp]
theorem Ctx.born0 (c:Ctx P call U N ops t ι0 w0 a0 σ V E ex ab){b:Nat}(h:ι0 b≠.unborn):b<(σ 0).nx:=c.rel0.sim.born b h
theorem Inv.canon (c:Ctx P call U N ops t ι0 w0 a0 σ V E ex ab)(I:Inv P call U N ops t ι0 w0 a0 σ V ab S ι a w){b q:Nat}(hb:ι b≠.unborn)(hq:q<=ops.size)(hbq:b<(σ q).nx){ιc:Inj}(hc:Cleanly ι0 ιc (σ 0) (σ q)):ιc b≠.unborn:=by
 rcases I.birth b hb with h|⟨p,hp,hS,h1,h2⟩
 ·exact hc.le b h
 ·exact hc.n b (Qas (c.nx_mono p (QaM _) (by omega)) h1) hbq
theorem Inv.maker (c:Ctx P call U N ops t ι0 w0 a0 σ V E ex ab)(I:Inv P call U N ops t ι0 w0 a0 σ V ab S ι a w){b p:Nat}(hb:ι b≠.unborn)(hp:p<ops.size)(h1:(σ p).nx<=b)(h2:b<(σ (p+1)).nx):S p:=by
 rcases I.birth b hb with h|⟨p',hp',hS,h3,h4⟩
 ·have:=c.born0 h;have:=c.nx_mono (p:=0) p (by omega) (by omega);omega
 ·rcases Qcm p p' with h5|h5|h5
  ·have:=c.nx_mono (p:=p+1) p' (by omega) (by omega);omega
  ·rw[h5];exact hS
  ·have:=c.nx_mono (p:=p'+1) p (by omega) (by omega);omega
theorem Inv.looks (c:Ctx P call U N ops t ι0 w0 a0 σ V E ex ab)(I:Inv P call U N ops t ι0 w0 a0 σ V ab S ι a w){q:Nat}{o:Oper}(ho:ops[q]? = some o)(hr:zh ops S q)(hn:¬ S q){x:Nat}(hx:x∈o.looksAt ops) :
  VR ι ((jy U (jW ops q) (.tmp x)).run ⟨t,j7 ops V q⟩) (a.tmps.getD x undef):=by
 have hq:q<ops.size:=(Qay.1 ho).1;have e:qf (λp=>S p/\qD ops p=some x) ops.size=qf (λp=>qD ops p=some x) q:=by
  rw[<-Xx ops.size (Nat.le_of_lt hq)];refine yu _ λp hp=>?_;refine and_congr_left λhd=>?_;by_cases hpq:p=q
  ·subst hpq;exact⟨λh=>absurd h hn,λh=>by omega⟩
  ·have hu:=Jv hp;rcases sep c.ok ho hu (λe=>hpq e.symm) with h|⟨h,_⟩
   ·exact Yt c.ok I.closed hu ho hr hn h
   ·have hd':(ops[p]).dst=some x:=by simpa[qD,hu] using hd
    exact absurd hx (h.d1 x hd')
 have hs:=I.slot x;rw[jcJ,<-e];cases hl:qf (λp=>S p/\qD ops p=some x) ops.size with
 |some k=>rw[hl] at hs;exact hs
 |none=>
  rw[hl] at hs;simp only at hs ⊢;cases hu:inU U x
  ·simp[VR]
  ·exact hs hu
theorem Inv.opnd (c:Ctx P call U N ops t ι0 w0 a0 σ V E ex ab)(I:Inv P call U N ops t ι0 w0 a0 σ V ab S ι a w){q:Nat}{o:Oper}(ho:ops[q]? = some o)(hr:zh ops S q)(hn:¬ S q) :
  ∀ x∈o.op.operands.toList,VR ι ((jy U (jW ops q) x).run ⟨t,j7 ops V q⟩) (a.eval x):=by
 intro x hx;cases x with
 |tmp x=>
  have:x∈o.looksAt ops:=List.mem_append_left _ (List.mem_filterMap.2 ⟨.tmp x,hx,rfl⟩);exact I.looks c ho hr hn this
 |const v=>exact ZW ι v
 |global g=>simp[jy,VR]
 |func f=>simp only[jy,VR,Act.eval];exact⟨#[],rfl,by simp[VRs]⟩
theorem Inv.want {x:Bool}(c:Ctx P call U N ops t ι0 w0 a0 σ V E ex ab)(I:Inv P call U N ops t ι0 w0 a0 σ V ab S ι a w){q:Nat}{o:Oper}(ho:ops[q]? = some o)(hr:zh ops S q)(hn:¬ S q)
  (htr:match qG (jy U (jW ops q)) ops o with|none=>x=true|some wf=>wf.run ⟨t,j7 ops V q⟩=some x) :
  Region.wanted o (yielded ops a.tmps)=x:=by
 unfold qG at htr;unfold Region.wanted;cases hg:o.guard with
 |none=>rw[hg] at htr;exact htr.symm
 |some jw=>
  obtain⟨j,want⟩:=jw;rw[hg] at htr;simp only at htr ⊢;cases hd:(ops[j]?).bind (·.dst) with
  |none=>rw[hd] at htr;simp at htr
  |some d=>
   rw[hd] at htr;simp only at htr;have hv:=I.looks c ho hr hn (x:=d) (by simp[Oper.looksAt,hg,hd]);generalize (jy U (jW ops q) (.tmp d)).run ⟨t,j7 ops V q⟩=v at htr hv;have hy:yielded ops a.tmps j=match a.tmps[d]? with|some (.bool b)=>some b|_=>none:=by
    unfold yielded;rw[hd];rfl
   rw[hy];have jh:a.tmps.getD d undef=(a.tmps[d]?).getD undef:=by simp[Qbq]
   rw[jh] at hv;split at htr
   ·rename_i b;simp only[Option.some.injEq] at htr;simp only[VR] at hv;cases hq:a.tmps[d]? with
    |none=>rw[hq] at hv;simp[undef] at hv
    |some y=>
     rw[hq] at hv;simp only[QaX] at hv;subst hv;simp only;rw[<-htr];cases b<;>cases want<;>rfl
   ·cases htr
   ·rename_i h1 h2;simp only[Option.some.injEq] at htr;rw[<-htr];have hnb:=G5 hv (λb e=>h1 b e) (λe=>h2 e);cases hq:a.tmps[d]? with
    |none=>rfl
    |some y=>
     rw[hq] at hnb;simp only[QaX] at hnb;cases y<;>first|rfl|(exact absurd rfl (hnb _))
theorem DRs.hide {ι ι0:Inj}{n:Nat}(hn:∀ b,ι0 b≠.unborn->b<n):∀ (ps:List (FuncId×List AV)) (l0 l:List Deferred),DRs ι0 ps l0->DRs ι ps l->DRs (Ev.hide ι n) ps l
 |[],_,_,_,k=>k
 |p :: ps,l0,l,k0,k=>by
  simp only[DRs] at k0 k ⊢;obtain⟨cap,dargs,ds,rfl,h1,h2⟩:=k;obtain⟨cap0,dargs0,ds0,rfl,h10,h20⟩:=k0;exact⟨cap,dargs,ds,rfl,VRs.hide hn _ _ _ h10 h1,DRs.hide hn ps _ _ h20 h2⟩
def Add (S:Nat->Prop)(q:Nat)(p:Nat):Prop:=S p\/p=q
theorem Inv.next (c:Ctx P call U N ops t ι0 w0 a0 σ V E ex ab)(I:Inv P call U N ops t ι0 w0 a0 σ V ab S ι a w){q:Nat}{o:Oper}(ho:ops[q]? = some o)(hr:zh ops S q)(hn:¬ S q)(hab:ab q=false)
  {ι':Inj} {x:Value} {w':World} (hl:Le ι ι') (hg:Grew ι w ι' w') (hv:VR ι' (V q) x) (hs:Sim ι' (tab (cur σ ops.size (Add S q)) (σ ops.size).nx) (σ ops.size).nx w')
  (hb1:∀ b,ι' b≠.unborn->ι b≠.unborn\/((σ q).nx<=b/\b<(σ (q+1)).nx)) (hb2:∀ b,(σ q).nx<=b->b<(σ (q+1)).nx->ι' b≠.unborn) :
  Inv P call U N ops t ι0 w0 a0 σ V ab (Add S q) ι' (a.put o.dst x) w':=by
 have hq:q<ops.size:=(Qay.1 ho).1;have hmem:o∈ops.toList:=QbY.2 (Array.mem_of_getElem? ho);have hdq:qD ops q=o.dst:=by simp[qD,ho]
 refine⟨by rw[KO];exact I.size,by rw[Wz];exact DRs.mono hl _ _ I.ds,I.le.trans hl,I.grew.trans hg,λy=>?_,hs,λb hb=>?_,λp hp hS b h1 h2=>?_,λi u hS hu e he hbe=>?_,λp hS=>hS.elim (I.live p) (λe=>e▸hab)⟩
 ·by_cases hy:o.dst=some y
  ·have e:qf (λp=>Add S q p/\qD ops p=some y) ops.size=some q:=by
    refine ga hq ⟨.inr rfl,by rw[hdq,hy]⟩ λp h1 h2 ⟨h3,h4⟩=>?_;have hS:S p:=h3.resolve_right (by omega);have hu:=Jv h2;rcases sep c.ok ho hu (by omega) with h|⟨h,_⟩
    ·have:=(Yt c.ok I.closed hu ho hr hn h).1 hS;omega
    ·have hd':(ops[p]).dst=some y:=by simpa[qD,hu] using h4
     exact h.d3 y hd' hy
   rw[e];simp only;have hlt:y<a.tmps.size:=QaH (c.dst o hmem y hy) I.size;rw[hy,v7 a y x y hlt,if_pos rfl];exact hv
  ·have e:qf (λp=>Add S q p/\qD ops p=some y) ops.size=qf (λp=>S p/\qD ops p=some y) ops.size:=by
    refine yu _ λp hp=>and_congr_left λhd=>?_;refine⟨λh=>h.resolve_right λe=>hy ?_,.inl⟩;subst e;rw[<-hdq];exact hd
   have hg:(a.put o.dst x).tmps.getD y undef=a.tmps.getD y undef:=by
    cases hd:o.dst with
    |none=>rfl
    |some d=>
     rw[v7 a d x y (QaH (c.dst o hmem d hd) I.size),if_neg (λe=>hy (by rw[hd,e]))]
   rw[e,hg];have:=I.slot y;cases hl':qf (λp=>S p/\qD ops p=some y) ops.size with
   |some k=>rw[hl'] at this;exact VR.mono hl _ _ this
   |none=>rw[hl'] at this;exact λhu=>VR.mono hl _ _ (this hu)
 ·rcases hb1 b hb with h|h
  ·rcases I.birth b h with h|⟨p,h1,h2,h3⟩
   ·exact .inl h
   ·exact .inr ⟨p,h1,.inl h2,h3⟩
  ·exact .inr ⟨q,hq,.inr rfl,h⟩
 ·rcases hS with hS|hS
  ·exact hl.born (I.born p hp hS b h1 h2)
  ·subst hS;exact hb2 b h1 h2
 ·rcases hS with hS|hS
  ·exact .inl (I.closed i u hS hu e he hbe)
  ·subst hS;obtain⟨o',ho',h⟩:=hr;rw[ho'] at hu;cases hu;exact .inl (h e he hbe)
theorem QT {q b:Nat}(h:¬ Chg σ q b):cur σ ops.size (Add S q) b=cur σ ops.size S b:=by
 unfold cur
 congr 1
 refine yu _ λp hp=>?_;refine and_congr_left λhc=>?_;exact⟨λh'=>h'.resolve_right λe=>h (by rw[<-e];exact hc),.inl⟩
theorem Inv.still (c:Ctx P call U N ops t ι0 w0 a0 σ V E ex ab)(I:Inv P call U N ops t ι0 w0 a0 σ V ab S ι a w){q:Nat}{o:Oper}(ho:ops[q]? = some o)(hr:zh ops S q)(hn:¬ S q)(hab:ab q=false)(hsame:σ (q+1)=σ q)
  {ι':Inj} {x:Value} {w':World} (hl:Le ι ι') (hg:Grew ι w ι' w') (hv:VR ι' (V q) x) (hs:Sim ι' (tab (cur σ ops.size S) (σ ops.size).nx) (σ ops.size).nx w') (hu:∀ b,b<(σ ops.size).nx->ι b=.unborn->ι' b=.unborn) :
  Inv P call U N ops t ι0 w0 a0 σ V ab (Add S q) ι' (a.put o.dst x) w':=by
 refine I.next c ho hr hn hab hl hg hv ?_ (λb hb=>.inl λh=>hb (hu b (hs.born b hb) h)) (λb h1 h2=>by rw[hsame] at h2;omega)
 refine hs.same λb _=>?_;rw[yj,yj];split
 ·refine QT λh=>?_;rcases h with h|h
  ·rw[hsame] at h;omega
  ·rw[hsame] at h;exact h rfl
 ·rfl
theorem Inv.low (c:Ctx P call U N ops t ι0 w0 a0 σ V E ex ab)(I:Inv P call U N ops t ι0 w0 a0 σ V ab S ι a w){q:Nat}{o:Oper}(ho:ops[q]? = some o)(hr:zh ops S q)(hn:¬ S q)
  (hk:JB (jC P o.op)=true\/acts (jC P o.op)=true) {b p:Nat} (hp:p<ops.size) (hb:b<(σ (q+1)).nx) (hS:S p) (hc:Chg σ p b):p<q:=by
 have hu:=Jv hp;rcases Qcm p q with h|h|h
 ·exact h
 ·subst h;exact absurd hS hn
 ·exfalso;have hmono:=c.nx_mono (p:=q+1) p (by omega) (by omega);obtain⟨h1,h2,h3⟩:=c.chg hu hc (by omega);rcases sep c.ok hu ho (by omega) with h4|⟨h4,h5⟩
  ·rw[Jy] at h4;have:=(Yt c.ok I.closed hu ho hr hn h4).1 hS;omega
  ·rcases hk with hk|hk
   ·exact h5 h ⟨hk,h1⟩
   ·have hw1:=h4.w1;have hw2:=h4.w2;have ho1:zU (jC P (ops[p]).op)=true:=by
     cases hcl:jC P (ops[p]).op<;>rw[hcl] at h1 hw2<;>simp_all [acts,Jo,zU]
    have ho2:zU (jC P o.op)=true:=by
     cases hcl:jC P o.op<;>rw[hcl] at hk hw1<;>simp_all [acts,Jo,zU]
    have hwt:ye P ops p ops[p]=true:=by
     unfold ye;simp only[Qaz,Qbh,ho1,true_and];rw[List.all_eq_false];refine⟨q,by simp;omega,?_⟩;have hne:Qap p q=false:=by
      cases hbq:Qap p q
      ·rfl
      ·rw[qh] at hbq;omega
     have hno:qH (qx ops.toList) p q=false:=by
      cases hoo:qH (qx ops.toList) p q
      ·rfl
      ·exfalso;have hoo':qH (bs ops) q p=true:=by rw[Jy];exact hoo
       have:=(Yt c.ok I.closed hu ho hr hn hoo').1 hS;omega
     simp[ho,hne,ho2,hno]
    rw[hwt] at h2;cases h2
theorem Inv.ahead (c:Ctx P call U N ops t ι0 w0 a0 σ V E ex ab)(I:Inv P call U N ops t ι0 w0 a0 σ V ab S ι a w){q:Nat}{o:Oper}(ho:ops[q]? = some o)(hr:zh ops S q)(hn:¬ S q)
  (hk:acts (jC P o.op)=true) {b p:Nat} (hb:ι b≠.unborn) (hpq:p<q) (hc:Chg σ p b):S p:=by
 have hq:q<ops.size:=(Qay.1 ho).1;have hp:p<ops.size:=by omega
 have hu:=Jv hp;rcases QaR b (σ p).nx with h|h
 ·obtain⟨h1,h2,h3⟩:=c.chg hu hc h;by_cases hoo:qH (bs ops) q p=true
  ·exact(Yt c.ok I.closed hu ho hr hn hoo).2 hpq
  ·exfalso;obtain⟨h4,_⟩:=(sep c.ok ho hu (by omega)).resolve_left hoo;have hw1:=h4.w1;have hw2:=h4.w2;have ho1:zU (jC P (ops[p]).op)=true:=by
    cases hcl:jC P (ops[p]).op<;>rw[hcl] at h1 hw1<;>simp_all [acts,Jo,zU]
   have ho2:zU (jC P o.op)=true:=by
    cases hcl:jC P o.op<;>rw[hcl] at hk hw2<;>simp_all [acts,Jo,zU]
   have hwt:ye P ops p ops[p]=true:=by
    unfold ye;simp only[Qaz,Qbh,ho1,true_and];rw[List.all_eq_false];refine⟨q,by simp;omega,?_⟩;have hne:Qap p q=false:=by
     cases hbq:Qap p q
     ·rfl
     ·rw[qh] at hbq;omega
    have hno:qH (qx ops.toList) p q=false:=by
     cases hoo2:qH (qx ops.toList) p q
     ·rfl
     ·exact absurd (by rw[Jy];exact hoo2) hoo
    simp[ho,hne,ho2,hno]
   rw[hwt] at h2;cases h2
 ·exact I.maker c hb hp h (c.chg_lt hu hc)
end
end Go.Ev
end
noncomputable section
namespace Go.Ev
open Go.RowKit
section
variable {P:Program} {call:qd} {U N:Nat} {ops:Array Oper} {t:T AV} {ι0:Inj} {w0:World} {a0:Act} {σ:Nat->St} {V:Nat->AV} {E:Nat->TE} {ex ab:Nat->Bool}
variable {S:Nat->Prop} {ι:Inj} {a:Act} {w:World}
theorem Inv.bound (c:Ctx P call U N ops t ι0 w0 a0 σ V E ex ab)(I:Inv P call U N ops t ι0 w0 a0 σ V ab S ι a w){b k:Nat}(hk:k<=ops.size)(hbk:b<(σ k).nx){B T:Nat}(hb:ι b=.at B T)
  {o:AO} {x:Obj} (ho:jh (σ k).h b=some o) (hx:OR ι T o x):obnd (σ k).nx o:=by
 obtain⟨ιc,ac,wc,r,_,hc⟩:=c.can k hk;have hbc:=I.canon c (by rw[hb];simp) hk hbk hc;cases hι:ιc b with
 |unborn=>exact absurd hι hbc
 |dead=>
  have:=r.sim.gone b hι o ho;subst this;exact hx.elim
 |«at» B' T'=>
  obtain⟨o',x',h1,h2,h3⟩:=r.sim.obj b B' T' hι;rw[ho] at h1;cases h1;exact⟨ιc,T',x',r.sim.born,h3⟩
theorem Inv.seen (c:Ctx P call U N ops t ι0 w0 a0 σ V E ex ab)(I:Inv P call U N ops t ι0 w0 a0 σ V ab S ι a w){q:Nat}{o:Oper}(ho:ops[q]? = some o)(hr:zh ops S q)(hn:¬ S q)
  (hk:JB (jC P o.op)=true\/acts (jC P o.op)=true) {h2:T AO} (hh:∀ b,b<(σ q).nx->ι b≠.unborn->jh h2 b=cur σ ops.size S b) :
  Sim (hide ι (σ q).nx) h2 (σ q).nx w:=by
 have hq:q<ops.size:=(Qay.1 ho).1;have hM:=c.nx_mono (p:=q) ops.size (by omega) (by omega);have hq1:=(c.stf ho).nx;refine⟨λb B T hb=>?_,λb hb o' ho'=>?_,λb b' B T T' h1 h2=>?_,λb hb=>?_,⟨⟨I.sim.glob.1.1,λb S' e=>I.sim.glob.1.2 b S' (yM e).1⟩,λB vs hB=>⟨(I.sim.glob.2 B vs hB).1,λb S' e=>(I.sim.glob.2 B vs hB).2 b S' (yM e).1⟩⟩⟩
 ·obtain⟨hb1,hb2⟩:=yM hb;obtain⟨ob,x,h1,h3,h4⟩:=I.sim.obj b B T hb1;rw[yj,if_pos (by omega)] at h1;refine⟨ob,x,by rw[hh b hb2 (by rw[hb1];simp)];exact h1,h3,?_⟩;have:obnd (σ q).nx ob:=by
   unfold cur at h1;cases hl:qf (λp=>S p/\Chg σ p b) ops.size with
   |none=>
    rw[hl] at h1;rcases QaR b (σ 0).nx with h0|h0
    ·exact(I.bound c (QaM _) h0 hb1 h1 h4).mono (c.nx_mono q (QaM _) (by omega))
    ·exfalso;rcases I.birth b (by rw[hb1];simp) with h5|⟨p,h5,h6,h7⟩
     ·have:=c.born0 h5;omega
     ·exact X2 _ hl p h5 ⟨h6,.inl h7⟩
   |some k=>
    rw[hl] at h1;obtain⟨h5,⟨h6,h7⟩,_⟩:=JP _ hl;have h8:=I.low c ho hr hn hk h5 (by omega) h6 h7;exact(I.bound c (k:=k+1) (by omega) (c.chg_lt (Jv h5) h7) hb1 h1 h4).mono (c.nx_mono q (by omega) (by omega))
  exact this.hide h4
 ·unfold hide at hb;dsimp only at hb;split at hb
  ·rename_i hlt;rw[hh b hlt (by rw[hb];simp)] at ho';exact I.sim.gone b hb o' (by rw[yj,if_pos (by omega)];exact ho')
  ·cases hb
 ·exact I.sim.inj b b' B T T' (yM h1).1 (yM h2).1
 ·unfold hide at hb;dsimp only at hb;split at hb
  ·assumption
  ·exact absurd rfl hb
theorem Inv.hidden (c:Ctx P call U N ops t ι0 w0 a0 σ V E ex ab)(I:Inv P call U N ops t ι0 w0 a0 σ V ab S ι a w){q:Nat}{o:Oper}(ho:ops[q]? = some o)(hr:zh ops S q)(hn:¬ S q) :
  ∀ x∈o.op.operands.toList,VR (hide ι (σ q).nx) ((jy U (jW ops q) x).run ⟨t,j7 ops V q⟩) (a.eval x):=by
 intro x hx;have h1:=I.opnd c ho hr hn x hx;have hq:q<ops.size:=(Qay.1 ho).1;obtain⟨ιc,ac,wc,r,_,_⟩:=c.can q (by omega);exact VR.hide r.sim.born _ _ _ (r.opd x) h1
theorem Inv.merge (c:Ctx P call U N ops t ι0 w0 a0 σ V E ex ab)(I:Inv P call U N ops t ι0 w0 a0 σ V ab S ι a w){q:Nat}{o:Oper}(ho:ops[q]? = some o)(hr:zh ops S q)(hn:¬ S q)(hab:ab q=false)
  {st2 st2':St} (hn1:st2.nx=(σ q).nx) (hn2:st2'.nx=(σ (q+1)).nx) {wch:Bool} {ι':Inj} {x:Value} {w':World} (L:Left (hide ι (σ q).nx) w wch st2 (V q) st2' ι' x w')
  (hh:∀ b,b<(σ (q+1)).nx->ι' b≠.unborn->(b<(σ q).nx->ι b≠.unborn)->jh st2'.h b=cur σ ops.size (Add S q) b) :
  ∃ ι2,Inv P call U N ops t ι0 w0 a0 σ V ab (Add S q) ι2 (a.put o.dst x) w':=by
 have hq:q<ops.size:=(Qay.1 ho).1;have hq1:=(c.stf ho).nx;have hM:=c.nx_mono (p:=q+1) ops.size (by omega) (by omega);have hu:∀ b,b<(σ q).nx->ι b=.unborn->ι' b=.unborn:=λb hb hub=>by
  refine L.cl.u b (by rw[hn1];exact hb) ?_;unfold hide;dsimp only;rw[if_pos hb];exact hub
 have hnew:∀ b,(σ q).nx<=b->b<(σ (q+1)).nx->ι b=.unborn:=λb h1 h2=>by
  cases hb:ι b with
  |unborn=>rfl
  |dead=>exact absurd (I.maker c (by rw[hb];simp) hq h1 h2) hn
  |«at» B T=>exact absurd (I.maker c (by rw[hb];simp) hq h1 h2) hn
 have hb':∀ b,ι' b≠.unborn->b<(σ (q+1)).nx:=λb hb=>by rw[<-hn2];exact L.sim.born b hb
 have hfz:∀ B vs,ι'.g B=some vs->∀ b S,(if b<(σ (q+1)).nx then ι' b else ι b)≠.at B S:=λB vs hB b S hb=>by
  by_cases h1:b<(σ (q+1)).nx
  ·rw[if_pos h1] at hb;exact(L.sim.glob.2 B vs hB).2 b S hb
  ·rw[if_neg h1] at hb;rcases L.grew.gl B vs hB with h|⟨_,⟨d,T,h⟩|h⟩
   ·exact(I.sim.glob.2 B vs h).2 b S hb
   ·obtain⟨h2,h3⟩:=yM h;have:=I.sim.inj d b B T S h2 hb;omega
   ·have:=I.sim.lt hb;omega
 have le2:Le ι' ⟨λb=>if b<(σ (q+1)).nx then ι' b else ι b,ι'.g⟩:=⟨λb hb=>.inl (if_pos (hb' b hb)),λ_ _ h=>h⟩;have le1:Le ι ⟨λb=>if b<(σ (q+1)).nx then ι' b else ι b,ι'.g⟩:=by
  refine⟨λb hb=>?_,L.le.2⟩;by_cases h1:b<(σ (q+1)).nx
  ·simp only[if_pos h1];rcases QaR b (σ q).nx with h2|h2
   ·have e:hide ι (σ q).nx b=ι b:=by unfold hide;dsimp only;rw[if_pos h2]
    have:=L.le.1 b (by rw[e];exact hb);rwa [e] at this
   ·exact absurd (hnew b h2 h1) hb
  ·simp only[if_neg h1];exact .inl trivial
 refine⟨⟨λb=>if b<(σ (q+1)).nx then ι' b else ι b,ι'.g⟩,I.next c ho hr hn hab le1 ?_ (VR.mono le2 _ _ L.v) ?_ ?_ ?_⟩
 ·refine⟨L.grew.os,L.grew.tape,L.grew.output,L.grew.size,λk hk hno=>L.grew.keep k hk λb T hb=>hno b T (yM hb).1,λb B T hb=>?_,λB vs hB=>(L.grew.gl B vs hB).elim .inl λh=>.inr ⟨⟨h.1.1,hfz B vs hB⟩,h.2.elim (λ⟨d,T,hd⟩=>.inl ⟨d,T,(yM hd).1⟩) .inr⟩⟩;by_cases h1:b<(σ (q+1)).nx
  ·simp only[if_pos h1] at hb;rcases L.grew.new b B T hb with ⟨d,T',h2⟩|h2
   ·exact .inl ⟨d,T',(yM h2).1⟩
   ·exact .inr h2
  ·simp only[if_neg h1] at hb;exact .inl ⟨b,T,hb⟩
 ·refine⟨λb B T hb=>?_,λb hb o' ho'=>?_,λb b' B T T' h1 h2=>?_,λb hb=>?_,⟨⟨L.sim.glob.1.1,λb T hb=>by
   by_cases h1:b<(σ (q+1)).nx
   ·simp only[if_pos h1] at hb;exact L.sim.glob.1.2 b T hb
   ·simp only[if_neg h1] at hb;exact I.sim.glob.1.2 b T hb⟩,λB vs hB=>⟨(L.sim.glob.2 B vs hB).1,hfz B vs hB⟩⟩⟩
  ·by_cases h1:b<(σ (q+1)).nx
   ·simp only[if_pos h1] at hb;obtain⟨ob,y,h2,h3,h4⟩:=L.sim.obj b B T hb;refine⟨ob,y,?_,h3,OR.mono le2 _ _ h4⟩
    ·rw[yj,if_pos (by omega),<-hh b h1 (by rw[hb];simp) λh5 h6=>by rw[hu b h5 h6] at hb;cases hb];exact h2
   ·simp only[if_neg h1] at hb;obtain⟨ob,y,h2,h3,h4⟩:=I.sim.obj b B T hb;have hbM:b<(σ ops.size).nx:=I.sim.born b (by rw[hb];simp);have hnc:¬ Chg σ q b:=λh=>h1 (c.chg_lt ho h);refine⟨ob,y,?_,?_,OR.mono le1 _ _ h4⟩
    ·rw[yj,if_pos hbM,QT hnc];rw[yj,if_pos hbM] at h2;exact h2
    ·rw[L.grew.keep B (I.sim.lt hb) λd T' hd=>?_]
     ·exact h3
     ·obtain⟨h5,h6⟩:=yM hd;have:=I.sim.inj d b B T' T h5 hb;omega
  ·by_cases h1:b<(σ (q+1)).nx
   ·simp only[if_pos h1] at hb;rw[yj,if_pos (by omega),<-hh b h1 (by rw[hb];simp) λh5 h6=>by rw[hu b h5 h6] at hb;cases hb] at ho';exact L.sim.gone b hb o' ho'
   ·simp only[if_neg h1] at hb;have hbM:b<(σ ops.size).nx:=I.sim.born b (by rw[hb];simp);have hnc:¬ Chg σ q b:=λh=>h1 (c.chg_lt ho h);rw[yj,if_pos hbM,QT hnc] at ho';exact I.sim.gone b hb o' (by rw[yj,if_pos hbM];exact ho')
  ·have mixed:∀ b b' B T T',b<(σ (q+1)).nx->¬ b'<(σ (q+1)).nx->ι' b=.at B T->ι b'=.at B T'->False:=by
    intro b b' B T T' h3 h4 h5 h6;have h7:=I.sim.lt h6;rcases L.grew.new b B T h5 with ⟨d,T2,h8⟩|h8
    ·obtain⟨h9,h10⟩:=yM h8;have:=I.sim.inj d b' B T2 T' h9 h6;omega
    ·omega
   by_cases h3:b<(σ (q+1)).nx<;>by_cases h4:b'<(σ (q+1)).nx
   ·simp only[if_pos h3] at h1;simp only[if_pos h4] at h2;exact L.sim.inj b b' B T T' h1 h2
   ·simp only[if_pos h3] at h1;simp only[if_neg h4] at h2;exact(mixed b b' B T T' h3 h4 h1 h2).elim
   ·simp only[if_neg h3] at h1;simp only[if_pos h4] at h2;exact(mixed b' b B T' T h4 h3 h2 h1).elim
   ·simp only[if_neg h3] at h1;simp only[if_neg h4] at h2;exact I.sim.inj b b' B T T' h1 h2
  ·by_cases h1:b<(σ (q+1)).nx
   ·omega
   ·simp only[if_neg h1] at hb;exact I.sim.born b hb
 ·intro b hb;by_cases h1:b<(σ (q+1)).nx
  ·simp only[if_pos h1] at hb;rcases QaR b (σ q).nx with h2|h2
   ·exact .inl λh3=>hb (hu b h2 h3)
   ·exact .inr ⟨h2,h1⟩
  ·simp only[if_neg h1] at hb;exact .inl hb
 ·intro b h1 h2;simp only[if_pos h2];exact L.cl.n b (by rw[hn1];exact h1) (by rw[hn2];exact h2)
theorem Inv.acting (c:Ctx P call U N ops t ι0 w0 a0 σ V E ex ab)(I:Inv P call U N ops t ι0 w0 a0 σ V ab S ι a w){q:Nat}{o:Oper}(ho:ops[q]? = some o)(hr:zh ops S q)(hn:¬ S q)(hab:ab q=false)
  (hk:acts (jC P o.op)=true) {wch:Bool} (hO:OpR P (jy U (jW ops q)) wch call o.op ⟨t,j7 ops V q⟩ (σ q) (V q) (σ (q+1))) :
  Runs P o a w λx w'=>∃ ι2,Inv P call U N ops t ι0 w0 a0 σ V ab (Add S q) ι2 (a.put o.dst x) w':=by
 have hq:q<ops.size:=(Qay.1 ho).1;have hq1:=(c.stf ho).nx;have hcur:∀ b,b<(σ q).nx->ι b≠.unborn->jh (σ q).h b=cur σ ops.size S b:=λb hb hub=>by
  unfold cur;rw[<-XA b q,<-Xx ops.size (Nat.le_of_lt hq)]
  congr 1
  refine yu _ λp hp=>and_congr_left λhc=>?_;exact⟨λh=>I.ahead c ho hr hn hk hub h hc,λh=>I.low c ho hr hn (.inr hk) hp (by omega) h hc⟩
 have hsim:=I.seen c ho hr hn (.inr hk) hcur;have hruns:=we c.hcall (wi c.ok ho).2.1 hO hsim (I.hidden c ho hr hn);have key:∀ x w',(∃ ι',Left (hide ι (σ q).nx) w wch (σ q) (V q) (σ (q+1)) ι' x w')->∃ ι2,Inv P call U N ops t ι0 w0 a0 σ V ab (Add S q) ι2 (a.put o.dst x) w':=by
  intro x w' ⟨ι',L⟩;refine I.merge c ho hr hn hab rfl rfl L λb hb hb' hold=>?_;unfold cur;rw[<-XA b (q+1),<-Xx ops.size (show q+1<=ops.size from hq)]
  congr 1
  refine yu _ λp hp=>and_congr_left λhc=>⟨λh=>?_,λh=>?_⟩
  ·by_cases hpq:p=q
   ·exact .inr hpq
   ·have hlt:p<q:=by omega
    refine .inl (I.ahead c ho hr hn hk (hold ?_) hlt hc);have:=c.chg_lt (Jv hp) hc;have:=c.nx_mono (p:=p+1) q (by omega) (by omega);omega
  ·rcases h with h|h
   ·have:=I.low c ho hr hn (.inr hk) hp hb h hc;omega
   ·omega
 rcases hruns with ⟨x,w',h1,h2⟩|⟨f,vs,h1,h2⟩
 ·exact .inl ⟨x,w',h1,key x w' h2⟩
 ·exact .inr ⟨f,vs,h1,Calls.mono h2 λe w' ⟨x,h3,h4⟩=>⟨x,h3,key x w' h4⟩⟩
theorem Runs.mono {P:Program}{o:Oper}{a:Act}{w:World}{R R':Value->World->Prop}(h:Runs P o a w R)(hR:∀ x w',R x w'->R' x w'):Runs P o a w R':=by
 rcases h with ⟨x,w',h1,h2⟩|⟨f,vs,h1,h2⟩
 ·exact .inl ⟨x,w',h1,hR x w' h2⟩
 ·exact .inr ⟨f,vs,h1,Calls.mono h2 λe w' ⟨x,h3,h4⟩=>⟨x,h3,hR x w' h4⟩⟩
theorem Inv.making (c:Ctx P call U N ops t ι0 w0 a0 σ V E ex ab)(I:Inv P call U N ops t ι0 w0 a0 σ V ab S ι a w){q:Nat}{o:Oper}(ho:ops[q]? = some o)(hr:zh ops S q)(hn:¬ S q)(hab:ab q=false)
  (hk:jC P o.op=.makes) (hO:OpR P (jy U (jW ops q)) false call o.op ⟨t,j7 ops V q⟩ (σ q) (V q) (σ (q+1))) :
  Runs P o a w λx w'=>∃ ι2,Inv P call U N ops t ι0 w0 a0 σ V ab (Add S q) ι2 (a.put o.dst x) w':=by
 have hq:q<ops.size:=(Qay.1 ho).1;have hm:JB (jC P o.op)=true:=by rw[hk];rfl
 obtain⟨hco,ob,h1,h2⟩:=Uw hO hk;generalize hst:(⟨(σ q).nx,tab (cur σ ops.size S) (σ q).nx,0,[]⟩:St)=st2;have hnx:st2.nx=(σ q).nx:=by rw[<-hst]
 have hnx1:(σ (q+1)).nx=(σ q).nx+1:=by rw[h1]
 have h3:=h2 st2 hnx;have hO2:OpR P (jy U (jW ops q)) false call o.op ⟨t,j7 ops V q⟩ st2 (V q) ⟨st2.nx+1,(jT (jv st2.nx)).run ob st2.h,st2.dirty,st2.fr⟩:=by
  refine⟨⟨st2.nx+1,(jT (jv st2.nx)).run ob st2.h,st2.dirty,st2.fr⟩,λh=>(by cases h),?_⟩;rw[hco];exact⟨h3,rfl⟩
 have hsim:Sim (hide ι (σ q).nx) st2.h st2.nx w:=by
  rw[hnx];refine I.seen c ho hr hn (.inl hm) λb hb _=>?_;rw[<-hst];show jh (tab _ _) b=_;rw[yj,if_pos hb]
 refine(we c.hcall (wi c.ok ho).2.1 hO2 hsim (I.hidden c ho hr hn)).mono ?_;intro x w' ⟨ι',L⟩;refine I.merge c ho hr hn hab hnx (by rw[hnx1];show st2.nx+1=_;rw[hnx]) L λb hb hb' hold=>?_;show jh ((jT (jv st2.nx)).run ob st2.h) b=_;rw[jS,hnx];by_cases hbq:b=(σ q).nx
 ·rw[if_pos hbq];unfold cur;have hchg:Chg σ q b:=.inl ⟨by omega,hb⟩;have e:qf (λp=>Add S q p/\Chg σ p b) ops.size=some q:=by
   refine ga hq ⟨.inr rfl,hchg⟩ λp h4 h5 ⟨h6,h7⟩=>?_;have:=I.low c ho hr hn (.inl hm) h5 hb (h6.resolve_right (by omega)) h7;omega
  rw[e];show _=jh (σ (q+1)).h b;rw[h1];show _=jh ((jT (jv (σ q).nx)).run ob (σ q).h) b;rw[jS,if_pos hbq]
 ·rw[if_neg hbq];have hlt:b<(σ q).nx:=by omega
  have hnc:¬ Chg σ q b:=λh=>by
   rcases h with h|h
   ·omega
   ·refine h ?_;rw[h1];show jh ((jT (jv (σ q).nx)).run ob (σ q).h) b=_;rw[jS,if_neg hbq]
  rw[QT hnc,<-hst];show jh (tab _ _) b=_;rw[yj,if_pos hlt]
end
end Go.Ev
end
noncomputable section
namespace Go.Ev
open Go.RowKit
def KV (P:Program)(t:TypeId)(x:TE)(tb:List TE)(p:Nat×TypeId):Bool:=
 match x with
 |.rd a v=>(match qP .none tb p.1 with | .wr pre post=>cond (jN P t a v pre) (jN P t a v post) false | .rd _ _=>false | .none=>true)
 |.wr pre post=>(match qP .none tb p.1 with | .rd a v=>cond (jN P p.2 a v pre) (jN P p.2 a v post) false | .wr _ _=>false | .none=>true)
 |.none=>true
theorem jcr {P:Program}{t:TypeId}{x:TE}{tb:List TE}(y:Nat×TypeId)(l:List (Nat×TypeId)):held P t x tb (y :: l)=cond (KV P t x tb y) (held P t x tb l) false:=by
 cases x<;>rfl
theorem Hg {P:Program}{t:TypeId}{x:TE}{tb:List TE}:∀ {l:List (Nat×TypeId)},held P t x tb l=true->∀ {p:Nat×TypeId},p∈l->KV P t x tb p=true
 |[],_,p,hm=>by simp at hm
 |y :: l,h,p,hm=>by
  rw[jcr] at h;obtain⟨h1,h2⟩:=qj h;rcases Qbp.1 hm with rfl|hm
  ·exact h1
  ·exact Hg h2 hm
theorem jcz:∀ i k,k<i->(j8 i)[k]? = some (i - 1 - k)
 |0,k,h=>by omega
 |i+1,0,h=>by simp[j8]
 |i+1,k+1,h=>by
  simp only[j8,List.getElem?_cons_succ];rw[jcz i k (by omega)]
  congr 1
  omega
theorem jbx {E:Nat->TE}:∀ i k,k<i->qP .none (yZ E i) k=E (i - 1 - k)
 |0,k,h=>by omega
 |i+1,0,h=>by simp[yZ]
 |i+1,k+1,h=>by
  have:=jbx (E:=E) i k (by omega);simp only[yL,yZ,Qai] at this ⊢;rw[this]
  congr 1
  omega
theorem YZ {P:Program}{t:TypeId}{b o:Nat}{v:AV}{h:T AO}(e:jN P t (.ptr b o) v h=true):(qn P t).run (.ptr b o) h=some v:=by
 unfold jN at e;dsimp only at e;split at e
 ·rename_i u hu;rw[hu,jgj e]
 ·cases e
section
variable {P:Program} {call:qd} {U N:Nat} {ops:Array Oper} {t:T AV} {ι0:Inj} {w0:World} {a0:Act} {σ:Nat->St} {V:Nat->AV} {E:Nat->TE} {ex ab:Nat->Bool}
variable {S:Nat->Prop} {ι:Inj} {a:Act} {w:World}
theorem Ctx.tr_at (c:Ctx P call U N ops t ι0 w0 a0 σ V E ex ab){p:Nat}{o:Oper}(ho:ops[p]? = some o):TrAt P call U ops t (ab p) p (j7 ops V p) (yZ E p) (σ p) (ex p) (V p) (E p) (σ (p+1)) o:=by
 obtain⟨o',htr⟩:=c.tr p (Qay.1 ho).1;have:o'=o:=by have:=htr.hop;rw[ho] at this;cases this;rfl
 rw[<-this];exact htr
theorem Ctx.te_act (c:Ctx P call U N ops t ι0 w0 a0 σ V E ex ab){p b:Nat}{o:Oper}(ho:ops[p]? = some o)(ha:acts (jC P o.op)=true)(hne:jh (σ (p+1)).h b≠jh (σ p).h b) :
  ex p=true/\E p=.wr (σ p).h (σ (p+1)).h:=by
 have htr:=c.tr_at ho;cases hx:ex p
 ·exact absurd (by rw[(htr.skip hx).2.2]) hne
 ·refine⟨rfl,?_⟩;rw[(htr.run hx).2.1];unfold zB;cases hcl:jC P o.op<;>rw[hcl] at ha<;>first|rfl|cases ha
theorem Ctx.pair (c:Ctx P call U N ops t ι0 w0 a0 σ V E ex ab){i j:Nat}{o u:Oper}(hi:ops[i]? = some o)(hj:ops[j]? = some u)(hji:j<i)(hx:ex i=true)(hno:qH (bs ops) i j=false)
  (hk:(reads (jC P u.op)=true/\acts (jC P o.op)=true)\/(acts (jC P u.op)=true/\reads (jC P o.op)=true)) :
  (match E i with
   |.rd a v=>(match E j with | .wr pre post=>cond (jN P (Jh o.op) a v pre) (jN P (Jh o.op) a v post) false | .rd _ _=>false | .none=>true)
   |.wr pre post=>(match E j with | .rd a v=>cond (jN P (Jh u.op) a v pre) (jN P (Jh u.op) a v post) false | .wr _ _=>false | .none=>true)
   |.none=>true)=true:=by
 have htr:=c.tr_at hi;have hheld:=(htr.run hx).2.2;have hmem:(i - 1 - j,Jh u.op)∈partners P ops (j8 i) i o:=by
  unfold partners;rw[List.mem_filterMap];refine⟨(j,i - 1 - j),?_,?_⟩
  ·rw[List.mem_zipIdx_iff_getElem?];show(j8 i)[i - 1 - j]? = some j;rw[jcz i _ (by omega)]
   congr 1
   omega
  ·simp only[hj];have hb:(((reads (jC P u.op) && acts (jC P o.op)) ||(acts (jC P u.op) && reads (jC P o.op))) && !qH (qx ops.toList) i j)=true:=by
    have:qH (qx ops.toList) i j=false:=hno;rw[this];rcases hk with ⟨h1,h2⟩|⟨h1,h2⟩<;>simp[h1,h2]
   rw[hb];simp only[cond_true,Jh]
 have h:=Hg hheld hmem;unfold KV at h;simp only at h;rw[jbx i _ (by omega)] at h;have e:i - 1 - (i - 1 - j)=j:=by omega
 rw[e] at h;exact h
theorem Inv.loading (c:Ctx P call U N ops t ι0 w0 a0 σ V E ex ab)(I:Inv P call U N ops t ι0 w0 a0 σ V ab S ι a w){q:Nat}{o:Oper}(ho:ops[q]? = some o)(hr:zh ops S q)(hn:¬ S q)
  (hx:ex q=true) {ty:TypeId} {ad:Operand} (hop:o.op=.load ty ad) (hv:(qn P ty).run ((jy U (jW ops q) ad).run ⟨t,j7 ops V q⟩) (σ q).h=some (V q)) :
  (qn P ty).run ((jy U (jW ops q) ad).run ⟨t,j7 ops V q⟩) (tab (cur σ ops.size S) (σ ops.size).nx)=some (V q):=by
 have hq:q<ops.size:=(Qay.1 ho).1;have hvr:=I.opnd c ho hr hn ad (by rw[hop];simp[Op.operands]);have hE:E q=.rd ((jy U (jW ops q) ad).run ⟨t,j7 ops V q⟩) (V q):=by
  rw[((c.tr_at ho).run hx).2.1,hop];rfl
 obtain⟨ιc,ac,wc,r,_,_⟩:=c.can q (by omega);have hvc:=r.opd ad;generalize (jy U (jW ops q) ad).run ⟨t,j7 ops V q⟩=addr at hv hvr hE hvc ⊢;obtain⟨b,off,rfl⟩|⟨cs,off,rfl⟩:=jb8 (P:=P) hv;rotate_left
 ·rw[jab (h2:=(σ q).h)];exact hv
 have hb:ι b≠.unborn:=by simp only[VR] at hvr;exact hvr.1
 have hbq:b<(σ q).nx:=r.sim.born b (by simp only[VR] at hvc;exact hvc.1);have hM:=c.nx_mono (p:=q) ops.size (by omega) (by omega);have hrd:reads (jC P o.op)=true:=by rw[hop];rfl
 have hty:Jh o.op=ty:=by rw[hop];rfl
 have XO:∀ p,p<ops.size->p≠q->(S p↔¬ p<q)->Chg σ p b->(qn P ty).run (.ptr b off) (σ p).h=some (V q)/\(qn P ty).run (.ptr b off) (σ (p+1)).h=some (V q):=by
  intro p hp hpq hS hc;have hu:=Jv hp;have hbp:b<(σ p).nx:=by
   rcases QaR b (σ p).nx with h|h
   ·exact h
   ·exfalso;have hlt:=c.chg_lt hu hc;have h1:=I.maker c hb hp h hlt;have h2:=hS.1 h1;have:=c.nx_mono (p:=q) p (by omega) (by omega);omega
  obtain⟨h1,h2,h3⟩:=c.chg hu hc hbp;obtain⟨hxp,hEp⟩:=c.te_act hu h1 h3;have hno:qH (bs ops) q p=false:=by
   cases hoo:qH (bs ops) q p
   ·rfl
   ·have:=Yt c.ok I.closed hu ho hr hn hoo;exfalso;by_cases hlt:p<q
    ·exact hS.1 (this.2 hlt) hlt
    ·exact hlt (this.1 (hS.2 hlt))
  by_cases hlt:p<q
  ·have h:=c.pair ho hu hlt hx hno (.inr ⟨h1,hrd⟩);rw[hE,hEp] at h;simp only[hty] at h;obtain⟨h4,h5⟩:=qj h;exact⟨YZ h4,YZ h5⟩
  ·have h:=c.pair hu ho (by omega) hxp (by rw[Jy];exact hno) (.inl ⟨hrd,h1⟩);rw[hE,hEp] at h;simp only[hty] at h;obtain⟨h4,h5⟩:=qj h;exact⟨YZ h4,YZ h5⟩
 have stay:∀ p,¬ Chg σ p b->(qn P ty).run (.ptr b off) (σ (p+1)).h=(qn P ty).run (.ptr b off) (σ p).h:=λp h=>by
  refine w9 ?_;exact Classical.not_not.1 λh2=>h (.inr h2)
 have down:∀ d k,k+d=q->(∀ p,k<=p->p<q->Chg σ p b->¬ S p)->(qn P ty).run (.ptr b off) (σ k).h=some (V q):=by
  intro d;induction d with
  |zero=>
   intro k hk _;have:k=q:=by omega
   rw[this];exact hv
  |succ d ih=>
   intro k hk hno;by_cases hc:Chg σ k b
   ·have hns:=hno k (Qag _) (by omega) hc;exact(XO k (by omega) (by omega) ⟨λh=>absurd h hns,λh=>absurd (by omega:k<q) h⟩ hc).1
   ·rw[<-stay k hc];exact ih (k+1) (by omega) λp h1 h2=>hno p (by omega) h2
 have goal:∀ h2:T AO,jh h2 b=cur σ ops.size S b->(qn P ty).run (.ptr b off) h2=some (V q):=by
  intro h2 hh;unfold cur at hh;cases hl:qf (λp=>S p/\Chg σ p b) ops.size with
  |none=>
   rw[hl] at hh;rw[w9 (h2:=(σ 0).h) hh];exact down q 0 (by omega) λp _ h1 h3 h4=>X2 _ hl p (by omega) ⟨h4,h3⟩
  |some k=>
   rw[hl] at hh;obtain⟨h3,⟨h4,h5⟩,h6⟩:=JP _ hl;rw[w9 (h2:=(σ (k+1)).h) hh];rcases Qcm k q with h7|h7|h7
   ·exact down (q - (k+1)) (k+1) (by omega) λp h8 h9 h10 h11=>h6 p (by omega) (by omega) ⟨h11,h10⟩
   ·subst h7;exact absurd h4 hn
   ·exact(XO k h3 (by omega) ⟨λ_=>by omega,λ_=>h4⟩ h5).2
 refine goal _ ?_;rw[yj,if_pos (by omega)]
theorem Inv.step (c:Ctx P call U N ops t ι0 w0 a0 σ V E ex ab)(I:Inv P call U N ops t ι0 w0 a0 σ V ab S ι a w){q:Nat}{o:Oper}(ho:ops[q]? = some o)(hr:zh ops S q)(hn:¬ S q)(hab:ab q=false){K:Act->World->Prop}{Q:Exit->Act->World->Prop}
  (hk:∀ ι' a' w',Inv P call U N ops t ι0 w0 a0 σ V ab (Add S q) ι' a' w'->K a' w'):wpOp P ops Q q K a w:=by
 have htr:=c.tr_at ho;have hw:=I.want c ho hr hn (htr.want hab);have still:∀ ι' x w',V q=j1->σ (q+1)=σ q->x=undef->w'=w->ι'=ι->Inv P call U N ops t ι0 w0 a0 σ V ab (Add S q) ι' (a.put o.dst x) w':=by
  intro ι' x w' h1 h2 h3 h4 h5;subst h3;subst h4;subst h5;exact I.still c ho hr hn hab h2 (Le.refl _) (Grew.refl _ _) (by rw[h1];exact Yy _) I.sim λ_ _ h=>h
 unfold wpOp;simp only[ho];cases hx:ex q
 ·rw[hw,hx];simp only[Qba,if_false];obtain⟨h1,h2,h3⟩:=htr.skip hx;exact hk ι _ _ (still ι undef w h1 h3 rfl rfl rfl)
 ·rw[hw,hx];simp only[if_true];left;obtain⟨hO,hE,_⟩:=htr.run hx;have done:Runs P o a w (λx w'=>∃ ι2,Inv P call U N ops t ι0 w0 a0 σ V ab (Add S q) ι2 (a.put o.dst x) w')->o.wp P a w K Q:=λh=>
   h.wp λx w' ⟨ι2,h2⟩=>hk ι2 _ _ h2
  have quiet:σ (q+1)=σ q->j5 o.op=none->(je P (jy U (jW ops q)) o.op).run ⟨t,j7 ops V q⟩ ⟨(σ ops.size).nx,tab (cur σ ops.size S) (σ ops.size).nx,0,[]⟩=.ok (V q) ⟨(σ ops.size).nx,tab (cur σ ops.size S) (σ ops.size).nx,0,[]⟩->
    Runs P o a w (λx w'=>∃ ι2,Inv P call U N ops t ι0 w0 a0 σ V ab (Add S q) ι2 (a.put o.dst x) w'):=by
   intro hs hco he;have hO2:OpR P (jy U (jW ops q)) false call o.op ⟨t,j7 ops V q⟩ ⟨(σ ops.size).nx,tab (cur σ ops.size S) (σ ops.size).nx,0,[]⟩ (V q) ⟨(σ ops.size).nx,tab (cur σ ops.size S) (σ ops.size).nx,0,[]⟩:=by
    refine⟨⟨(σ ops.size).nx,tab (cur σ ops.size S) (σ ops.size).nx,0,[]⟩,λh=>(by cases h),?_⟩;rw[hco];exact⟨he,rfl⟩
   refine(we c.hcall (wi c.ok ho).2.1 hO2 I.sim (I.opnd c ho hr hn)).mono ?_;intro x w' ⟨ι',L⟩;exact⟨ι',I.still c ho hr hn hab hs L.le L.grew L.v L.sim L.cl.u⟩
  rcases u7 (jC P o.op) with h4|h4|h4|h4
  ·obtain⟨h1,h2,h3⟩:=uV hO h4;exact done (quiet h1 h2 (h3 _))
  ·rw[Yx h4 (by simp)] at hO;obtain⟨h1,h2,ty,ad,h3,h5⟩:=wZ hO h4;refine done (quiet h1 h2 ?_);have:=I.loading c ho hr hn hx h3 h5;rw[h3];show(QO P ty (jy U (jW ops q) ad)).run _ _=_;unfold QO;dsimp only;rw[this]
  ·rw[Yx h4 (by simp)] at hO;exact done (I.making c ho hr hn hab h4 hO)
  ·exact done (I.acting c ho hr hn hab h4 hO)
theorem Inv.last (c:Ctx P call U N ops t ι0 w0 a0 σ V E ex ab)(I:Inv P call U N ops t ι0 w0 a0 σ V ab S ι a w)(hall:∀ p,p<ops.size->S p) :
  Rel ι U N ((yW U (jW ops ops.size)).run (j7 ops V ops.size) t) [] [] (σ ops.size) a w/\Cleanly ι0 ι (σ 0) (σ ops.size):=by
 obtain⟨ιc,ac,wc,r,_,hc⟩:=c.can ops.size (Qag _);have hslot:=I.slot;have e:∀ x,qf (λp=>S p/\qD ops p=some x) ops.size=qf (λp=>qD ops p=some x) ops.size:=λx=>
  yu _ λp hp=>⟨λh=>h.2,λh=>⟨hall p hp,h⟩⟩
 have hfr:∀ q,q<=ops.size->(σ q).fr=(σ 0).fr:=by
  intro q;induction q with
  |zero=>intro _;rfl
  |succ q ih=>intro hq;rw[(c.stf (Jv (by omega:q<ops.size))).fr];exact ih (by omega)
 have r2:Rel ι U N t (jW ops ops.size) (j7 ops V ops.size) (σ ops.size) a w:=by
  refine⟨?_,I.size,λx hu hi=>?_,λx i hi=>?_,r.len,by rw[hfr _ (Qag _)];exact I.ds⟩
  ·refine I.sim.same λb hb=>?_;rw[yj,if_pos (I.sim.born b hb)];unfold cur;rw[<-XA b ops.size]
   congr 1
   exact yu _ λp hp=>⟨λh=>⟨hall p hp,h⟩,λh=>h.2⟩
  ·have h1:=Zf (ops:=ops) (V:=V) x ops.size;have h2:=hslot x;rw[e x] at h2;cases hl:qf (λp=>qD ops p=some x) ops.size with
   |none=>rw[hl] at h2;exact h2 hu
   |some k=>
    rw[hl] at h1;obtain⟨i,h3,_⟩:=h1;rw[hi] at h3;cases h3
  ·have h1:=Zf (ops:=ops) (V:=V) x ops.size;have h2:=hslot x;rw[e x] at h2;cases hl:qf (λp=>qD ops p=some x) ops.size with
   |none=>rw[hl] at h1;simp only at h1;rw[h1] at hi;cases hi
   |some k=>
    rw[hl] at h1 h2;obtain⟨i',h3,h4⟩:=h1;rw[hi] at h3;cases h3;rw[h4];exact h2
 refine⟨r2.flush,hc.nx,hc.dirty,hc.keep,hc.above,λb hb hu=>?_,λb hb=>I.le.born hb,λb h1 h2=>?_⟩
 ·cases hι:ι b with
  |unborn=>rfl
  |dead|«at»=>
   rcases I.birth b (by rw[hι];simp) with h|⟨p,hp,_,h3,_⟩
   ·exact absurd hu h
   ·have:=c.nx_mono (p:=0) p (by omega) (by omega);omega
 ·have find:∀ q,q<=ops.size->b<(σ q).nx->∃ p,p<q/\(σ p).nx<=b/\b<(σ (p+1)).nx:=by
   intro q;induction q with
   |zero=>intro _ h;omega
   |succ q ih=>
    intro hq h;rcases QaR b (σ q).nx with h3|h3
    ·obtain⟨p,h4,h5⟩:=ih (by omega) h3;exact⟨p,by omega,h5⟩
    ·exact⟨q,by omega,h3,h⟩
  obtain⟨p,h3,h4,h5⟩:=find ops.size (Qag _) h2;exact I.born p h3 (hall p h3) b h4 h5
end
theorem gZ (e:Edge):Region.binds .any e=zX e:=by
 unfold Region.binds zX;cases e.ground<;>rfl
def In (listed:Array Bool)(p:Nat):Prop:=listed.getD p false=true
theorem jif {listed:Array Bool}{q:Nat}(hq:q<listed.size):In (listed.setIfInBounds q true)=Add (In listed) q:=by
 funext p
 unfold In Add;refine propext ?_;by_cases h:p=q
 ·subst h;simp[hq]
 ·rw[getD_set_ne false (λe=>h e.symm)];simp[In,h]
def left (listed:Array Bool):Nat:=(QaN listed.size).countP λp=>!listed.getD p false
theorem Ud {P:Program}{call:qd}{U N:Nat}{ops:Array Oper}{t:T AV}{ι0:Inj}{w0:World}{a0:Act}{σ:Nat->St}{V:Nat->AV}{E:Nat->TE}{ex ab:Nat->Bool}
  (c:Ctx P call U N ops t ι0 w0 a0 σ V E ex ab) {Q:Exit->Act->World->Prop}
  (hQ:∀ ι a w,Inv P call U N ops t ι0 w0 a0 σ V ab (λp=>p<ops.size) ι a w->Q .normal a w)
  (hP:∀ q S ι a w K,q<ops.size->Inv P call U N ops t ι0 w0 a0 σ V ab S ι a w->¬ S q->zh ops S q->ab q=true->wpOp P ops Q q K a w) :
  ∀ (fuel:Nat) (listed:Array Bool) (a:Act) (w:World),listed.size=ops.size->left listed<=fuel->
   (∃ ι,Inv P call U N ops t ι0 w0 a0 σ V ab (In listed) ι a w)->wpAny P .any ops Q fuel listed a w:=by
 have hready:∀ (listed:Array Bool),listed.size=ops.size->∀ j∈Region.ready .any ops listed,j<ops.size/\¬ In listed j/\zh ops (In listed) j:=by
  intro listed hs j hj;obtain⟨h0,o,ho,h1⟩:=mem_ready.1 hj;have hlt:j<ops.size:=(Qay.1 ho).1;refine⟨hlt,?_,o,ho,λe he hb=>h1 e he (by rw[gZ];exact hb)⟩;unfold In;have hls:j<listed.size:=by omega
  simp[hls] at h0 ⊢;exact h0
 have hend:∀ (listed:Array Bool),listed.size=ops.size->Region.ready .any ops listed=[]->∀ p,p<ops.size->In listed p:=by
  intro listed hs hr p;induction p using Nat.strongRecOn with
  |ind p ih=>
   intro hp;cases hin:listed.getD p false
   ·exfalso;have hmem:p∈Region.ready .any ops listed:=by
     rw[mem_ready];have ho:=Jv hp;refine⟨?_,ops[p],ho,λe he hb=>?_⟩
     ·have hls:p<listed.size:=by omega
      simp[hls] at hin ⊢;exact hin
     ·have hlt:=Y1 c.ok p _ ho e he (by rw[<-gZ];exact hb);exact ih e.on hlt (by omega)
    rw[hr] at hmem;cases hmem
   ·exact hin
 have hfin:∀ (listed:Array Bool),listed.size=ops.size->(∀ p,p<ops.size->In listed p)->∀ a w,(∃ ι,Inv P call U N ops t ι0 w0 a0 σ V ab (In listed) ι a w)->Q .normal a w:=by
  intro listed hs hall a w ⟨ι,I⟩;have:In listed=λp=>p<ops.size:=by
   funext p
   refine propext ⟨λh=>?_,hall p⟩;unfold In at h;rcases QaR p listed.size with h1|h1
   ·omega
   ·simp[Array.getElem?_eq_none h1] at h
  rw[this] at I;exact hQ ι a w I
 intro fuel;induction fuel with
 |zero=>
  intro listed a w hs hl hI;have hall:∀ p,p<ops.size->In listed p:=by
   intro p hp;unfold left at hl;have:(QaN listed.size).countP (λp=>!listed.getD p false)=0:=by omega
   rw[List.countP_eq_zero] at this;have:=this p (by simp;omega);unfold In;simpa using this
  refine⟨?_,hfin listed hs hall a w hI⟩;cases hr:Region.ready .any ops listed with
  |nil=>rfl
  |cons j l=>
   have:=hready listed hs j (by rw[hr];simp);exact absurd (hall j this.1) this.2.1
 |succ fuel ih=>
  intro listed a w hs hl hI;refine⟨λhr=>hfin listed hs (hend listed hs hr) a w hI,λj hj=>?_⟩;obtain⟨h1,h2,h3⟩:=hready listed hs j hj;obtain⟨ι,I⟩:=hI;cases hab:ab j;case true=>exact hP j _ ι a w _ h1 I h2 h3 hab
  refine I.step c (Jv h1) h3 h2 hab λι' a' w' I'=>?_;refine ih (listed.setIfInBounds j true) a' w' (by simp[hs]) ?_ ⟨ι',by rw[jif (by omega)];exact I'⟩;unfold left at hl ⊢;have hlt:(QaN (listed.setIfInBounds j true).size).countP (λp=>!(listed.setIfInBounds j true).getD p false)<(QaN listed.size).countP (λp=>!listed.getD p false):=by
   have hsz:(listed.setIfInBounds j true).size=listed.size:=by simp
   rw[hsz];have hjs:j<listed.size:=by omega
   have key:∀ n,(QaN n).countP (λp=>!(listed.setIfInBounds j true).getD p false)+(if j<n then 1 else 0)=(QaN n).countP (λp=>!listed.getD p false):=by
    intro n;induction n with
    |zero=>simp
    |succ n ihn=>
     rw[List.range_succ,List.countP_append,List.countP_append];by_cases hjn:j=n
     ·subst hjn;have e1:(listed.setIfInBounds j true).getD j false=true:=by simp[hjs]
      have e2:listed.getD j false=false:=by
       cases hg:listed.getD j false
       ·rfl
       ·exact absurd hg h2
      rw[if_neg (Qca _)] at ihn;rw[if_pos (Qbt _)];rw[QbW,QbW,e1,e2];simp only[Bool.not_true,Bool.not_false,if_true,Qba,if_false];omega
     ·rw[QbW,QbW,getD_set_ne false hjn];have:(if j<n+1 then 1 else 0)=(if j<n then 1 else 0):=by
       by_cases h:j<n
       ·rw[if_pos h,if_pos (by omega)]
       ·rw[if_neg h,if_neg (by omega)]
      rw[this];omega
   have:=key listed.size;rw[if_pos hjs] at this;omega
  omega
theorem uv {n:Nat}(p:Nat):¬ In (QaQ n false) p:=by
 unfold In;by_cases h:p<n<;>simp[h]
theorem Inv.first {P:Program}{call:qd}{U N:Nat}{ops:Array Oper}{t:T AV}{ι0:Inj}{w0:World}{a0:Act}{σ:Nat->St}{V:Nat->AV}{E:Nat->TE}{ex ab:Nat->Bool}
  (c:Ctx P call U N ops t ι0 w0 a0 σ V E ex ab):Inv P call U N ops t ι0 w0 a0 σ V ab (In (QaQ ops.size false)) ι0 a0 w0:=by
 have hr0:=c.rel0;have hnone:∀ (A:Nat->Prop) m,qf (λp=>In (QaQ ops.size false) p/\A p) m=none:=by
  intro A m;cases hl:qf (λp=>In (QaQ ops.size false) p/\A p) m with
  |none=>rfl
  |some k=>exact absurd (JP _ hl).2.1.1 (uv k)
 refine⟨hr0.size,hr0.ds,Le.refl _,Grew.refl _ _,λx=>?_,?_,λb hb=>.inl hb,λp _ h=>absurd h (uv p),λi o h=>absurd h (uv i),λp h=>absurd h (uv p)⟩
 ·rw[hnone];exact λhu=>hr0.env x hu rfl
 ·have hmono:=c.nx_mono (p:=0) ops.size (QaM _) (Qag _);have:Sim ι0 (tab (cur σ ops.size (In (QaQ ops.size false))) (σ ops.size).nx) (σ 0).nx w0:=by
   refine hr0.sim.same λb hb=>?_;have:=hr0.sim.born b hb;rw[yj,if_pos (by omega)];unfold cur;rw[hnone];rfl
  exact⟨this.obj,this.gone,this.inj,λb hb=>QaH (this.born b hb) hmono,this.glob⟩
theorem Hb (n:Nat):left (QaQ n false)<=n:=by
 unfold left;refine Qas List.countP_le_length ?_;simp
theorem Inv.panics {P:Program}{call:qd}{U N:Nat}{ops:Array Oper}{t:T AV}{ι0:Inj}{w0:World}{a0:Act}{σ:Nat->St}{V:Nat->AV}{E:Nat->TE}{ex ab:Nat->Bool}
  {S:Nat->Prop} {ι:Inj} {a:Act} {w:World}
  (c:Ctx P call U N ops t ι0 w0 a0 σ V E ex ab) (I:Inv P call U N ops t ι0 w0 a0 σ V ab S ι a w) {q:Nat} {o:Oper} (ho:ops[q]? = some o) (hr:zh ops S q) (hn:¬ S q) (hexq:ex q=false)
  (hout:∀ p,p<ops.size->ab p=false->gF U ops p=true)
  (hahead:∀ p,p<q->∀ u,ops[p]? = some u->(JB (jC P u.op) ||acts (jC P u.op))=true->inU ((qx ops.toList).getD q 0) p=true)
  (hwant:match qG (jy U (jW ops q)) ops o with|none=>True|some wf=>wf.run ⟨t,j7 ops V q⟩=some true)
  {v:AV} {st':St} (hO:OpP (jy U (jW ops q)) call o.op ⟨t,j7 ops V q⟩ (σ q) v st') {K:Act->World->Prop} {Q:Exit->Act->World->Prop}
  (hQ:Post ι0 U N w0 (σ 0) (.pn v t st') Q):wpOp P ops Q q K a w:=by
 have hq:q<ops.size:=(Qay.1 ho).1;obtain⟨f,args,fid,caps,st1,hco,hfv,he,rfl⟩:=hO;have hcl:=zW (P:=P) hco;have hact:acts (jC P o.op)=true:=by rw[hcl];rfl
 have hcur:∀ b,b<(σ q).nx->ι b≠.unborn->jh (σ q).h b=cur σ ops.size S b:=λb hb hub=>by
  unfold cur;rw[<-XA b q,<-Xx ops.size (Nat.le_of_lt hq)]
  congr 1
  refine yu _ λp hp=>and_congr_left λhc=>?_;exact⟨λh=>I.ahead c ho hr hn hact hub h hc,λh=>I.low c ho hr hn (.inr hact) hp (by have:=(c.stf ho).nx;omega) h hc⟩
 have hsim:=I.seen c ho hr hn (.inr hact) hcur;have hx:=I.hidden c ho hr hn;have hw:Region.wanted o (yielded ops a.tmps)=true:=by
  have:match qG (jy U (jW ops q)) ops o with|none=>true=true|some wf=>wf.run ⟨t,j7 ops V q⟩=some true:=by
   split at hwant
   ·rfl
   ·exact hwant
  exact I.want c ho hr hn this
 unfold wpOp;simp only[ho];rw[hw];simp only[if_true];left;have hcs:∃ c,o.op=.call c/\c.callee=.value f/\args=c.args.toList:=by
  unfold j5 at hco;split at hco
  ·rename_i c hoc;split at hco
   ·rename_i f' hf';cases hco;exact⟨c,hoc,hf',rfl⟩
   ·cases hco
  ·cases hco
 obtain⟨cl,hoc,hcf,rfl⟩:=hcs;rw[hoc] at hx;have hvf:=hx f (by simp[Op.operands,Call.operands,hcf]);rw[hfv] at hvf;simp only[VR] at hvf;obtain⟨cv,hcv,hcaps⟩:=hvf;simp only[yn,ya] at he;have hargs:VRs (hide ι (σ q).nx) (cl.args.toList.map (λx=>(jy U (jW ops q) x).run ⟨t,j7 ops V q⟩) ++ caps) ((cl.args.map a.eval) ++ cv).toList:=by
  rw[Qcc,QbC];exact(VRs.map_of _ λx hxm=>hx x (by simp[Op.operands,Call.operands];right;simpa using hxm)).append hcaps
 have hC:=c.hcall fid _ (σ q) (hide ι (σ q).nx) w ((cl.args.map a.eval) ++ cv) hsim hargs;rw[he] at hC;obtain⟨hen,hcs⟩:=hC;unfold Oper.wp;rw[wB hoc hcf hcv hen];simp only[Oper.upon];refine Calls.mono hcs λe w' he=>?_;obtain⟨x,rfl,ι',hl,hv,hs,hg,hcl'⟩:=he;obtain⟨ιc,ac,wc,r,_,hcc⟩:=c.can q (by omega);have hle0:Le ι0 (hide ι (σ q).nx):=⟨λb hb=>by
  have h1:=c.born0 hb;have h2:=c.nx_mono (p:=0) q (QaM _) (by omega);unfold hide;dsimp only;rw[if_pos (by omega)];exact I.le.1 b hb,I.le.2⟩
 have hgrew:Grew ι0 w0 ι' w':=by
  refine⟨hg.os.trans I.grew.os,hg.tape.trans I.grew.tape,hg.output.trans I.grew.output,Qas I.grew.size hg.size,λk hk hno=>?_,λb B T hb=>?_,λB vs hB=>?_⟩
  ·rw[hg.keep k (QaH hk I.grew.size) λb T hb=>?_]
   ·exact I.grew.keep k hk hno
   ·rcases I.grew.new b k T (yM hb).1 with ⟨d,T',h3⟩|h3
    ·exact hno d T' h3
    ·omega
  ·rcases hg.new b B T hb with ⟨d,T',h3⟩|h3
   ·exact I.grew.new d B T' (yM h3).1
   ·exact .inr (Qas I.grew.size h3)
  ·rcases hg.gl B vs hB with h3|⟨h3,h4⟩
   ·rcases I.grew.gl B vs h3 with h5|⟨h5,h6⟩
    ·exact .inl h5
    ·have h7:Froz (hide ι (σ q).nx) w B vs:=⟨h5.1,λb S e=>h5.2 b S (yM e).1⟩;exact .inr ⟨h7.grew hg,h6⟩
   ·refine .inr ⟨h3,?_⟩;rcases h4 with ⟨d,T,h4⟩|h4
    ·exact I.grew.new d B T (yM h4).1
    ·exact .inr (Qas I.grew.size h4)
 have hbornq:∀ b,(σ 0).nx<=b->b<(σ q).nx->ι b≠.unborn:=by
  intro b h1 h2;have find:∀ k,k<=q->b<(σ k).nx->∃ p,p<k/\(σ p).nx<=b/\b<(σ (p+1)).nx:=by
   intro k;induction k with
   |zero=>intro _ h;omega
   |succ k ih=>
    intro hk h;rcases QaR b (σ k).nx with h3|h3
    ·obtain⟨p,h4,h5⟩:=ih (by omega) h3;exact⟨p,by omega,h5⟩
    ·exact⟨k,by omega,h3,h⟩
  obtain⟨p,h3,h4,h5⟩:=find q (Qag _) h2;have hu:=Jv (show p<ops.size by omega);have hma:(JB (jC P (ops[p]).op) ||acts (jC P (ops[p]).op))=true:=by
   cases hm:JB (jC P (ops[p]).op)
   ·cases ha:acts (jC P (ops[p]).op)
    ·have:=(c.stf hu).same hm ha;rw[this] at h5;omega
    ·rfl
   ·rfl
  have hbit:=hahead p h3 _ hu hma;have hS:S p:=ZU (Y1 c.ok) I.closed p (q+1) q (by omega) hr hbit;exact I.born p (by omega) hS b h4 h5
 have hnxq:=c.nx_mono (p:=0) q (QaM _) (by omega);have hclean:Cleanly ι0 ι' (σ 0) (back (σ q) st1):=by
  have hmid:Cleanly ι0 (hide ι (σ q).nx) (σ 0) (σ q):=by
   refine⟨hcc.nx,hcc.dirty,hcc.keep,hcc.above,λb hb hu=>?_,λb hb=>?_,λb h1 h2=>?_⟩
   ·unfold hide;dsimp only;split
    ·cases hι:ι b with
     |unborn=>rfl
     |dead|«at»=>
      rcases I.birth b (by rw[hι];simp) with h|⟨p,hp,_,h3,_⟩
      ·exact absurd hu h
      ·have:=c.nx_mono (p:=0) p (by omega) (by omega);omega
    ·rfl
   ·exact hle0.born hb
   ·unfold hide;dsimp only;rw[if_pos h2];exact hbornq b h1 h2
  have:=hmid.trans hcl';exact⟨this.nx,this.dirty,this.keep,this.above,this.u,this.le,this.n⟩
 refine hQ ι' a w' x (hle0.trans hl) ?_ hgrew hclean hv;have hfr:(back (σ q) st1).fr=(σ 0).fr:=by
  have key:∀ k,k<=ops.size->(σ k).fr=(σ 0).fr:=by
   intro k;induction k with
   |zero=>intro _;rfl
   |succ k ih=>intro hk;rw[(c.stf (Jv (by omega:k<ops.size))).fr];exact ih (by omega)
  exact key q (by omega)
 refine⟨hs,I.size,λy hy _=>?_,λy i hi=>(by simp[idx] at hi),rfl,?_⟩
 ·have hsl:=I.slot y;have:qf (λp=>S p/\qD ops p=some y) ops.size=none:=by
   cases hl':qf (λp=>S p/\qD ops p=some y) ops.size with
   |none=>rfl
   |some k=>
    exfalso;obtain⟨h1,⟨h2,h3⟩,_⟩:=JP _ hl';have h4:=hout k h1 (I.live k h2);have hu:=Jv h1;unfold gF at h4;rw[hu] at h4;have h5:(ops[k]).dst=some y:=by simpa[qD,hu] using h3
    simp only[h5] at h4;rw[hy] at h4;cases h4
  rw[this] at hsl;have h6:=hsl hy;have h7:VR ι0 (yH t y) (a0.tmps.getD y undef):=c.rel0.env y hy rfl;have h8:VR (hide ι (σ q).nx) (yH t y) (a.tmps.getD y undef):=VR.hide (λb hb=>QaH (c.born0 hb) hnxq) _ _ _ h7 h6;exact VR.mono hl _ _ h8
 ·rw[hfr];exact DRs.mono hl _ _ (DRs.hide (λb hb=>QaH (c.born0 hb) hnxq) _ _ _ c.rel0.ds I.ds)
theorem Hp {P:Program}(hm:P.follows .mixedOrders=true):QY P:=by
 intro call hcall n U N ops hok hdst ι t st a w Q id r hp;have hne:(X8 P U ops).run call n t [] [] st≠.no:=by
  intro h;rw[h] at hp;exact hp
 unfold X8 at hne hp;rw[List.range_eq_range'] at hne hp;have htr:=wP (P:=P) (call:=call) (n:=n) (U:=U) (ops:=ops) (t:=t) (J0 U) (Qo P U ops) (λ_=>false) ops.size 0 (by omega) (λ_=>.bad) (λ_=>.none) st hne;have hr0:∀ s:St,s=st->Rel ι U N t [] [] s a { w with drawn:=w.drawn+1 }:=λs hs=>by
  rw[hs];exact⟨r.sim.drew,r.size,r.env,r.recs,r.len,r.ds⟩
 obtain⟨σ,V,E,ex,m,_,_,h3,_,h4,h5⟩:=htr;have e0:(qO P U ops (J0 U) (Qo P U ops) (λ_=>false) (QaD 0 ops.size) (j8 0) (jW ops 0)).run call n t (j7 ops (λ_=>.bad) 0) (yZ (λ_=>.none) 0) st
   = (qO P U ops (J0 U) (Qo P U ops) (λ_=>false) (QaD 0 ops.size) [] []).run call n t [] [] st:=rfl
 rw[e0] at h5;rcases h5 with ⟨rfl,h5⟩|⟨hmlt,o,v,st',ho,_,hwant,hO,h5⟩
 ·rw[h5] at hp;have c:Ctx P call U N ops t ι { w with drawn:=w.drawn+1 } a σ V E ex (λ_=>false):=⟨hcall,hok,hdst,λi hi=>h4 i (QaM _) hi,hr0 _ h3⟩;refine wp_region_any hm (Ud c ?_ ?_ ops.size _ a _ (by simp) (Hb _) ⟨ι,Inv.first c⟩)
  ·intro ι' a' w' I;obtain⟨hr,hc⟩:=I.last c λp hp=>hp;rw[h3] at hc;exact hp ι' a' w' I.le hr ((Grew.drew ι w).trans I.grew) hc
  ·intro q S ι' a' w' K _ _ _ _ h;cases h
 ·
  rw[h5] at hp;unfold Qo at hp;generalize hpo:kH P U ops m=po at hp;cases po
  ·exact hp.elim
  simp only[cond_true] at hp;have e1:QaS ops.size m=ops.size - m:=rfl;rw[e1] at hp;generalize hrr:(qO P U ops (J0 U) (λ_ _ _ _ _=>XP) (zy ops m) (QaD m (ops.size - m)) (j8 m) (jW ops m)).run call n t (j7 ops V m) (yZ E m) (σ m)=rr at hp;have hgo:∃ t2 s2,rr=.go t2 s2:=by
   cases rr<;>first|exact⟨_,_,rfl⟩|exact hp.elim
  obtain⟨t2,s2,rfl⟩:=hgo;simp only at hp;have htr2:=wP (P:=P) (call:=call) (n:=n) (U:=U) (ops:=ops) (t:=t) (J0 U) (λ_ _ _ _ _=>XP) (zy ops m) (ops.size - m) m (by omega) V E (σ m) (by rw[hrr];simp);rw[hrr] at htr2;obtain⟨σ2,V2,E2,ex2,m2,g1,g2,g3,g4,g5,g6⟩:=htr2;have hm2:m2=ops.size:=by
   rcases g6 with ⟨h,_⟩|⟨_,o2,v2,s3,_,_,_,_,h⟩
   ·exact h
   ·cases h
  subst hm2;have habs:zy ops m m=true:=by
   unfold zy;have:Qap m m=true:=by rw[qh]
   rw[this];rfl
  have hlow:∀ k,k<m->zy ops m k=false:=by
   intro k hk;unfold zy;rw[QbL];refine⟨?_,?_⟩
   ·cases hb:Qap k m
    ·rfl
    ·rw[qh] at hb;omega
   ·cases hb:inU ((qx ops.toList).getD k 0) m
    ·rfl
    ·have:=gX hok (Jv (show k<ops.size by omega)) hb;omega
  have c:Ctx P call U N ops t ι { w with drawn:=w.drawn+1 } a (λi=>if i<=m then σ i else σ2 i) V2 E2 (λi=>if i<m then ex i else ex2 i) (zy ops m):=by
   refine⟨hcall,hok,hdst,λi hi=>?_,?_⟩
   ·by_cases him:i<m
    ·obtain⟨o1,k1⟩:=h4 i (QaM _) him;refine⟨o1,?_⟩;rw[hlow i him];simp only[if_pos him,if_pos (Nat.le_of_lt him),if_pos (show i+1<=m from him)];rw[JM i λj hj=>g1 j (by omega),XT i λj hj=>g2 j (by omega),g1 i him,g2 i him];exact k1
    ·obtain⟨o1,k1⟩:=g5 i (by omega) hi;refine⟨o1,?_⟩;simp only[if_neg him,if_neg (show ¬ i+1<=m by omega)];have:(if i<=m then σ i else σ2 i)=σ2 i:=by
      by_cases h:i<=m
      ·have:i=m:=by omega
       rw[if_pos h,this,g3]
      ·rw[if_neg h]
     rw[this];exact k1
   ·have:(if 0<=m then σ 0 else σ2 0)=st:=by rw[if_pos (QaM _),h3]
    exact hr0 _ this
  have hV:∀ j,j<m->V2 j=V j:=g1;refine wp_region_any hm (Ud c ?_ ?_ ops.size _ a _ (by simp) (Hb _) ⟨ι,Inv.first c⟩)
  ·intro ι' a' w' I;have:=I.live m hmlt;rw[habs] at this;cases this
  ·intro q S ι' a' w' K hq I hn hr habq;have hqm:q=m:=by
    unfold zy at habq;rw[Qbi] at habq;rcases habq with h|h
    ·rw[qh] at h;exact h
    ·exfalso;have hS:S m:=ZU (Y1 hok) I.closed m (q+1) q (by omega) hr h;have:=I.live m hS;rw[habs] at this;cases this
   subst hqm;unfold kH at hpo;rw[Qaz,QaG,QaG] at hpo;obtain⟨hpo1,hpo2⟩:=hpo;have hex:(if q<q then ex q else ex2 q)=false:=by
    rw[if_neg (Qca _)];obtain⟨o1,k1⟩:=g5 q (Qag _) hmlt;exact k1.out habs
   refine I.panics c ho hr hn (by simpa using hex) (λp hp1 hp2=>?_) (λp hp1 u hu hma=>?_) ?_ (v:=v) (st':=st') ?_ ?_
   ·have:=hpo1 p (by simp;exact hp1);rw[hp2] at this;simpa using this
   ·have:=hpo2 p (by simp;exact hp1);rw[hu] at this;simp only[Qbi,Qbh] at this;rcases this with h|h
    ·exact h
    ·rw[hma] at h;cases h
   ·rw[JM q hV];exact hwant
   ·rw[JM q hV];simp only[Qag,if_true];exact hO
   ·have e2:(if 0<=q then σ 0 else σ2 0)=st:=by rw[if_pos (QaM _),h3]
    show Post ι U N _ (if 0<=q then σ 0 else σ2 0) _ Q;rw[e2];exact Post.step (Le.refl ι) (Grew.drew ι w) (Cleanly.refl ι st) hp
end Go.Ev
end
noncomputable section
namespace Go.Ev
open Go.ChangeShapes Go.WideShapes Go.ChangeAt Go.RowKit
theorem jea {W W':World}(h1:W'.os=W.os)(h2:W'.output=W.output)(h3:∀ k,k<W.heap.size->W'.heap[k]? = W.heap[k]?)(may:MemPlace->Prop):W.keptBut W' may:=by
 refine⟨h1,h2,λi hi=>?_⟩;rw[h3 i hi];cases h:W.heap[i]? with
 |none=>rfl
 |some o=>
  cases o<;>first|exact⟨rfl,rfl,rfl,λ_ _=>rfl⟩|exact .inr ⟨rfl,rfl⟩|rfl
theorem jah {W W':World}(h3:∀ k,k<W.heap.size->W'.heap[k]? = W.heap[k]?){a:Addr}(ha:a.block<W.heap.size):W'.frozen? a=W.frozen? a:=by
 unfold World.frozen?;rw[h3 a.block ha]
theorem post_kept {H:Type}{enc:TypeId×Value->H}{P:Program}{f:Func}{s:ChangeSpec}{apart fresh handsOn again:Bool}{W W':World}{args:Array Value}{v:Value}{ds gs:List (DataW H)}{before pa pv:List MemPlace}
  (hW:DataW.Whole enc P f.params.toList s.vars apart W args.toList ds gs before)
  (hres:∀ (b:Nat) (sp:Nat->Bool) (hd:Bool),DataW.TrodAll enc P W' b sp hd f.resultTypes.toList (v.resultList f.resultTypes.size) (s.fn H (ds ++ gs)).results [])
  (hargs:∀ sp:Nat->Bool,(∀ p∈before,sp p.block=true)->DataW.TrodAll enc P W' 0 sp true f.params.toList args.toList (s.fn H (ds ++ gs)).args pa)
  (hvars:∀ sp:Nat->Bool,(∀ p∈before,sp p.block=true)->DataW.TrodVars enc P W' sp s.vars (s.fn H (ds ++ gs)).vars pv)
  (hps:before=pa ++ pv) (hos:W'.os=W.os) (hout:W'.output=W.output) (hk:∀ k,k<W.heap.size->W'.heap[k]? = W.heap[k]?)
  (hok:∀ (j:Nat) (t:TypeId) (r:Value),f.resultTypes[j]? = some t->(v.resultList f.resultTypes.size)[j]? = some r->Value.okWide P W' .any 0 t r) :
  s.post enc P f apart fresh handsOn again W args v W':=by
 have hlt:∀ p∈before,p.block<W.heap.size:=λp hp=>hW.lt p hp;have hold:∀ p∈before,(λb=>decide (b<W.heap.size)) p.block=true:=λp hp=>by simpa using hlt p hp
 refine⟨ds,gs,before,[],pa,pv,hW,hres _ _ _,hargs _ hold,hvars _ hold,jea hos hout hk _,λ_=>?_⟩;obtain⟨_,_,_,_,_,hz,hn⟩:=hW;refine⟨hok,_,_,([] ++ pa) ++ pv,⟨[] ++ pa,pv,trodAll_append (hargs _ (λ_ _=>rfl)) (hres _ _ _),hvars _ (λ_ _=>rfl),rfl,?_,?_⟩,?_⟩
 ·intro b off hp;have hp':MemPlace.cell b off∈before:=by rw[hps];simpa using hp
  rw[jah hk (hlt _ hp')];exact hz b off hp'
 ·intro ha;have:=hn ha;rw[hps] at this;simpa using this
 ·intro p hp _;rw[hps];simpa using hp
end Go.Ev
end
noncomputable section
namespace Go.Ev
open Go.RowKit
section
def fzs (f:AV->Option (AV×List Nat)):List AV->Option (List AV×List Nat)
 |[]=>some ([],[])
 |x :: l=>match f x,fzs f l with
  |some (y,ks),some (l',js)=>some (y :: l',ks ++ js)
  |_,_=>none
def fz:Nat->T AO->AV->Option (AV×List Nat)
 |0,_,_=>none
 |d+1,h,v=>match v with
  |.agg cs=>(fzs (fz d h) cs).map λp=>(.agg p.1,p.2)
  |.tup cs=>(fzs (fz d h) cs).map λp=>(.tup p.1,p.2)
  |.iface t x=>(fz d h x).map λp=>(.iface t p.1,p.2)
  |.slice b o len _ sz _=>match jh h b with
   |some (.row n zl z cs)=>cond (Qak (Qaw o (Qar len sz)) n) ((fzs (fz d h) (jF zl z cs (Qar len sz) o)).map λp=>(.lst len p.1,b :: p.2)) none
   |_=>none
  |.nils=>some (.lst 0 [],[])
  |.xlst n cs=>some (.lst n cs,[])
  |.fn f caps=>(fzs (fz d h) caps).map λp=>(.fn f p.1,p.2)
  |.ptr _ _=>none
  |.map _=>none
  |.bad=>none
  |v=>some (v,[])
def qv (ks:List Nat)(st:St):St:=
 ⟨st.nx,ks.foldr (λb h=>(jT (jv b)).run .dead h) st.h,ks.foldr min st.dirty,st.fr⟩
theorem Y6 (ks:List Nat)(h:T AO)(c:Nat):jh (ks.foldr (λb h=>(jT (jv b)).run .dead h) h) c=if c∈ks then some .dead else jh h c:=by
 induction ks with
 |nil=>simp
 |cons b ks ih=>
  rw[Qcf,jS];by_cases hb:c=b
  ·subst hb;simp
  ·rw[if_neg hb,ih];simp[hb]
theorem Gr (ks:List Nat)(n c:Nat)(h:c<ks.foldr min n):c<n/\c∉ks:=by
 induction ks with
 |nil=>exact⟨h,by simp⟩
 |cons b ks ih=>
  rw[Qcf] at h;obtain⟨h1,h2⟩:=ih (by omega);exact⟨h1,by simp only[Qbp,not_or];exact⟨by omega,h2⟩⟩
theorem jd9 (ks:List Nat)(n:Nat):ks.foldr min n<=n:=by
 induction ks with
 |nil=>exact Qag _
 |cons b ks ih=>rw[Qcf];omega
def QU (w:World)(B:Nat):Option (List Value):=match w.heap[B]? with|some (.cells c _ _)=>some c.toList|_=>none
theorem Xy {w:World}{ι ι':Inj}{f:AV->Option (AV×List Nat)}(hf:∀ v x v' ks,VR ι v x->f v=some (v',ks)->(∀ b∈ks,∀ B S,ι b=.at B S->ι'.g B=QU w B)->VR ι'.gone v' x/\(v.cell=true->v'.cell=true)) :
  ∀ (l:List AV) (vs:List Value) (l':List AV) (ks:List Nat),VRs ι l vs->fzs f l=some (l',ks)->(∀ b∈ks,∀ B S,ι b=.at B S->ι'.g B=QU w B)->VRs ι'.gone l' vs/\(l.all AV.cell=true->l'.all AV.cell=true)/\l'.length=l.length
 |[],vs,l',ks,hv,he,_=>by
  simp only[fzs,Option.some.injEq,Prod.mk.injEq] at he;obtain⟨rfl,rfl⟩:=he;exact⟨hv,λh=>h,rfl⟩
 |x :: l,vs,l',ks,hv,he,hg=>by
  simp only[VRs] at hv;obtain⟨v,vs,rfl,h1,h2⟩:=hv;simp only[fzs] at he;split at he<;>try(cases he;done)
  rename_i y k1 l1 k2 e1 e2;simp only[Option.some.injEq,Prod.mk.injEq] at he;obtain⟨rfl,rfl⟩:=he;obtain⟨q1,q2⟩:=hf x v y k1 h1 e1 λb hb=>hg b (List.mem_append_left _ hb);obtain⟨q3,q4,q5⟩:=Xy hf l vs l1 k2 h2 e2 λb hb=>hg b (List.mem_append_right _ hb);refine⟨by simp only[VRs];exact⟨v,vs,rfl,q1,q3⟩,λhc=>?_,by simp[q5]⟩;simp only[QaZ,Qaz] at hc ⊢;exact⟨q2 hc.1,q4 hc.2⟩
theorem qU {α β:Type}{x:Option α}{f:α->β}{b:β}(h:x.map f=some b):∃ a,x=some a/\f a=b:=by
 cases x with
 |none=>cases h
 |some a=>cases h;exact⟨a,rfl,rfl⟩
theorem UX {w:World}{B:Nat}{c:Array Value}{e:TypeId}{f:Nat×Nat}(h:w.heap[B]? = some (.cells c e f)):QU w B=some c.toList:=by
 unfold QU;rw[h]
theorem ZH {ι:Inj}{h:T AO}{nx:Nat}{w:World}(k:Sim ι h nx w){b n zl:Nat}{z:List AV}{cs:T AV}{o m:Nat}(hb:ι b≠.unborn)(hrow:jh h b=some (.row n zl z cs))(hle:o+m<=n) :
  ∃ B S c e f,ι b=.at B S/\w.heap[B]? = some (.cells c e f)/\o+m<=c.size/\VRs ι (jF zl z cs m o) ((c.toList.drop o).take m):=by
 obtain⟨B,S,c,elem,lo,hi,e1,hw,hcs,hnS,_,hcell⟩:=k.row hb hrow;refine⟨B,S,c,elem,_,e1,hw,by omega,VRs.of_get ?_ λi hi=>?_⟩
 ·rw[qc];simp only[QaO,QaA,Qau,QaU,List.length_range];omega
 ·rw[qc] at hi ⊢;simp only[QaU,List.length_range] at hi;obtain⟨_,v,hv,hr⟩:=hcell (o+i) (by omega);have e2:(List.map (λj=>qa zl z cs (o+j)) (QaN m)).getD i .bad=qa zl z cs (o+i):=by
   simp only[QaI,Qby,List.getElem?_range hi,QaK,QaX]
  have e3:((c.toList.drop o).take m).getD i undef=v:=by
   rw[wd hi (by rw[Qau];omega)];rw[QaI,QbK,hv];rfl
  rw[e2,e3];exact hr
theorem Y8 {h:T AO}{nx:Nat}{w:World}{ι ι':Inj}(k:Sim ι h nx w)(hg:∀ B vs,ι.g B=some vs->ι'.g B=some vs):∀ (d:Nat) (v:AV) (x:Value) (v':AV) (ks:List Nat),VR ι v x->fz d h v=some (v',ks)->
  (∀ b∈ks,∀ B S,ι b=.at B S->ι'.g B=QU w B)->VR ι'.gone v' x/\(v.cell=true->v'.cell=true)
 |0,v,x,v',ks,_,he,_=>by cases he
 |d+1,v,x,v',ks,hv,he,hc=>by
  have ih:=Y8 k hg d;cases v<;>simp only[fz] at he;case ptr=>cases he
  case map=>cases he
  case bad=>cases he
  case bool=>cases he;exact⟨hv,λh=>h⟩
  case int=>cases he;exact⟨hv,λh=>h⟩
  case str=>cases he;exact⟨hv,λh=>h⟩
  case zstr=>cases he;exact⟨hv,λh=>h⟩
  case nilp=>cases he;exact⟨hv,λh=>h⟩
  case nilm=>cases he;exact⟨hv,λh=>h⟩
  case nilf=>cases he;exact⟨hv,λh=>h⟩
  case nilif=>cases he;exact⟨hv,λh=>h⟩
  case nils=>
   cases he;simp only[VR] at hv ⊢;subst hv;exact⟨⟨none,0,rfl,Qag _,rfl,λh=>absurd h (Qca _)⟩,λ_=>rfl⟩
  case lst n cs=>cases he;exact⟨VR.gmono hg (.lst n cs) x hv,λh=>h⟩
  case lptr cs o=>cases he;exact⟨VR.gmono hg (.lptr cs o) x hv,λh=>h⟩
  case xlst n cs=>
   cases he;have:=VR.gmono hg (.xlst n cs) x hv;simp only[VR] at this ⊢;obtain⟨p,rfl,h1,h2⟩:=this;exact⟨⟨p,n,rfl,Qag _,h1,h2⟩,λ_=>rfl⟩
  case agg cs=>
   obtain⟨⟨l,js⟩,h1,h2⟩:=qU he;cases h2;simp only[VR] at hv ⊢;obtain⟨a,rfl,hv⟩:=hv;exact⟨⟨a,rfl,(Xy ih cs _ l js hv h1 hc).1⟩,λh=>by cases h⟩
  case tup cs=>
   obtain⟨⟨l,js⟩,h1,h2⟩:=qU he;cases h2;simp only[VR] at hv ⊢;obtain⟨a,rfl,hv⟩:=hv;exact⟨⟨a,rfl,(Xy ih cs _ l js hv h1 hc).1⟩,λh=>by cases h⟩
  case fn f caps=>
   obtain⟨⟨l,js⟩,h1,h2⟩:=qU he;cases h2;simp only[VR] at hv ⊢;obtain⟨a,rfl,hv⟩:=hv;exact⟨⟨a,rfl,(Xy ih caps _ l js hv h1 hc).1⟩,λ_=>rfl⟩
  case iface t y=>
   obtain⟨⟨l,js⟩,h1,h2⟩:=qU he;cases h2;simp only[VR] at hv ⊢;obtain⟨u,rfl,hv⟩:=hv;exact⟨⟨u,rfl,(ih y u l js hv h1 hc).1⟩,λ_=>rfl⟩
  case slice b o len cap sz ex=>
   split at he<;>try(cases he;done)
   rename_i n zl z cs hrow;cases hle:Qak (Qaw o (Qar len sz)) n
   ·rw[hle] at he;cases he
   rw[hle] at he;simp only[cond] at he;rw[jY] at hle;have hle':o+len * sz<=n:=hle;obtain⟨⟨l,js⟩,h1,h2⟩:=qU he;cases h2;simp only[VR] at hv;obtain⟨hb,hlc,a,C,rfl,hC,_,ha⟩:=hv;obtain⟨B,S,c,e,f,e1,hw,hsz,hcells⟩:=ZH k hb hrow hle';have hB:=hc b (by simp) B S e1;rw[UX hw] at hB;have hall:(jF zl z cs (Qar len sz) o).all AV.cell=true:=(Jj (st:=⟨nx,h,0,[]⟩) k hb hrow hle).1;obtain⟨q1,q2,q3⟩:=Xy ih (jF zl z cs (Qar len sz) o) _ l js hcells h1 λb' hb'=>hc b' (QbM _ hb');have hll:l.length=len * sz:=by
    rw[q3,qc];simp
   refine⟨?_,λ_=>rfl⟩;simp only[VR];refine⟨some a,C,rfl,by omega,q2 hall,λh0=>⟨B,o,c.toList,?_,hB,by rw[hll,Qau];omega,by rw[hll];exact q1⟩⟩;rcases (ha B S e1).1 with h4|h4
   ·omega
   ·rw[h4]
theorem vn {h:T AO}{f:AV->Option (AV×List Nat)}{p:Nat->Prop}(hf:∀ v v' ks,f v=some (v',ks)->∀ b∈ks,p b):∀ (l l':List AV) (ks:List Nat),fzs f l=some (l',ks)->∀ b∈ks,p b
 |[],l',ks,he,b,hb=>by
  simp only[fzs,Option.some.injEq,Prod.mk.injEq] at he;obtain⟨rfl,rfl⟩:=he;cases hb
 |x :: l,l',ks,he,b,hb=>by
  simp only[fzs] at he;split at he<;>try(cases he;done)
  rename_i y k1 l1 k2 e1 e2;simp only[Option.some.injEq,Prod.mk.injEq] at he;obtain⟨rfl,rfl⟩:=he;rcases Qbj.1 hb with hb|hb
  ·exact hf x y k1 e1 b hb
  ·exact vn (h:=h) hf l l1 k2 e2 b hb
theorem jft {h:T AO}:∀ (d:Nat) (v v':AV) (ks:List Nat),fz d h v=some (v',ks)->∀ b∈ks,∃ n zl z cs,jh h b=some (.row n zl z cs)
 |0,v,v',ks,he,_,_=>by cases he
 |d+1,v,v',ks,he,b,hb=>by
  have ih:=jft (h:=h) d;cases v<;>simp only[fz] at he<;>first|(cases he;cases hb;done)|(cases he;done)|skip
  case agg cs=>obtain⟨⟨l,js⟩,h1,h2⟩:=qU he;cases h2;exact vn (h:=h) ih _ _ _ h1 b hb
  case tup cs=>obtain⟨⟨l,js⟩,h1,h2⟩:=qU he;cases h2;exact vn (h:=h) ih _ _ _ h1 b hb
  case fn f cs=>obtain⟨⟨l,js⟩,h1,h2⟩:=qU he;cases h2;exact vn (h:=h) ih _ _ _ h1 b hb
  case iface t x=>obtain⟨⟨l,js⟩,h1,h2⟩:=qU he;cases h2;exact ih _ _ _ h1 b hb
  case slice b' o len cap sz ex=>
   split at he<;>try(cases he;done)
   rename_i n zl z cs hrow;cases hle:Qak (Qaw o (Qar len sz)) n
   ·rw[hle] at he;cases he
   rw[hle] at he;simp only[cond] at he;obtain⟨⟨l,js⟩,h1,h2⟩:=qU he;cases h2;rcases Qbp.1 hb with hb|hb
   ·subst hb;exact⟨n,zl,z,cs,hrow⟩
   ·exact vn (h:=h) ih _ _ _ h1 b hb
open Classical in
def Inj.ice (ι:Inj)(p:Nat->Prop)(w:World):Nat->Option (List Value):=λB=>match ι.g B with
 |some vs=>some vs
 |none=>if ∃ b S,p b/\ι b=.at B S then QU w B else none
theorem Qu {ι:Inj}{p:Nat->Prop}{w:World}{B:Nat}{vs:List Value}(h:ι.g B=some vs):ι.ice p w B=some vs:=by
 unfold Inj.ice;rw[h]
theorem Yq {ι:Inj}{p:Nat->Prop}{w:World}{b B S:Nat}(hgl:Gl ι w)(hb:p b)(e:ι b=.at B S):ι.ice p w B=QU w B:=by
 unfold Inj.ice;cases hg:ι.g B with
 |some vs=>exact absurd e ((hgl.2 B vs hg).2 b S)
 |none=>exact if_pos ⟨b,S,hb,e⟩
theorem JC {ι:Inj}{p:Nat->Prop}{w:World}{B:Nat}{vs:List Value}(h:ι.ice p w B=some vs):ι.g B=some vs\/∃ b S,p b/\ι b=.at B S/\QU w B=some vs:=by
 unfold Inj.ice at h;cases hg:ι.g B with
 |some us=>rw[hg] at h;exact .inl h
 |none=>
  rw[hg] at h;dsimp only at h;split at h
  ·rename_i hh;obtain⟨b,S,h1,h2⟩:=hh;exact .inr ⟨b,S,h1,h2,h⟩
  ·cases h
theorem wE {ι:Inj}{h:T AO}{nx:Nat}{w:World}(k:Sim ι h nx w){b B S:Nat}{vs:List Value}(e:ι b=.at B S)(hc:QU w B=some vs) :
  ∃ c elem lo hi,w.heap[B]? = some (.cells c elem (lo,hi))/\c.toList=vs/\True:=by
 obtain⟨o,x,_,hx,hr⟩:=k.obj b B S e;unfold QU at hc;rw[hx] at hc;cases o with
 |row n zl z cs=>
  simp only[OR] at hr;obtain⟨c,elem,lo,hi,rfl,h1,h2,h3,_⟩:=hr;simp only[Option.some.injEq] at hc;exact⟨c,elem,lo,hi,hx,hc,trivial⟩
 |map es=>simp only[OR] at hr;obtain⟨_,_,rfl,_⟩:=hr;cases hc
 |iter s pos=>simp only[OR] at hr;obtain⟨_,rfl,_⟩:=hr;cases hc
 |dead=>exact hr.elim
def Inj.killed (ι:Inj)(ks:List Nat)(w:World):Inj:=⟨λc=>if c∈ks then .dead else ι c,ι.ice (·∈ks) w⟩
theorem JA {ι:Inj}{ks:List Nat}{w:World}{c B S:Nat}(h:(ι.killed ks w) c=.at B S):ι c=.at B S/\c∉ks:=by
 simp only[Inj.killed] at h;split at h
 ·cases h
 ·exact⟨h,by assumption⟩
theorem jcs {ι:Inj}{w:World}{st:St}(k:Sim ι st.h st.nx w){ks:List Nat}(hks:∀ b∈ks,ι b≠.unborn->∃ B S,ι b=.at B S)(hb0:∀ b∈ks,ι b≠.unborn) :
  Le ι (ι.killed ks w)/\Sim (ι.killed ks w) (qv ks st).h (qv ks st).nx w/\Grew ι w (ι.killed ks w) w/\Cleanly ι (ι.killed ks w) st (qv ks st):=by
 have le:Le ι (ι.killed ks w):=⟨λc hc=>by
  simp only[Inj.killed];split
  ·exact .inr rfl
  ·exact .inl rfl,λB vs h=>Qu h⟩
 have froz:∀ B vs,(ι.killed ks w).g B=some vs->Froz (ι.killed ks w) w B vs:=λB vs h=>by
  rcases JC h with h1|⟨b,S,h1,h2,h3⟩
  ·have:=k.glob.2 B vs h1;exact⟨this.1,λb S e=>this.2 b S (JA e).1⟩
  ·refine⟨?_,λc T e=>?_⟩
   ·exact wE k h2 h3
   ·obtain⟨e1,e2⟩:=JA e;have:=k.inj b c B S T h2 e1;exact e2 (this▸h1)
 have gr:Grew ι w (ι.killed ks w) w:=⟨rfl,rfl,rfl,Qag _,λ_ _ _=>rfl,λb B S e=>.inl ⟨b,S,(JA e).1⟩,λB vs h=>by
  rcases JC h with h1|⟨b,S,h1,h2,h3⟩
  ·exact .inl h1
  ·exact .inr ⟨froz B vs h,.inl ⟨b,S,h2⟩⟩⟩
 refine⟨le,⟨λb B S e=>?_,λb e o ho=>?_,λb c B S T e1 e2=>k.inj b c B S T (JA e1).1 (JA e2).1,λb hb=>k.born b λh=>hb ?_,⟨⟨k.glob.1.1,λb S e=>k.glob.1.2 b S (JA e).1⟩,froz⟩⟩,gr,?_⟩
 ·obtain⟨e1,e2⟩:=JA e;obtain⟨o,x,h1,h2,h3⟩:=k.obj b B S e1;exact⟨o,x,by simp only[qv];rw[Y6,if_neg e2];exact h1,h2,OR.mono le _ _ h3⟩
 ·simp only[qv] at ho;rw[Y6] at ho;split at ho
  ·cases ho;rfl
  ·rename_i hn;simp only[Inj.killed,if_neg hn] at e;exact k.gone b e o ho
 ·simp only[Inj.killed];split
  ·rename_i hm;exact absurd h (hb0 b hm)
  ·exact h
 ·refine⟨Qag _,jd9 ks _,λb _ hd=>?_,λb hb=>?_,λb _ hu=>?_,λb hb=>?_,λb h1 h2=>absurd h2 (Nat.not_lt.2 h1)⟩
  ·simp only[qv];rw[Y6,if_neg (Gr ks _ b hd).2]
  ·simp only[qv];rw[Y6,if_neg];intro hm;have:=k.born b (hb0 b hm);have hb':st.nx<=b:=hb;omega
  ·simp only[Inj.killed];rw[if_neg λhm=>hb0 b hm hu];exact hu
  ·simp only[Inj.killed];split
   ·simp
   ·exact hb
theorem Hj {ι:Inj}{h:T AO}{nx:Nat}{w:World}(k:Sim ι h nx w):∀ (d:Nat) (v:AV) (x:Value) (v':AV) (ks:List Nat),VR ι v x->fz d h v=some (v',ks)->∀ b∈ks,ι b≠.unborn
 |0,v,x,v',ks,_,he,_,_=>by cases he
 |d+1,v,x,v',ks,hv,he,b,hb=>by
  have ih:=Hj k d;have ihs:∀ (l:List AV) (vs:List Value) (l':List AV) (ks:List Nat),VRs ι l vs->fzs (fz d h) l=some (l',ks)->∀ b∈ks,ι b≠.unborn:=by
   intro l;induction l with
   |nil=>
    intro vs l' ks _ he b hb;simp only[fzs,Option.some.injEq,Prod.mk.injEq] at he;obtain⟨rfl,rfl⟩:=he;cases hb
   |cons y l ihl=>
    intro vs l' ks hv he b hb;simp only[VRs] at hv;obtain⟨v,vs,rfl,h1,h2⟩:=hv;simp only[fzs] at he;split at he<;>try(cases he;done)
    rename_i y' k1 l1 k2 e1 e2;simp only[Option.some.injEq,Prod.mk.injEq] at he;obtain⟨rfl,rfl⟩:=he;rcases Qbj.1 hb with hb|hb
    ·exact ih _ _ _ _ h1 e1 b hb
    ·exact ihl vs l1 k2 h2 e2 b hb
  cases v<;>simp only[fz] at he<;>first|(cases he;cases hb;done)|(cases he;done)|skip
  case agg cs=>obtain⟨⟨l,js⟩,h1,h2⟩:=qU he;cases h2;simp only[VR] at hv;obtain⟨a,rfl,hv⟩:=hv;exact ihs _ _ _ _ hv h1 b hb
  case tup cs=>obtain⟨⟨l,js⟩,h1,h2⟩:=qU he;cases h2;simp only[VR] at hv;obtain⟨a,rfl,hv⟩:=hv;exact ihs _ _ _ _ hv h1 b hb
  case fn f cs=>obtain⟨⟨l,js⟩,h1,h2⟩:=qU he;cases h2;simp only[VR] at hv;obtain⟨a,rfl,hv⟩:=hv;exact ihs _ _ _ _ hv h1 b hb
  case iface t y=>obtain⟨⟨l,js⟩,h1,h2⟩:=qU he;cases h2;simp only[VR] at hv;obtain⟨u,rfl,hv⟩:=hv;exact ih _ _ _ _ hv h1 b hb
  case slice b' o len cap sz ex=>
   split at he<;>try(cases he;done)
   rename_i n zl z cs hrow;cases hle:Qak (Qaw o (Qar len sz)) n
   ·rw[hle] at he;cases he
   rw[hle] at he;simp only[cond] at he;rw[jY] at hle;have hle':o+len * sz<=n:=hle;obtain⟨⟨l,js⟩,h1,h2⟩:=qU he;cases h2;simp only[VR] at hv;obtain⟨hb',_⟩:=hv;rcases Qbp.1 hb with hb|hb
   ·subst hb;exact hb'
   ·obtain⟨B,S,c,e,f,e1,hw,hsz,hcells⟩:=ZH k hb' hrow hle';exact ihs (jF zl z cs (Qar len sz) o) _ _ _ hcells h1 b hb
end
end Go.Ev
end
noncomputable section
namespace Go.Ev
open Go.RowKit
section
def kD (run:List AV->St->ER)(args:List AV)(st:St):ER:=
 match fzs (fz 9 st.h) args with
 |some (aZ,ks)=>(match run aZ st0 with
  |.ok v s=>(match fz 9 s.h v with|some (v',_)=>.ok v' (qv ks st)|none=>.no)
  |.pn v s=>(match fz 9 s.h v with|some (v',_)=>.pn v' (qv ks st)|none=>.no)
  |.no=>.no)
 |none=>.no
def jed (run:List AV->St->ER)(args:List AV)(st:St):ER:=
 match run args st with
 |.ok v s=>(match fz 9 s.h v with|some (v',ks)=>.ok v' (qv ks s)|none=>.no)
 |r=>r
def JV (P:Program)(f:FuncId)(run:List AV->St->ER):Prop:=
 ∀ (args:List AV) (st:St) (ι:Inj) (w:World) (vs:Array Value),Sim ι st.h st.nx w->VRs ι args vs.toList->
  match run args st with
  |.no=>True
  |.ok v st'=>Enters P f/\Calls P f vs w λe w'=>∃ x,e=.returned x/\zi ι w st st' v x w'
  |.pn v st'=>Enters P f/\Calls P f vs w λe w'=>∃ x,e=.panicked [{ v:=x,recovered:=false }]/\zi ι w st st' v x w'
theorem u3 {ι:Inj}{w:World}{st:St}(k:Sim ι st.h st.nx w){d:Nat}{v v':AV}{x:Value}{ks:List Nat}(hv:VR ι v x)(he:fz d st.h v=some (v',ks)) :
  ∃ ι1,Le ι ι1/\Sim ι1 (qv ks st).h (qv ks st).nx w/\Grew ι w ι1 w/\Cleanly ι ι1 st (qv ks st)/\VR ι1.gone v' x:=by
 have hb0:=Hj k d v x v' ks hv he;have hks:∀ b∈ks,ι b≠.unborn->∃ B S,ι b=.at B S:=λb hb h0=>by
  obtain⟨n,zl,z,cs,hrow⟩:=jft d v v' ks he b hb;obtain⟨B,S,_,_,_,_,e,_⟩:=k.row h0 hrow;exact⟨B,S,e⟩
 obtain⟨h1,h2,h3,h4⟩:=jcs k hks hb0;exact⟨_,h1,h2,h3,h4,(Y8 k (λB vs h=>Qu h) d v x v' ks hv he λb hb B S e=>Yq (p:=(·∈ks)) k.glob hb e).1⟩
theorem jhI {P:Program}{f:FuncId}{run:List AV->St->ER}(h:JV P f run):JV P f (jed run):=by
 intro args st ι w vs k hv;have h1:=h args st ι w vs k hv;unfold jed;cases hr:run args st with
 |no=>trivial
 |pn v s=>rw[hr] at h1;exact h1
 |ok v s=>
  rw[hr] at h1;dsimp only at h1 ⊢;cases he:fz 9 s.h v with
  |none=>trivial
  |some p=>
   obtain⟨v',ks⟩:=p;refine⟨h1.1,Calls.mono h1.2 λe w' ⟨x,e1,ι',q1,q2,q3,q4,q5⟩=>⟨x,e1,?_⟩⟩;obtain⟨ι1,r1,r2,r3,r4,r5⟩:=u3 q3 q2 he;exact⟨ι1,q1.trans r1,VR.mono (Le.gone ι1) _ _ r5,r2,q4.trans r3,q5.trans r4⟩
theorem Uo {ι1:Inj}{w w':World}{st1:St}(k:Sim ι1 st1.h st1.nx w){s:St}{v v':AV}{x:Value}{js:List Nat}(h:zi ι1.gone w st0 s v x w')(he:fz 9 s.h v=some (v',js)):zi ι1 w st1 st1 v' x w':=by
 obtain⟨ι0',le0,hv',sim',gr',cl'⟩:=h
 let ι2:Inj:=⟨ι1.f,ι0'.ice (λ_=>True) w'⟩
 have noat:∀ B vs,ι2.g B=some vs->ι1.g B=some vs\/w.heap.size<=B:=λB vs h=>by
  rcases JC h with h|⟨b,S,_,h,_⟩
  ·rcases gr'.gl B vs h with h|⟨_,⟨c,S,h⟩|h⟩
   ·exact .inl h
   ·cases h
   ·exact .inr h
  ·rcases gr'.new b B S h with ⟨c,S',h⟩|h
   ·cases h
   ·exact .inr h
 have froz:∀ B vs,ι2.g B=some vs->Froz ι2 w' B vs:=λB vs h=>by
  refine⟨?_,λb S e=>?_⟩
  ·rcases JC h with h|⟨b,S,_,h,h2⟩
   ·exact(sim'.glob.2 B vs h).1
   ·exact wE sim' h h2
  ·have e:ι1 b=.at B S:=e;rcases noat B vs h with h1|h1
   ·exact(k.glob.2 B vs h1).2 b S e
   ·have:=k.lt e;omega
 have keep:∀ j,j<w.heap.size->w'.heap[j]? = w.heap[j]?:=λj hj=>gr'.keep j hj λb S e=>by cases e
 have le:Le ι1 ι2:=⟨λ_ _=>.inl rfl,λB vs h=>Qu (le0.2 B vs h)⟩;have gr:Grew ι1 w ι2 w':=⟨gr'.os,gr'.tape,gr'.output,gr'.size,λj hj _=>keep j hj,λb B S e=>.inl ⟨b,S,e⟩,λB vs h=>(noat B vs h).elim .inl λh1=>.inr ⟨froz B vs h,.inr h1⟩⟩;have hv2:=(Y8 (ι':=ι2) sim' (λB vs h=>Qu h) 9 v x v' js hv' he λb hb B S e=>Yq sim'.glob trivial e).1;refine⟨ι2,le,VR.mono (Le.gone ι2) _ _ hv2,⟨λb B S e=>?_,k.gone,k.inj,k.born,⟨⟨sim'.glob.1.1,k.glob.1.2⟩,froz⟩⟩,gr,?_⟩
 ·have e:ι1 b=.at B S:=e;obtain⟨o,y,h1,h2,h3⟩:=k.obj b B S e;exact⟨o,y,h1,(keep B (k.lt e)).trans h2,OR.mono le _ _ h3⟩
 ·have:=Cleanly.refl ι1 st1;exact⟨this.nx,this.dirty,this.keep,this.above,this.u,this.le,this.n⟩
theorem jf4 {P:Program}{f:FuncId}{run:List AV->St->ER}(h:JV P f run):JV P f (kD run):=by
 intro args st ι w vs k hv;unfold kD;cases he:fzs (fz 9 st.h) args with
 |none=>trivial
 |some p=>
  obtain⟨aZ,ks⟩:=p;dsimp only;have hvt:VR ι (.tup args) (.tuple vs):=by simp only[VR];exact⟨vs,rfl,hv⟩
  have het:fz 10 st.h (.tup args)=some (.tup aZ,ks):=by
   show((fzs (fz 9 st.h) args).map λp=>(AV.tup p.1,p.2))=_;rw[he];rfl
  obtain⟨ι1,r1,r2,r3,r4,r5⟩:=u3 k hvt het;have hva:VRs ι1.gone aZ vs.toList:=by
   simp only[VR] at r5;obtain⟨a,e,r5⟩:=r5;cases e;exact r5
  have sim0:Sim ι1.gone st0.h st0.nx w:=⟨λb B S e=>(by cases e),λb e=>(by cases e),λb b' B S S' e=>(by cases e),λb e=>absurd rfl e,
   ⟨⟨r2.glob.1.1,λb S e=>(by cases e)⟩,λB vs h=>⟨(r2.glob.2 B vs h).1,λb S e=>(by cases e)⟩⟩⟩
  have h1:=h aZ st0 ι1.gone w vs sim0 hva;cases hr:run aZ st0 with
  |no=>trivial
  |ok v s=>
   rw[hr] at h1;dsimp only at h1 ⊢;cases hz:fz 9 s.h v with
   |none=>trivial
   |some p=>
    refine⟨h1.1,Calls.mono h1.2 λe w' ⟨x,e1,hd⟩=>⟨x,e1,?_⟩⟩;obtain⟨ι2,q1,q2,q3,q4,q5⟩:=Uo r2 hd hz;exact⟨ι2,r1.trans q1,q2,q3,r3.trans q4,r4.trans q5⟩
  |pn v s=>
   rw[hr] at h1;dsimp only at h1 ⊢;cases hz:fz 9 s.h v with
   |none=>trivial
   |some p=>
    refine⟨h1.1,Calls.mono h1.2 λe w' ⟨x,e1,hd⟩=>⟨x,e1,?_⟩⟩;obtain⟨ι2,q1,q2,q3,q4,q5⟩:=Uo r2 hd hz;exact⟨ι2,r1.trans q1,q2,q3,r3.trans q4,r4.trans q5⟩
end
end Go.Ev
end
noncomputable section
namespace Go.Ev
open Go.RowKit
section
def Xe (cs:List AV):St:=⟨1,(jT (jv 0)).run (.row (jz cs) (jz cs) cs .e) .e,0,[]⟩
def Xr (n:Nat)(v:AV)(s:St):Option (AV×List AV):=
 match fz 9 s.h v,jh s.h 0 with
 |some (v',ks),some (.row m zl z cs)=>(match fzs (fz 9 s.h) (jF zl z cs m 0) with
  |some (cs',js)=>cond (Qap m n) (cond (ks.all λb=>Qak 1 b) (cond (js.all λb=>Qak 1 b) (some (v',cs')) none) none) none
  |none=>none)
 |_,_=>none
def WJ (run:List AV->St->ER)(args:List AV)(st:St):ER:=
 match args with
 |.ptr p 0 :: rest=>(match jh st.h p with
  |some (.row n zl z cs)=>(match fzs (fz 9 st.h) (jF zl z cs n 0),fzs (fz 9 st.h) rest with
   |some (cells,[]),some (aZ,[])=>(match run (.ptr 0 0 :: aZ) (Xe cells) with
    |.ok v s=>(match Xr n v s with|some (v',cs')=>.ok v' ⟨st.nx,(jT (jv p)).run (.row n zl z (j2 cs' cs 0)) st.h,min st.dirty p,st.fr⟩|none=>.no)
    |.pn v s=>(match Xr n v s with|some (v',cs')=>.pn v' ⟨st.nx,(jT (jv p)).run (.row n zl z (j2 cs' cs 0)) st.h,min st.dirty p,st.fr⟩|none=>.no)
    |.no=>.no)
   |_,_=>.no)
  |_=>.no)
 |_=>.no
theorem UB {ι:Inj}{w w':World}{st:St}(k:Sim ι st.h st.nx w){p n zl:Nat}{z:List AV}{cs:T AV}(hp:ι p≠.unborn)(hrow:jh st.h p=some (.row n zl z cs)){cells:List AV}{s:St}{v v':AV}{x:Value}{cs':List AV}
  (h:zi ⟨λc=>if c=0 then ι p else .unborn,ι.g⟩ w (Xe cells) s v x w') (he:Xr n v s=some (v',cs')) :
  zi ι w st ⟨st.nx,(jT (jv p)).run (.row n zl z (j2 cs' cs 0)) st.h,min st.dirty p,st.fr⟩ v' x w':=by
 obtain⟨ι0',le0,hv',sim',gr',cl'⟩:=h;obtain⟨B,S,c0,elem0,lo0,hi0,eB,hw0,hc0,hnS0,hfr0,hcell0⟩:=k.row hp hrow;unfold Xr at he;split at he<;>try(cases he;done)
 rename_i w1 ks m zl' z' cs1 hz hrow';split at he<;>try(cases he;done)
 rename_i l js hzs;cases hm:Qap m n
 ·rw[hm] at he;cases he
 rw[hm] at he;cases hk1:ks.all λb=>Qak 1 b
 ·rw[hk1] at he;cases he
 rw[hk1] at he;cases hk2:js.all λb=>Qak 1 b
 ·rw[hk2] at he;cases he
 rw[hk2] at he;simp only[cond,Option.some.injEq,Prod.mk.injEq] at he;obtain⟨rfl,rfl⟩:=he;rw[qh] at hm;subst hm;have h00:(⟨λc=>if c=0 then ι p else .unborn,ι.g⟩:Inj) 0=.at B S:=eB;have hb0:ι0' 0≠.unborn:=le0.born (by rw[h00];simp);have e0:ι0' 0=.at B S:=by
  rcases le0.1 0 (by rw[h00];simp) with h|h
  ·exact h.trans h00
  ·have:=sim'.gone 0 h _ hrow';cases this
 have only:∀ c B' S',(⟨λc=>if c=0 then ι p else .unborn,ι.g⟩:Inj) c=.at B' S'->B'=B:=λc B' S' e=>by
  dsimp only at e;split at e
  ·rw[eB] at e;cases e;rfl
  ·cases e
 let ι2:Inj:=⟨ι.f,ι0'.ice (λb=>1<=b) w'⟩
 have noat:∀ B' vs,ι2.g B'=some vs->ι.g B'=some vs\/w.heap.size<=B':=λB' vs h=>by
  rcases JC h with h|⟨b,S',hb,h,_⟩
  ·rcases gr'.gl B' vs h with h|⟨hF,⟨c,S',h⟩|h⟩
   ·exact .inl h
   ·have:=only c B' S' h;subst this;exact absurd e0 (hF.2 0 S)
   ·exact .inr h
  ·rcases gr'.new b B' S' h with ⟨c,S2,h2⟩|h2
   ·have:=only c B' S2 h2;subst this;have:=sim'.inj b 0 B' S' S h e0;omega
   ·exact .inr h2
 have froz:∀ B' vs,ι2.g B'=some vs->Froz ι2 w' B' vs:=λB' vs h=>by
  refine⟨?_,λb S' e=>?_⟩
  ·rcases JC h with h|⟨b,S',_,h,h2⟩
   ·exact(sim'.glob.2 B' vs h).1
   ·exact wE sim' h h2
  ·have e:ι b=.at B' S':=e;rcases noat B' vs h with h1|h1
   ·exact(k.glob.2 B' vs h1).2 b S' e
   ·have:=k.lt e;omega
 have keep:∀ j,j<w.heap.size->j≠B->w'.heap[j]? = w.heap[j]?:=λj hj hn=>gr'.keep j hj λb S' e=>hn (only b j S' e);have le:Le ι ι2:=⟨λ_ _=>.inl rfl,λB' vs h=>Qu (le0.2 B' vs h)⟩;have gr:Grew ι w ι2 w':=⟨gr'.os,gr'.tape,gr'.output,gr'.size,λj hj hn=>keep j hj λe=>hn p S (by rw[e];exact eB),λb B' S' e=>.inl ⟨b,S',e⟩,λB' vs h=>(noat B' vs h).elim .inl λh1=>.inr ⟨froz B' vs h,.inr h1⟩⟩;have hv2:=(Y8 (ι':=ι2) sim' (λB' vs h=>Qu h) 9 v x w1 ks hv' hz λb hb B' S' e=>Yq (p:=λb=>1<=b) sim'.glob (by have:=QaG.1 hk1 b hb;rwa [jY] at this) e).1;obtain⟨B2,S2,c,e,f,e2,hw',hsz,hcells⟩:=ZH (o:=0) (m:=m) sim' hb0 hrow' (by omega);rw[e0] at e2;cases e2;obtain⟨B3,S3,c3,elem,lo,hi,e3,hw3,hc3,hnS,hfr,_⟩:=sim'.row hb0 hrow';rw[e0] at e3;cases e3;rw[hw'] at hw3;cases hw3;have hall:(jF zl' z' cs1 m 0).all AV.cell=true:=(Jj (st:=s) (o:=0) sim' hb0 hrow' (by omega)).1;obtain⟨q1,q2,q3⟩:=Xy (ι':=ι2) (w:=w') (λv x v' ks hv he hc=>Y8 sim' (λB' vs h=>Qu h) 9 v x v' ks hv he hc) (jF zl' z' cs1 m 0) _ l js hcells hzs λb hb B' S' e=>Yq (p:=λb=>1<=b) sim'.glob (by have:=QaG.1 hk2 b hb;rwa [jY] at this) e;have hlen:l.length=m:=by rw[q3,qc];simp
 have hor:OR ι2 S (.row m zl z (j2 l cs 0)) (.cells c e (lo,hi)):=by
  simp only[OR];refine⟨c,e,lo,hi,rfl,hc3,hnS,hfr,λi hi'=>?_⟩;rw[yi,if_pos ⟨QaM _,by omega⟩,Qbf];refine⟨YR (q2 hall) (by omega),c.toList.getD i undef,?_,?_⟩
  ·have:i<c.size:=by omega
   simp[QaI,this]
  ·have:=q1.get i (by omega);rw[wd (by omega) (by rw[Qau];omega),QaF] at this;exact VR.mono (Le.gone ι2) _ _ this
 refine⟨ι2,le,VR.mono (Le.gone ι2) _ _ hv2,⟨λb B' S' e'=>?_,λb e' o ho=>?_,k.inj,k.born,⟨⟨sim'.glob.1.1,k.glob.1.2⟩,froz⟩⟩,gr,?_⟩
 ·have e':ι b=.at B' S':=e';by_cases hb:b=p
  ·subst hb;rw[eB] at e';cases e';exact⟨_,_,by rw[jS,if_pos rfl],hw',hor⟩
  ·obtain⟨o,y,h1,h2,h3⟩:=k.obj b B' S' e';have hB:B'≠B:=λh=>hb (k.inj b p B S' S (h▸e') eB);exact⟨o,y,by rw[jS,if_neg hb];exact h1,(keep B' (k.lt e') hB).trans h2,OR.mono le _ _ h3⟩
 ·have e':ι b=.dead:=e';by_cases hb:b=p
  ·subst hb;rw[eB] at e';cases e'
  ·rw[jS,if_neg hb] at ho;exact k.gone b e' o ho
 ·have:=Cleanly.put ι st p (.row m zl z (j2 l cs 0)) (k.born p hp);exact⟨this.nx,this.dirty,this.keep,this.above,this.u,this.le,this.n⟩
theorem U5 {ι:Inj}{w:World}{st:St}(k:Sim ι st.h st.nx w){aZ l:List AV}{vs:List Value}(hv:VRs ι aZ vs)(he:fzs (fz 9 st.h) aZ=some (l,[])):VRs ι.gone l vs:=
 (Xy (ι':=ι) (w:=w) (λv x v' ks hv he hc=>Y8 k (λB' vs h=>h) 9 v x v' ks hv he hc) aZ vs l [] hv he (λb hb=>by cases hb)).1
theorem jga {P:Program}{f:FuncId}{run:List AV->St->ER}(h:JV P f run):JV P f (WJ run):=by
 intro args st ι w vs k hv;unfold WJ;cases args with
 |nil=>trivial
 |cons a rest=>
 cases a<;>try trivial
 rename_i p o;cases o with
 |succ o=>trivial
 |zero=>
 show match (match jh st.h p with
  |some (.row n zl z cs)=>(match fzs (fz 9 st.h) (jF zl z cs n 0),fzs (fz 9 st.h) rest with
   |some (cells,[]),some (aZ,[])=>(match run (.ptr 0 0 :: aZ) (Xe cells) with
    |.ok v s=>(match Xr n v s with|some (v',cs')=>ER.ok v' ⟨st.nx,(jT (jv p)).run (.row n zl z (j2 cs' cs 0)) st.h,min st.dirty p,st.fr⟩|none=>.no)
    |.pn v s=>(match Xr n v s with|some (v',cs')=>.pn v' ⟨st.nx,(jT (jv p)).run (.row n zl z (j2 cs' cs 0)) st.h,min st.dirty p,st.fr⟩|none=>.no)
    |.no=>.no)
   |_,_=>.no)
  |_=>.no) with
  |.no=>True
  |.ok v st'=>Enters P f/\Calls P f vs w λe w'=>∃ x,e=.returned x/\zi ι w st st' v x w'
  |.pn v st'=>Enters P f/\Calls P f vs w λe w'=>∃ x,e=.panicked [{ v:=x,recovered:=false }]/\zi ι w st st' v x w'
 cases hrow:jh st.h p with
 |none=>trivial
 |some ob=>
 cases ob<;>try trivial
 rename_i n zl z cs;dsimp only;cases hcells:fzs (fz 9 st.h) (jF zl z cs n 0) with
 |none=>trivial
 |some q=>
 cases has:fzs (fz 9 st.h) rest with
 |none=>obtain⟨cells,ks⟩:=q;cases ks<;>trivial
 |some q2=>
 obtain⟨cells,ks⟩:=q;obtain⟨aZ,ks2⟩:=q2;cases ks with
 |cons b ks=>trivial
 |nil=>
 cases ks2 with
 |cons b ks=>trivial
 |nil=>
 dsimp only;simp only[VRs] at hv;obtain⟨pv,vs',hvs,hpv,hrest⟩:=hv;simp only[VR] at hpv;obtain⟨hp,ad,rfl,hat⟩:=hpv;obtain⟨B,S,c,elem,lo,hi,eB,hw,hc,hnS,hfr,hcell⟩:=k.row hp hrow;obtain⟨B2,S2,c2,e2,f2,eB2,hw2,hsz,hvc⟩:=ZH (o:=0) (m:=n) k hp hrow (by omega);rw[eB] at eB2;cases eB2;rw[hw] at hw2;cases hw2;have hgc:=U5 k hvc hcells;have hga:=U5 k hrest has;have hall:(jF zl z cs n 0).all AV.cell=true:=(Jj (st:=st) (o:=0) k hp hrow (by omega)).1;obtain⟨_,q2,q3⟩:=Xy (ι':=ι) (w:=w) (λv x v' ks hv he hc=>Y8 k (λB' vs h=>h) 9 v x v' ks hv he hc) _ _ cells [] hvc hcells (λb hb=>by cases hb);have hlen:cells.length=n:=by rw[q3,qc];simp
 let ι0:Inj:=⟨λc=>if c=0 then ι p else .unborn,ι.g⟩
 have only:∀ c B' S',ι0 c=.at B' S'->c=0/\B'=B/\S'=S:=λc B' S' e=>by
  dsimp only[ι0] at e;split at e
  ·rw[eB] at e;cases e;exact⟨by assumption,rfl,rfl⟩
  ·cases e
 have leg:Le ι.gone ι0:=⟨λb hb=>absurd rfl hb,λ_ _ h=>h⟩;have sim0:Sim ι0 (Xe cells).h (Xe cells).nx w:=by
  refine⟨λb B' S' e=>?_,λb e=>?_,λb b' B' S1 S2 e1 e2=>(only b _ _ e1).1.trans (only b' _ _ e2).1.symm,λb hb=>?_,⟨⟨k.glob.1.1,λb S' e=>?_⟩,λB' vs h=>⟨(k.glob.2 B' vs h).1,λb S' e=>?_⟩⟩⟩
  ·obtain⟨rfl,rfl,rfl⟩:=only b B' S' e;refine⟨_,_,by simp only[Xe];rw[jS,if_pos rfl],hw,?_⟩;simp only[OR,jD];refine⟨c,elem,lo,hi,rfl,hc,by omega,hfr,λi hi'=>?_⟩;have e1:qa cells.length cells .e i=cells.getD i .bad:=by rw[yw,Qg,QbB hi'];rfl
   rw[e1];refine⟨YR (q2 hall) hi',c.toList.getD i undef,?_,?_⟩
   ·have:i<c.size:=by omega
    simp[QaI,this]
   ·have:=hgc.get i hi';rw[wd (by omega) (by rw[Qau];omega),QaF] at this;exact VR.mono leg _ _ this
  ·dsimp only[ι0] at e;split at e
   ·rw[eB] at e;cases e
   ·cases e
  ·dsimp only[ι0] at hb;split at hb
   ·rename_i h0;rw[h0];exact Nat.zero_lt_one
   ·exact absurd rfl hb
  ·obtain⟨_,h,h2⟩:=only b 1 S' e;subst h;exact k.glob.1.2 p S eB
  ·obtain⟨_,h,h2⟩:=only b B' S' e;subst h;exact(k.glob.2 B' vs h).2 p S eB
 have hvs0:VRs ι0 (.ptr 0 0 :: aZ) vs.toList:=by
  rw[hvs];simp only[VRs];refine⟨_,vs',rfl,?_,VRs.mono leg _ _ hga⟩;simp only[VR];refine⟨by dsimp only[ι0];rw[if_pos rfl,eB];simp,ad,rfl,λB' S' e=>?_⟩;obtain⟨_,rfl,rfl⟩:=only 0 B' S' e;exact hat B' S' eB
 have h1:=h (.ptr 0 0 :: aZ) (Xe cells) ι0 w vs sim0 hvs0;cases hr:run (.ptr 0 0 :: aZ) (Xe cells) with
 |no=>trivial
 |ok v s=>
  rw[hr] at h1;dsimp only at h1 ⊢;cases hz:Xr n v s with
  |none=>trivial
  |some q=>
   obtain⟨v',cs'⟩:=q;exact⟨h1.1,Calls.mono h1.2 λe w' ⟨x,e1,hd⟩=>⟨x,e1,UB k hp hrow hd hz⟩⟩
 |pn v s=>
  rw[hr] at h1;dsimp only at h1 ⊢;cases hz:Xr n v s with
  |none=>trivial
  |some q=>
   obtain⟨v',cs'⟩:=q;exact⟨h1.1,Calls.mono h1.2 λe w' ⟨x,e1,hd⟩=>⟨x,e1,UB k hp hrow hd hz⟩⟩
def kJ (run:List AV->St->ER)(args:List AV)(st:St):ER:=
 match args with
 |p :: rest=>(match fzs (fz 9 st.h) rest with|some (aZ,ks)=>WJ run (p :: aZ) (qv ks st)|none=>.no)
 |[]=>.no
theorem jd2 {P:Program}{f:FuncId}{run:List AV->St->ER}(h:JV P f run):JV P f (kJ run):=by
 intro args st ι w vs k hv;unfold kJ;cases args with
 |nil=>trivial
 |cons a rest=>
 dsimp only;cases he:fzs (fz 9 st.h) rest with
 |none=>trivial
 |some p=>
 obtain⟨aZ,ks⟩:=p;dsimp only;simp only[VRs] at hv;obtain⟨pv,vs',hvs,hpv,hrest⟩:=hv;have hvt:VR ι (.tup rest) (.tuple vs'.toArray):=by simp only[VR];exact⟨vs'.toArray,rfl,hrest⟩
 have het:fz 10 st.h (.tup rest)=some (.tup aZ,ks):=by
  show((fzs (fz 9 st.h) rest).map λp=>(AV.tup p.1,p.2))=_;rw[he];rfl
 obtain⟨ι1,r1,r2,r3,r4,r5⟩:=u3 k hvt het;have hva:VRs ι1 aZ vs':=by
  simp only[VR] at r5;obtain⟨a,e,r5⟩:=r5;cases e;exact VRs.mono (Le.gone ι1) _ _ r5
 have h1:=jga h (a :: aZ) (qv ks st) ι1 w vs r2 (by
  rw[hvs];simp only[VRs];exact⟨pv,vs',rfl,VR.mono r1 _ _ hpv,hva⟩)
 have fin:∀ {st':St} {v:AV} {x:Value} {w':World},zi ι1 w (qv ks st) st' v x w'->zi ι w st st' v x w':=λ⟨ι2,q1,q2,q3,q4,q5⟩=>⟨ι2,r1.trans q1,q2,q3,r3.trans q4,r4.trans q5⟩;cases hr:WJ run (a :: aZ) (qv ks st) with
 |no=>trivial
 |ok v s=>
  rw[hr] at h1;exact⟨h1.1,Calls.mono h1.2 λe w' ⟨x,e1,hd⟩=>⟨x,e1,fin hd⟩⟩
 |pn v s=>
  rw[hr] at h1;exact⟨h1.1,Calls.mono h1.2 λe w' ⟨x,e1,hd⟩=>⟨x,e1,fin hd⟩⟩
end
end Go.Ev
end
noncomputable section
namespace Go.Ev
open Go.RowKit
section
def kT:AV->Bool
 |.bool _=>true | .int _ _=>true | .str _=>true | .zstr _=>true | .nilp=>true | .nilm=>true | .nilf=>true | .nilif=>true | .nils=>true
 |.lst 0 []=>true
 |_=>false
def WY:AV->Bool
 |.agg cs=>cs.all kT
 |v=>kT v
def X3:AV->Bool
 |.tup vs=>vs.all WY
 |.iface _ v=>WY v
 |v=>WY v
theorem gv {ι ι':Inj}:∀ {v:AV} {x:Value},kT v=true->VR ι v x->VR ι' v x:=by
 intro v x h k;cases v<;>first|(cases h;done)|(simp only[VR] at k ⊢;exact k)|skip
 case lst n cs=>
  cases n with
  |zero=>
   cases cs with
   |nil=>
    simp only[VR] at k ⊢;obtain⟨p,C,rfl,hC,hc,_⟩:=k;exact⟨p,C,rfl,hC,hc,λh=>absurd h (Qca 0)⟩
   |cons c cs=>cases h
  |succ n=>cases h
theorem UK {ι ι':Inj}:∀ {l:List AV} {xs:List Value},l.all kT=true->VRs ι l xs->VRs ι' l xs
 |[],_,_,k=>k
 |v :: l,xs,h,k=>by
  simp only[QaZ,Qaz] at h;simp only[VRs] at k ⊢;obtain⟨y,ys,rfl,h1,h2⟩:=k;exact⟨y,ys,rfl,gv h.1 h1,UK h.2 h2⟩
theorem u4 {ι ι':Inj}{v:AV}{x:Value}(h:WY v=true)(k:VR ι v x):VR ι' v x:=by
 cases v<;>first|exact gv (by exact h) k|skip
 case agg cs=>
  simp only[VR] at k ⊢;obtain⟨a,rfl,hc⟩:=k;exact⟨a,rfl,UK h hc⟩
theorem UL {ι ι':Inj}:∀ {l:List AV} {xs:List Value},l.all WY=true->VRs ι l xs->VRs ι' l xs
 |[],_,_,k=>k
 |v :: l,xs,h,k=>by
  simp only[QaZ,Qaz] at h;simp only[VRs] at k ⊢;obtain⟨y,ys,rfl,h1,h2⟩:=k;exact⟨y,ys,rfl,u4 h.1 h1,UL h.2 h2⟩
theorem jeh {ι ι':Inj}{v:AV}{x:Value}(h:X3 v=true)(k:VR ι v x):VR ι' v x:=by
 cases v<;>first|exact u4 (by exact h) k|skip
 case tup vs=>
  simp only[VR] at k ⊢;obtain⟨a,rfl,hc⟩:=k;exact⟨a,rfl,UL h hc⟩
 case iface t y=>
  simp only[VR] at k ⊢;obtain⟨z,rfl,hc⟩:=k;exact⟨z,rfl,u4 h hc⟩
def uk (f:AV->Option (AV×List Nat)):List AV->List AV
 |[]=>[]
 |x :: l=>match f x with
  |some (y,_)=>cond y.cell (y :: uk f l) []
  |none=>[]
def kN (h:T AO)(v:AV):Option AV:=
 match v with
 |.ptr b o=>match jh h b with
  |some (.row n zl z cs)=>some (.lptr (uk (fz 9 h) (jF zl z cs n 0)) o)
  |_=>none
 |v=>(fz 9 h v).map (·.1)
def vb (h:T AO):List AV->Option (List AV)
 |[]=>some []
 |x :: l=>match kN h x,vb h l with
  |some y,some l'=>some (y :: l')
  |_,_=>none
def jd7 (h:T AO)(v:AV):Option AV:=
 match v with
 |.fn f caps=>(vb h caps).map (AV.fn f)
 |v=>kN h v
def wq (h:T AO):List AV->Option (List AV)
 |[]=>some []
 |x :: l=>match jd7 h x,wq h l with
  |some y,some l'=>some (y :: l')
  |_,_=>none
def kM (run:List AV->St->ER)(args:List AV)(st:St):ER:=
 match wq st.h args with
 |some aZ=>(match run aZ st0 with
  |.ok v s=>(match fz 9 s.h v with|some (v',_)=>cond (X3 v') (.ok v' st) .no|none=>.no)
  |.pn v s=>(match fz 9 s.h v with|some (v',_)=>cond (X3 v') (.pn v' st) .no|none=>.no)
  |.no=>.no)
 |none=>.no
def Inj.lent (ι:Inj)(w:World):Inj:=⟨λ_=>.unborn,ι.ice (λ_=>True) w⟩
section
variable {h:T AO} {nx:Nat} {w:World} {ι:Inj}
theorem VV (k:Sim ι h nx w){d:Nat}{v v':AV}{x:Value}{ks:List Nat}(hv:VR ι v x)(he:fz d h v=some (v',ks)):VR (ι.lent w) v' x/\(v.cell=true->v'.cell=true):=
 Y8 (ι':=ι.lent w) k (λB vs hB=>Qu hB) d v x v' ks hv he λb hb B S e=>Yq (p:=λ_=>True) k.glob trivial e
theorem gt (k:Sim ι h nx w):∀ (l:List AV) (xs:List Value),VRs ι l xs->∃ m,(uk (fz 9 h) l).length=m/\m<=xs.length/\VRs (ι.lent w) (uk (fz 9 h) l) (xs.take m)/\(uk (fz 9 h) l).all AV.cell=true
 |[],xs,hv=>⟨0,rfl,QaM _,by rw[QbV];rfl,rfl⟩
 |x :: l,xs,hv=>by
  simp only[VRs] at hv;obtain⟨y,ys,rfl,h1,h2⟩:=hv;unfold uk;cases he:fz 9 h x with
  |none=>exact⟨0,rfl,QaM _,by rw[QbV];rfl,rfl⟩
  |some p=>
   obtain⟨z,ks⟩:=p;dsimp only;cases hz:z.cell with
   |false=>exact⟨0,rfl,QaM _,by rw[QbV];rfl,rfl⟩
   |true=>
    obtain⟨m,e1,e2,e3,e4⟩:=gt k l ys h2;refine⟨m+1,by simp[e1],by simp;omega,?_,by simp[hz,e4]⟩;rw[Qbz];exact⟨y,_,rfl,(VV k h1 he).1,e3⟩
theorem K6 (k:Sim ι h nx w){v v':AV}{x:Value}(hv:VR ι v x)(he:kN h v=some v'):VR (ι.lent w) v' x:=by
 have other:∀ v,VR ι v x->(fz 9 h v).map (·.1)=some v'->VR (ι.lent w) v' x:=λv hv he=>by
  cases hz:fz 9 h v with
  |none=>rw[hz] at he;cases he
  |some p=>
   rw[hz] at he;cases he;exact(VV k hv hz).1
 cases v;case ptr b o=>
  unfold kN at he;dsimp only at he;split at he
  ·rename_i n zl z cs hrow;cases he;simp only[VR] at hv;obtain⟨hb,a,rfl,ha⟩:=hv;obtain⟨B,S,c,e,f,e1,hw,hle,hvr⟩:=ZH k hb hrow (o:=0) (m:=n) (by omega);have:=ha B S e1;subst this;obtain⟨m,f1,f2,f3,f4⟩:=gt k _ _ hvr;have hg:(ι.lent w).g B=some c.toList:=by
    have:ι.ice (λ_=>True) w B=QU w B:=Yq (p:=λ_=>True) k.glob trivial e1;show ι.ice (λ_=>True) w B=_;rw[this,UX hw]
   rw[QbD] at f3 f2;have hl:(c.toList.take n).length=min n c.toList.length:=QaO;have hcs:c.toList.length=c.size:=Qau;simp only[VR];refine⟨B,0,c.toList,by rw[QaF],f4,hg,by omega,?_⟩;rw[QbD,f1];rw[QbU,QbJ (by omega)] at f3;exact f3
  ·cases he
 all_goals exact other _ hv he
theorem UF (k:Sim ι h nx w):∀ {l l':List AV} {xs:List Value},VRs ι l xs->vb h l=some l'->VRs (ι.lent w) l' xs
 |[],l',xs,hv,he=>by cases he;exact hv
 |v :: l,l',xs,hv,he=>by
  unfold vb at he;split at he
  ·rename_i y l2 h1 h2;cases he;simp only[VRs] at hv ⊢;obtain⟨u,us,rfl,g1,g2⟩:=hv;exact⟨u,us,rfl,K6 k g1 h1,UF k g2 h2⟩
  ·cases he
theorem jgf (k:Sim ι h nx w){v v':AV}{x:Value}(hv:VR ι v x)(he:jd7 h v=some v'):VR (ι.lent w) v' x:=by
 cases v;case fn f caps=>
  unfold jd7 at he;dsimp only at he;cases hz:vb h caps with
  |none=>rw[hz] at he;cases he
  |some p=>
   rw[hz] at he;cases he;simp only[VR] at hv ⊢;obtain⟨cv,rfl,hc⟩:=hv;exact⟨cv,rfl,UF k hc hz⟩
 all_goals exact K6 k hv he
theorem K5 (k:Sim ι h nx w):∀ {l l':List AV} {xs:List Value},VRs ι l xs->wq h l=some l'->VRs (ι.lent w) l' xs
 |[],l',xs,hv,he=>by cases he;exact hv
 |v :: l,l',xs,hv,he=>by
  unfold wq at he;split at he
  ·rename_i y l2 h1 h2;cases he;simp only[VRs] at hv ⊢;obtain⟨u,us,rfl,g1,g2⟩:=hv;exact⟨u,us,rfl,jgf k g1 h1,K5 k g2 h2⟩
  ·cases he
end
theorem UE {ι:Inj}{w w':World}{st:St}(k:Sim ι st.h st.nx w){s:St}{v v':AV}{x:Value}{js:List Nat}(h:zi (ι.lent w) w st0 s v x w')(he:fz 9 s.h v=some (v',js))(hf:X3 v'=true):zi ι w st st v' x w':=by
 obtain⟨ι0,le0,hv,sim',gr',cl'⟩:=h;have keep:∀ j,j<w.heap.size->w'.heap[j]? = w.heap[j]?:=λj hj=>gr'.keep j hj λb S e=>by cases e
 have hv2:=(VV sim' hv he).1;have froz:∀ B vs,ι.g B=some vs->Froz ι w' B vs:=λB vs hB=>by
  have h1:=k.glob.2 B vs hB;obtain⟨⟨c,e,lo,hi,h2,h3⟩,h4⟩:=h1;exact⟨⟨c,e,lo,hi,(keep B (Qay.1 h2).1).trans h2,h3⟩,h4⟩
 refine⟨ι,Le.refl ι,jeh hf hv2,⟨λb B S e=>?_,k.gone,k.inj,k.born,⟨⟨sim'.glob.1.1,k.glob.1.2⟩,froz⟩⟩,⟨gr'.os,gr'.tape,gr'.output,gr'.size,λj hj _=>keep j hj,λb B S e=>.inl ⟨b,S,e⟩,λB vs h=>.inl h⟩,Cleanly.refl ι st⟩;obtain⟨o,y,h1,h2,h3⟩:=k.obj b B S e;exact⟨o,y,h1,(keep B (k.lt e)).trans h2,h3⟩
theorem jge {P:Program}{f:FuncId}{run:List AV->St->ER}(h:JV P f run):JV P f (kM run):=by
 intro args st ι w vs k hv;unfold kM;cases he:wq st.h args with
 |none=>trivial
 |some aZ=>
  dsimp only;have hva:=K5 k hv he;have sim0:Sim (ι.lent w) st0.h st0.nx w:=⟨λb B S e=>(by cases e),λb e=>(by cases e),λb b' B S S' e=>(by cases e),λb e=>absurd rfl e,
   ⟨⟨k.glob.1.1,λb S e=>(by cases e)⟩,λB vs hB=>by
    refine⟨?_,λb S e=>(by cases e)⟩;rcases JC hB with h1|⟨b,S,_,h1,h2⟩
    ·exact(k.glob.2 B vs h1).1
    ·exact wE k h1 h2⟩⟩
  have h1:=h aZ st0 (ι.lent w) w vs sim0 hva;cases hr:run aZ st0 with
  |no=>trivial
  |ok v s=>
   rw[hr] at h1;dsimp only at h1 ⊢;cases hz:fz 9 s.h v with
   |none=>trivial
   |some p=>
    dsimp only;cases hf:X3 p.1 with
    |false=>trivial
    |true=>exact⟨h1.1,Calls.mono h1.2 λe w' ⟨x,e1,hd⟩=>⟨x,e1,UE k hd hz hf⟩⟩
  |pn v s=>
   rw[hr] at h1;dsimp only at h1 ⊢;cases hz:fz 9 s.h v with
   |none=>trivial
   |some p=>
    dsimp only;cases hf:X3 p.1 with
    |false=>trivial
    |true=>exact⟨h1.1,Calls.mono h1.2 λe w' ⟨x,e1,hd⟩=>⟨x,e1,UE k hd hz hf⟩⟩
end
end Go.Ev
end
noncomputable section
namespace Go.Sy
open Go.Ev Go.RowKit
inductive A where
 |t (x:Nat)
 |c (v:AV)
inductive Ins where
 |mv (x:A)
 |pick (c a b:A)
 |alloc (z:List AV)
 |box (x:A)
 |build (z:List AV) (ps:List ((Nat×Nat)×A))
 |buildS (len s:Nat) (z:List AV) (ps:List ((Nat×Nat)×A))
 |ld1 (a:A)
 |ldA (k:Nat) (a:A)
 |st (k:Nat) (a x:A)
 |nilc (x:A)
 |bin (op:BinOp) (x y:A)
 |shf (op:BinOp) (x y:A)
 |strb (op:BinOp) (x y:A)
 |gen (op:BinOp) (t:TypeId) (c:Bool) (x y:A)
 |un (op:UnOp) (x:A)
 |cvt (k:IntKind) (x:A)
 |conv (s d:TypeId) (x:A)
 |iface (t:TypeId) (x:A)
 |fn (f:FuncId) (caps:List A)
 |mkMap
 |mkS (size bytes:Nat) (z:List AV) (l c:A)
 |slStr (x:A) (lo hi:Option A)
 |slS (sz:Nat) (x:A) (lo hi:Option A)
 |slA (n sz:Nat) (x:A) (lo hi:Option A)
 |sl3 (t:TypeId) (x:A) (lo hi mx:Option A)
 |fad (off:Nat) (x:A)
 |fld1 (off:Nat) (x:A)
 |fldA (off s:Nat) (x:A)
 |idxA (n s:Nat) (x i:A)
 |idxS (s:Nat) (x i:A)
 |ixA1 (n s:Nat) (x i:A)
 |ixAA (n s:Nat) (x i:A)
 |ixStr (x i:A)
 |look (t:TypeId) (m k:A) (ok:Bool)
 |upd (t:TypeId) (m k v:A)
 |range (x:A)
 |next (x:A)
 |assert (x:A) (t:TypeId)
 |ext (x:A) (i:Nat)
 |len (x:A)
 |lenS (x:A)
 |lenM (x:A)
 |app (size bytes:Nat) (s x:A)
 |bi (b:Builtin) (ts:Array TypeId) (l:List A)
 |pan (x:A)
def O (v:AV):OF:=⟨λ_=>v⟩
def E0:Env:=⟨.e,[]⟩
def Qi (cells:List AV):List ((Nat×Nat)×AV)->Option (List AV)
 |[]=>some cells
 |((off,size),v) :: rest=>
  cond v.plain (cond (Qap (jz v.cells) size) (cond (Qak (Qaw off size) (jz cells))
   (Qi (yA (qX cells off) (yA v.cells (yz cells (Qaw off size)))) rest) none) none) none
def optA (x:Option AV)(d:Nat)(k:Nat->ER):ER:=
 match x with
 |none=>k d
 |some v=>j9 v k
section
variable (P:Program) (ρ:A->AV)
def jB (i:Ins)(st:St):ER:=
 match i with
 |.mv x=>.ok (ρ x) st
 |.pick c a b=>Xw (ρ c) λq=>.ok (cond q (ρ a) (ρ b)) st
 |.alloc z=>Ev.newRow st z
 |.box x=>cond (lall AV.cell (ρ x).cells) (Ev.newRow st (ρ x).cells) .no
 |.build z ps=>jG (Qi z (ps.map λp=>(p.1,ρ p.2))) λcs=>.ok (.agg cs) st
 |.buildS len s z ps=>jG (Qi (yl z len) (ps.map λp=>(p.1,ρ p.2))) λcells=>
  cond (lall AV.cell cells) (force (jz cells) λn=>st.alloc (.row n n cells .e) λb st=>.ok (.slice b 0 len len s true) st) .no
 |.ld1 a=>match ρ a with | .lptr cs o=>cond (Qak (Qax o) (jz cs)) (.ok (qP .bad cs o) st) .no|a=>qy a λb o=>q9 (jh st.h b) λn zl z cs=>cond (Qak (Qax o) n) (.ok (qa zl z cs o) st) .no
 |.ldA k a=>match ρ a with | .lptr cs o=>cond (Qak (Qaw o k) (jz cs)) (.ok (.agg (qX (yz cs o) k)) st) .no|a=>qy a λb o=>q9 (jh st.h b) λn zl z cs=>cond (Qak (Qaw o k) n) (.ok (.agg (jF zl z cs k o)) st) .no
 |.st k a x=>qy (ρ a) λb o=>q9 (jh st.h b) λn zl z cs=>
  cond (Qap (jz (ρ x).cells) k) (cond (Qak (Qaw o k) n) (cond (lall AV.cell (ρ x).cells)
   (st.put b (.row n zl z (j2 (ρ x).cells cs o)) λst=>.ok j1 st) .no) .no) .no
 |.nilc x=>(Ja (O (ρ x))).run E0 st
 |.bin op x y=>match ρ x,ρ y with
  |.int k a,.int k' b=>cond (eqK k k') (jG ((Qa op).run k a b) λv=>.ok v st) .no
  |_,_=>.no
 |.shf op x y=>match ρ x,ρ y with | .int k a,.int _ b=>jG (ZE op k a b) λv=>.ok v st|_,_=>.no
 |.strb op x y=>match ρ x,ρ y with | .str a,.str b=>jG (YW op a b) λv=>.ok v st|_,_=>.no
 |.gen op t c x y=>(zY P op t c (O (ρ x)) (O (ρ y))).run E0 st
 |.un op x=>(Xl op (O (ρ x))).run E0 st
 |.cvt k x=>match ρ x with | .int _ n=>.ok (.int k (Jr k n)) st|_=>.no
 |.conv s d x=>(zK P s d (O (ρ x))).run E0 st
 |.iface t x=>.ok (.iface t (ρ x)) st
 |.fn f caps=>.ok (.fn f (caps.map ρ)) st
 |.mkMap=>st.alloc (.map []) λb st=>.ok (.map b) st
 |.mkS size bytes z l c=>j9 (ρ l) λl=>j9 (ρ c) λc=>
   cond (Qak l c) (cond (Qak (Qar bytes c) 140737488355328) (cond (Qak c 9223372036854775807)
    (force (Qar c size) λn=>st.alloc (.row n size z .e) λb st=>.ok (.slice b 0 l c size true) st) .no) .no) .no
 |.slStr x lo hi=>yS (ρ x) λs=>force (jz s) λn=>optA (lo.map ρ) 0 λl=>optA (hi.map ρ) n λh=>
   cond (Qak l h) (cond (Qak h n) (.ok (.str (qX (yz s l) (QaS h l))) st) .no) .no
 |.slS sz x lo hi=>match ρ x with
  |.nils=>optA (lo.map ρ) 0 λl=>optA (hi.map ρ) 0 λh=>cond (Qap l 0) (cond (Qap h 0) (.ok .nils st) .no) .no
  |.slice b o len cap sz' ex=>optA (lo.map ρ) 0 λl=>optA (hi.map ρ) len λh=>
    cond (Qap sz' sz) (cond (Qak l h) (cond (Qak h cap) (force (QaS h l) λk=>force (Qaw o (Qar l sz)) λo=>force (QaS cap l) λc=>.ok (.slice b o k c sz ex) st) .no) .no) .no
  |.lst n cs=>optA (lo.map ρ) 0 λl=>optA (hi.map ρ) n λh=>
    cond (Qak l h) (cond (Qak h n) (cond (Qak (Qar h sz) (jz cs)) (.ok (.lst (QaS h l) (qX (yz cs (Qar l sz)) (Qar (QaS h l) sz))) st) .no) .no) .no
  |_=>.no
 |.slA n sz x lo hi=>qy (ρ x) λb o=>optA (lo.map ρ) 0 λl=>optA (hi.map ρ) n λh=>
   cond (Qak l h) (cond (Qak h n)
    (force (QaS h l) λk=>force (Qaw o (Qar l sz)) λo=>force (QaS n l) λc=>.ok (.slice b o k c sz true) st) .no) .no
 |.sl3 t x lo hi mx=>(Jx P t (O (ρ x)) (lo.map λa=>O (ρ a)) (hi.map λa=>O (ρ a)) (mx.map λa=>O (ρ a))).run E0 st
 |.fad off x=>match ρ x with | .lptr cs o=>.ok (.lptr cs (Qaw o off)) st|a=>qy a λb o=>force (Qaw o off) λo=>.ok (.ptr b o) st
 |.fld1 off x=>Jf (ρ x) λcs=>cond (Qak (Qax off) (jz cs)) (.ok (qP .bad cs off) st) .no
 |.fldA off s x=>Jf (ρ x) λcs=>.ok (.agg (qX (yz cs off) s)) st
 |.idxA n s x i=>qy (ρ x) λb o=>j9 (ρ i) λi=>cond (Qak (Qax i) n) (force (Qaw o (Qar i s)) λo=>.ok (.ptr b o) st) .no
 |.idxS s x i=>match ρ x with
  |.slice b o len _ _ _=>j9 (ρ i) λi=>cond (Qak (Qax i) len) (force (Qaw o (Qar i s)) λo=>.ok (.ptr b o) st) .no
  |.lst n cs=>j9 (ρ i) λi=>cond (Qak (Qax i) n) (.ok (.lptr cs (Qar i s)) st) .no
  |_=>.no
 |.ixA1 n s x i=>Jf (ρ x) λcs=>j9 (ρ i) λi=>cond (Qak (Qax i) n) (cond (Qak (Qax (Qar i s)) (jz cs)) (.ok (qP .bad cs (Qar i s)) st) .no) .no
 |.ixAA n s x i=>Jf (ρ x) λcs=>j9 (ρ i) λi=>cond (Qak (Qax i) n) (.ok (.agg (qX (yz cs (Qar i s)) s)) st) .no
 |.ixStr x i=>yS (ρ x) λs=>j9 (ρ i) λi=>cond (Qak (Qax i) (jz s)) (.ok (.int .u8 (.ofNat (qP 0 s i))) st) .no
 |.look t m k ok=>(Xf P t (O (ρ m)) (O (ρ k)) ok).run E0 st
 |.upd t m k v=>(Jg P t (O (ρ m)) (O (ρ k)) (O (ρ v))).run E0 st
 |.range x=>yS (ρ x) λs=>st.alloc (.iter s 0) λb st=>.ok (.ptr b 0) st
 |.next x=>(ua (O (ρ x))).run E0 st
 |.assert x t=>(QE P (O (ρ x)) t).run E0 st
 |.ext x i=>match ρ x with | .tup vs=>cond (Qak (Qax i) (jz vs)) (.ok (qP .bad vs i) st) .no|_=>.no
 |.lenS x=>match ρ x with
  |.str s=>force (jz s) λn=>.ok (.int .i64 (.ofNat n)) st
  |.zstr n=>.ok (.int .i64 (.ofNat n)) st
  |_=>.no
 |.len x=>match ρ x with
  |.nils=>.ok (.int .i64 (.ofNat 0)) st
  |.slice _ _ n _ _ _=>.ok (.int .i64 (.ofNat n)) st
  |.lst n _=>.ok (.int .i64 (.ofNat n)) st
  |_=>.no
 |.lenM x=>match ρ x with | .nilm=>.ok (.int .i64 (.ofNat 0)) st | .map r=>Y2 (jh st.h r) λes=>force (jz es) λn=>.ok (.int .i64 (.ofNat n)) st|_=>.no
 |.app size bytes s x=>Js (ρ x) λn=>firstCells st size n (ρ x) λnews=>qN st size bytes (ρ s) n news
 |.bi b ts l=>(qb P b ts (l.map λa=>O (ρ a))).run E0 st
 |.pan x=>match ρ x with | .iface t v=>.pn (.iface t v) st|_=>.no
end
def qk:Operand->Option A
 |.tmp x=>some (.t x)
 |.const v=>some (.c (ofV v))
 |.func f=>some (.c (.fn f []))
 |.global _=>none
def A.val (op:Operand->OF)(env:Env):A->AV
 |.t x=>(op (.tmp x)).run env
 |.c v=>v
structure Fair (op:Operand->OF)(env:Env):Prop where
 const:∀ v,(op (.const v)).run env=ofV v
 func:∀ f,(op (.func f)).run env=.fn f []
theorem ju {op:Operand->OF}{env:Env}(hf:Fair op env){x:Operand}{a:A}(h:qk x=some a):(op x).run env=a.val op env:=by
 cases x with
 |tmp x=>cases h;rfl
 |const v=>cases h;exact hf.const v
 |func f=>cases h;exact hf.func f
 |global g=>cases h
def X1:List Operand->Option (List A)
 |[]=>some []
 |x :: l=>match qk x,X1 l with|some a,some ays=>some (a :: ays)|_,_=>none
theorem wo {op:Operand->OF}{env:Env}(hf:Fair op env):∀ {l:List Operand} {ays:List A},X1 l=some ays->l.map (λx=>(op x).run env)=ays.map (A.val op env)
 |[],ays,h=>by cases h;rfl
 |x :: l,ays,h=>by
  unfold X1 at h;cases h1:qk x with
  |none=>rw[h1] at h;cases h
  |some a=>
   cases h2:X1 l with
   |none=>rw[h1,h2] at h;cases h
   |some bs=>
    rw[h1,h2] at h;cases h;simp only[Qaj];rw[ju hf h1,wo hf h2]
def wn (place:Nat->Option (Nat×Nat)):List (Nat×Operand)->Option (List ((Nat×Nat)×A))
 |[]=>some []
 |(i,x) :: l=>match place i,qk x,wn place l with|some p,some a,some ays=>some ((p,a) :: ays)|_,_,_=>none
theorem wm {op:Operand->OF}{env:Env}(hf:Fair op env){place:Nat->Option (Nat×Nat)}:∀ {l:List (Nat×Operand)} {ays:List ((Nat×Nat)×A)} (cells:List AV),wn place l=some ays->
  X5 cells place (QN env (qE (λp=>(p.1,op p.2)) l))=Qi cells (ays.map λp=>(p.1,p.2.val op env))
 |[],ays,cells,h=>by cases h;rfl
 |(i,x) :: l,ays,cells,h=>by
  unfold wn at h;cases h0:place i with
  |none=>rw[h0] at h;cases h
  |some p=>
   cases h1:qk x with
   |none=>rw[h0,h1] at h;cases h
   |some a=>
    cases h2:wn place l with
    |none=>rw[h0,h1,h2] at h;cases h
    |some bs=>
     rw[h0,h1,h2] at h;cases h;have e:QN env (qE (λp=>(p.1,op p.2)) ((i,x) :: l))=(i,(op x).run env) :: QN env (qE (λp=>(p.1,op p.2)) l):=rfl;rw[e];simp only[X5,h0,Qaj,Qi];rw[ju hf h1];simp only[wm hf _ h2]
def K3:Option Operand->Option (Option A)
 |none=>some none
 |some x=>(qk x).map some
theorem VO {op:Operand->OF}{env:Env}(hf:Fair op env){x:Option Operand}{a:Option A}(h:K3 x=some a):(x.map λx=>(op x).run env)=a.map (A.val op env):=by
 cases x with
 |none=>cases h;rfl
 |some x=>
  simp only[K3,Qbr] at h;obtain⟨b,h1,rfl⟩:=h;simp[ju hf h1]
theorem qW {op:Operand->OF}{env:Env}(hf:Fair op env){x:Option Operand}{a:Option A}(h:K3 x=some a)(d:Nat)(k:Nat->ER) :
  optF (x.map op) d env k=optA (a.map (A.val op env)) d k:=by
 rw[<-VO hf h];cases x<;>rfl
def Qe (P:Program)(o:Op):Option Ins:=
 match o with
 |.move x=>(qk x).map .mv
 |.assign x=>(qk x).map .mv
 |.pick c a b=>(qk c).bind λc=>(qk a).bind λa=>(qk b).map λb=>.pick c a b
 |.alloc t=>(zeroCells P t).bind λz=>cond (lall AV.cell z) (some (.alloc z)) none
 |.box _ x=>(qk x).map .box
 |.build t ps=>(zeroCells P t).bind λz=>(match P.underlying t with
  |some (.struct fields)=>cond (fields.toList.all λf=>(Ev.sizeOf P f.type).isSome) ((wn (WC P fields) ps.toList).map λps=>.build z ps) none
  |some (.array _ e)=>(Ev.sizeOf P e).bind λs=>(wn (λi=>some (Qar i s,s)) ps.toList).map λps=>.build z ps
  |_=>none)
 |.buildSlice t n ps=>(Ev.elemOf P t).bind λe=>(Ev.sizeOf P e).bind λs=>(zeroCells P e).bind λz=>
  cond (cond (Qak (Qar n s) 16777216) (Qap (jz z) s) false) ((wn (λi=>some (Qar i s,s)) ps.toList).map λps=>.buildS n s z ps) none
 |.load t a=>(qk a).bind λa=>(match Ev.isAgg P t,Ev.sizeOf P t with
  |some true,some k=>some (.ldA k a)
  |some false,some _=>some (.ld1 a)
  |_,_=>none)
 |.store t a x=>(qk a).bind λa=>(qk x).bind λx=>(Ev.sizeOf P t).map λk=>.st k a x
 |.nilCheck x=>(qk x).map .nilc
 |.binOp b t x y _=>(qk x).bind λa=>(qk y).map λa'=>(match P.underlying t with
  |some (.int _)=>(match b with | .shl=>.shf b a a' | .shr=>.shf b a a'|_=>.bin b a a')
  |some .string=>.strb b a a'
  |_=>.gen b t (Region.isConst x ||Region.isConst y) a a')
 |.unOp b _ x=>(qk x).map λx=>.un b x
 |.convert s d x=>(qk x).map λx=>(match P.underlying s,P.underlying d with
  |some (.int _),some (.int k)=>.cvt k x
  |_,_=>.conv s d x)
 |.makeInterface t x=>(qk x).bind λx=>(match P.underlying t with|some (.interface _)=>none|some _=>some (.iface t x)|none=>none)
 |.makeFunc (.func f) first caps=>(match first.toList with|[]=>(X1 caps.toList).map λl=>.fn f l|_=>none)
 |.makeMap _ none=>some .mkMap
 |.makeSlice t l c=>(qk l).bind λl=>(qk c).bind λc=>(Ev.elemOf P t).bind λe=>(P.info? e).bind λi=>(zeroCells P e).bind λz=>
  cond (cond (lall AV.cell z) (Qap (jz z) i.size) false) (some (.mkS i.size i.bytes z l c)) none
 |.slice t x lo hi mx=>(qk x).bind λx=>(K3 lo).bind λlo=>(K3 hi).bind λhi=>(match mx with
  |some mx=>(qk mx).map λmx=>.sl3 t x lo hi (some mx)
  |none=>(match P.underlying t with
   |some .string=>some (.slStr x lo hi)
   |some (.slice e)=>(Ev.sizeOf P e).map λsz=>.slS sz x lo hi
   |some (.array n e)=>(Ev.sizeOf P e).map λsz=>.slA n sz x lo hi
   |_=>none))
 |.fieldAddr s x f=>(qk x).bind λx=>(match P.underlying s with
  |some (.struct fields)=>(fields[f]?).bind λf=>(match Ev.sizeOf P f.type with|some (_+1)=>some (.fad f.offset x)|_=>none)
  |_=>none)
 |.field s x f=>(qk x).bind λx=>(match P.underlying s with
  |some (.struct fields)=>(fields[f]?).bind λf=>(match Ev.isAgg P f.type,Ev.sizeOf P f.type with
   |some true,some s=>some (.fldA f.offset s x)
   |some false,_=>some (.fld1 f.offset x)
   |_,_=>none)
  |_=>none)
 |.indexAddr t x i=>(qk x).bind λx=>(qk i).bind λi=>(match P.underlying t with
  |some (.array n e)=>(Ev.sizeOf P e).map λs=>.idxA n s x i
  |some (.slice e)=>(Ev.sizeOf P e).map λs=>.idxS s x i
  |_=>none)
 |.index t x i=>(qk x).bind λx=>(qk i).bind λi=>(match P.underlying t with
  |some (.array n e)=>(match Ev.isAgg P e,Ev.sizeOf P e with
   |some true,some s=>some (.ixAA n s x i)
   |some false,some s=>some (.ixA1 n s x i)
   |_,_=>none)
  |some .string=>some (.ixStr x i)
  |_=>none)
 |.lookup t m k ok=>(qk m).bind λm=>(qk k).map λk=>.look t m k ok
 |.mapUpdate t m k v=>(qk m).bind λm=>(qk k).bind λk=>(qk v).map λv=>.upd t m k v
 |.range t x=>(qk x).bind λx=>(match P.underlying t with|some .string=>some (.range x)|_=>none)
 |.next it true=>(qk it).map .next
 |.typeAssert x _ t true=>(qk x).map λx=>.assert x t
 |.extract x i=>(qk x).map λx=>.ext x i
 |.call c=>(match c.callee with
  |.builtin b=>(X1 c.args.toList).bind λl=>(match b,l,c.argTypes.toList with
   |.len,[x],t :: _=>(match P.underlying t with
    |some .string=>some (.lenS x)
    |some (.slice _)=>some (.len x)
    |some (.map _ _)=>some (.lenM x)
    |_=>some (.bi b c.argTypes l))
   |.append,[s,x],t :: u :: _=>(Ev.elemOf P t).bind λe=>(P.info? e).bind λi=>(zeroCells P e).bind λz=>
     cond (cond (lall AV.cell z) (Qap (jz z) i.size) false) (match P.underlying u with
      |some (.slice _)=>some (.app i.size i.bytes s x)
      |some .string=>some (.app i.size i.bytes s x)
      |_=>some (.bi b c.argTypes l)) none
   |_,_,_=>some (.bi b c.argTypes l))
  |_=>none)
 |.panic x=>(qk x).map .pan
 |_=>none
end Go.Sy
end
noncomputable section
namespace Go.Sy
open Go.Ev Go.RowKit
section
variable {P:Program} {op:Operand->OF} {env:Env} {st:St}
theorem bind_some {α β:Type}{x:Option α}{f:α->Option β}{b:β}(h:x.bind f=some b):∃ a,x=some a/\f a=some b:=by
 cases x with
 |none=>cases h
 |some a=>exact⟨a,rfl,h⟩
theorem map_some {α β:Type}{x:Option α}{f:α->β}{b:β}(h:x.map f=some b):∃ a,x=some a/\f a=b:=by
 cases x with
 |none=>cases h
 |some a=>cases h;exact⟨a,rfl,rfl⟩
theorem zH {b:Bool}{α:Type}{x:Option α}{y:α}(h:cond b x none=some y):b=true/\x=some y:=by
 cases b
 ·cases h
 ·exact⟨rfl,h⟩
theorem UD {t:TypeId}{k:Nat}{a:OF}(h1:Ev.isAgg P t=some true)(h2:Ev.sizeOf P t=some k) :
  (QO P t a).run env st=(match a.run env with | .lptr cs o=>cond (Qak (Qaw o k) (jz cs)) (.ok (.agg (qX (yz cs o) k)) st) .no|a=>qy a λb o=>q9 (jh st.h b) λn zl z cs=>cond (Qak (Qaw o k) n) (.ok (.agg (jF zl z cs k o)) st) .no):=by
 unfold QO qn;rw[h1,h2];dsimp only;generalize a.run env=v;cases v<;>try rfl
 rotate_left
 ·rename_i cs o;dsimp only;cases Qak (Qaw o k) (jz cs)<;>rfl
 rename_i b o;simp only[qy,q9];cases jh st.h b with
 |none=>rfl
 |some ob=>
  cases ob<;>try rfl
  rename_i n zl z cs;dsimp only;cases Qak (Qaw o k) n<;>rfl
theorem UC {t:TypeId}{k:Nat}{a:OF}(h1:Ev.isAgg P t=some false)(h2:Ev.sizeOf P t=some k) :
  (QO P t a).run env st=(match a.run env with | .lptr cs o=>cond (Qak (Qax o) (jz cs)) (.ok (qP .bad cs o) st) .no|a=>qy a λb o=>q9 (jh st.h b) λn zl z cs=>cond (Qak (Qax o) n) (.ok (qa zl z cs o) st) .no):=by
 unfold QO qn;rw[h1,h2];dsimp only;generalize a.run env=v;cases v<;>try rfl
 rotate_left
 ·rename_i cs o;dsimp only;cases Qak (Qax o) (jz cs)<;>rfl
 rename_i b o;simp only[qy,q9];cases jh st.h b with
 |none=>rfl
 |some ob=>
  cases ob<;>try rfl
  rename_i n zl z cs;dsimp only;cases Qak (Qax o) n<;>rfl
theorem jb7 (t:TypeId)(m k:OF)(ok:Bool):(Xf P t m k ok).run env st=(Xf P t (O (m.run env)) (O (k.run env)) ok).run E0 st:=by
 unfold Xf;split
 ·split<;>rfl
 ·rfl
theorem K0 (t:TypeId)(m k v:OF):(Jg P t m k v).run env st=(Jg P t (O (m.run env)) (O (k.run env)) (O (v.run env))).run E0 st:=by
 unfold Jg;split<;>rfl
theorem jf7 (x:OF):(ua x).run env st=(ua (O (x.run env))).run E0 st:=rfl
theorem Gp (x:OF):(Ja x).run env st=(Ja (O (x.run env))).run E0 st:=rfl
theorem jcN (x:OF)(t:TypeId):(QE P x t).run env st=(QE P (O (x.run env)) t).run E0 st:=by
 unfold QE;split
 ·rfl
 ·split<;>rfl
theorem jfT (b:UnOp)(x:OF):(Xl b x).run env st=(Xl b (O (x.run env))).run E0 st:=by
 unfold Xl;cases b<;>rfl
theorem jaJ (s d:TypeId)(x:OF):(zK P s d x).run env st=(zK P s d (O (x.run env))).run E0 st:=by
 unfold zK;split
 ·rfl
 ·rfl
 ·split<;>rfl
 ·split<;>rfl
 ·rfl
theorem jeu (b:BinOp)(t:TypeId)(c:Bool)(x y:OF):(zY P b t c x y).run env st=(zY P b t c (O (x.run env)) (O (y.run env))).run E0 st:=by
 unfold zY;split
 ·split<;>rfl
 ·split<;>rfl
 ·rfl
 ·cases P.eqGuardType P.depth t
  ·simp only[cond_false];split<;>rfl
  ·rfl
theorem jdC (t:TypeId)(x:OF)(lo hi mx:Option OF) :
  (Jx P t x lo hi mx).run env st=(Jx P t (O (x.run env)) (lo.map λa=>O (a.run env)) (hi.map λa=>O (a.run env)) (mx.map λa=>O (a.run env))).run E0 st:=by
 unfold Jx;cases mx<;>cases hi<;>cases lo<;>simp only[QaK,Qbm];all_goals
  split
  ·rfl
  ·split<;>rfl
  ·split<;>rfl
  ·rfl
theorem jhF (t:TypeId)(x:OF):(XI P t x).run env st=(XI P t (O (x.run env))).run E0 st:=by
 unfold XI;split<;>rfl
theorem jh2 (t:TypeId)(x:OF):(vC P t x).run env st=(vC P t (O (x.run env))).run E0 st:=by
 unfold vC;split<;>rfl
theorem jcQ (t u:TypeId)(s x:OF):(Jp P t u s x).run env st=(Jp P t u (O (s.run env)) (O (x.run env))).run E0 st:=by
 unfold Jp;split
 ·split
  ·generalize cond _ _ false=cc;cases cc
   ·rfl
   ·simp only[cond_true];split<;>rfl
  ·rfl
 ·rfl
theorem jgl (t:TypeId)(s x:OF):(wz P t s x).run env st=(wz P t (O (s.run env)) (O (x.run env))).run E0 st:=by
 unfold wz;split
 ·split<;>rfl
 ·rfl
theorem jb9 (l:List OF):qE (λx:OF=>x.run E0) (l.map λa=>O (a.run env))=qE (λx:OF=>x.run env) l:=by
 rw[ya,ya,Qbv];rfl
theorem jaN (b:Builtin)(ts:Array TypeId)(l:List OF):(qb P b ts l).run env st=(qb P b ts (l.map λa=>O (a.run env))).run E0 st:=by
 unfold qb;cases b;case len=>rcases l with _|⟨x,_|⟨y,l⟩⟩<;>cases ts.toList<;>first|rfl|exact jhF _ _
 case cap=>rcases l with _|⟨x,_|⟨y,l⟩⟩<;>cases ts.toList<;>first|rfl|exact jh2 _ _
 case append=>rcases l with _|⟨x,_|⟨y,_|⟨z,l⟩⟩⟩<;>rcases ts.toList with _|⟨t,_|⟨u,r⟩⟩<;>first|rfl|exact jcQ _ _ _ _
 case copy=>rcases l with _|⟨x,_|⟨y,_|⟨z,l⟩⟩⟩<;>cases ts.toList<;>first|rfl|exact jgl _ _ _
 case min=>
  cases l with
  |nil=>rfl
  |cons x l=>
   show(jG (Jt min2 (x.run env) (qE (λx:OF=>x.run env) l)) λv=>ER.ok v st)=jG (Jt min2 (x.run env) (qE (λx:OF=>x.run E0) (l.map λa=>O (a.run env)))) λv=>ER.ok v st;rw[jb9]
 case max=>
  cases l with
  |nil=>rfl
  |cons x l=>
   show(jG (Jt max2 (x.run env) (qE (λx:OF=>x.run env) l)) λv=>ER.ok v st)=jG (Jt max2 (x.run env) (qE (λx:OF=>x.run E0) (l.map λa=>O (a.run env)))) λv=>ER.ok v st;rw[jb9]
 all_goals(rcases l with _|⟨x,_|⟨y,_|⟨z,l⟩⟩⟩<;>rfl)
theorem jd5 (hf:Fair op env){o:Op}{i:Ins}(h:Qe P o=some i):(je P op o).run env st=jB P (A.val op env) i st:=by
 cases o<;>simp only[Qe] at h<;>try(cases h;done)
 case move x=>obtain⟨a,h1,rfl⟩:=map_some h;simp only[je,jB,ju hf h1]
 case assign x=>obtain⟨a,h1,rfl⟩:=map_some h;simp only[je,jB,ju hf h1]
 case pick c a b=>
  obtain⟨c',h1,h⟩:=bind_some h;obtain⟨a',h2,h⟩:=bind_some h;obtain⟨b',h3,rfl⟩:=map_some h;simp only[je,jB,ju hf h1,ju hf h2,ju hf h3];try rfl
 case alloc t=>
  obtain⟨z,h1,h⟩:=bind_some h;obtain⟨h2,h⟩:=zH h;cases h;simp only[je,jB,h1,h2,cond_true];try rfl
 case box t x=>obtain⟨a,h1,rfl⟩:=map_some h;simp only[je,jB,ju hf h1]
 case build t ps=>
  obtain⟨z,h1,h⟩:=bind_some h;simp only[je,vF,h1];split at h
  ·rename_i fields hu;obtain⟨h2,h⟩:=zH h;obtain⟨l,h3,rfl⟩:=map_some h;simp only[hu,h2,cond_true,jB];rw[wm hf z h3]
  ·rename_i n e hu;obtain⟨s,h2,h⟩:=bind_some h;obtain⟨l,h3,rfl⟩:=map_some h;simp only[hu,h2,jB];rw[wm hf z h3]
  ·cases h
 case buildSlice t n ps=>
  obtain⟨e,h1,h⟩:=bind_some h;obtain⟨s,h2,h⟩:=bind_some h;obtain⟨z,h3,h⟩:=bind_some h;obtain⟨h4,h⟩:=zH h;obtain⟨l,h5,rfl⟩:=map_some h;simp only[je,Xt,h1,h2,h3,h4,cond_true,jB];try rfl
  rw[wm hf _ h5]
 case load t a=>
  obtain⟨a',h1,h⟩:=bind_some h;simp only[je];split at h
  ·rename_i k h2 h3;cases h;rw[UD h2 h3,ju hf h1];rfl
  ·rename_i k h2 h3;cases h;rw[UC h2 h3,ju hf h1];rfl
  ·cases h
 case store t a x=>
  obtain⟨a',h1,h⟩:=bind_some h;obtain⟨x',h2,h⟩:=bind_some h;obtain⟨k,h3,rfl⟩:=map_some h;simp only[je,KE,h3,jB,ju hf h1,ju hf h2];try rfl
 case nilCheck x=>
  obtain⟨a,h1,rfl⟩:=map_some h;simp only[je,jB];try rfl
  rw[Gp,ju hf h1]
 case binOp b t x y c=>
  obtain⟨a,h1,h⟩:=bind_some h;obtain⟨a',h2,rfl⟩:=map_some h;simp only[je];split
  ·rename_i k hu;split
   ·simp only[zY,hu,jB,ju hf h1,ju hf h2];try rfl
   ·simp only[zY,hu,jB,ju hf h1,ju hf h2];try rfl
   ·rename_i hn1 hn2;unfold zY;rw[hu];dsimp only;cases b<;>first|(exact absurd rfl hn1)|(exact absurd rfl hn2)|(simp only[jB,ju hf h1,ju hf h2];try rfl)
  ·rename_i hu;simp only[zY,hu,jB,ju hf h1,ju hf h2];try rfl
   try rfl
  ·simp only[jB];rw[jeu,ju hf h1,ju hf h2]
 case unOp b t x=>
  obtain⟨a,h1,rfl⟩:=map_some h;simp only[je,jB];try rfl
  rw[jfT,ju hf h1]
 case convert s d x=>
  obtain⟨a,h1,rfl⟩:=map_some h;simp only[je];split
  ·rename_i k1 k2 hu1 hu2;simp only[zK,hu1,hu2,jB,ju hf h1];try rfl
  ·simp only[jB];rw[jaJ,ju hf h1]
 case makeInterface t x=>
  obtain⟨a,h1,h⟩:=bind_some h;simp only[je];split at h
  ·cases h
  ·rename_i hu hn;cases h;split
   ·rename_i hu2;rw[hu2] at hn;cases hn;exact absurd rfl (hu _)
   ·simp only[jB,ju hf h1]
   ·rename_i hu2;rw[hu2] at hn;cases hn
  ·cases h
 case makeFunc f first caps=>
  cases f<;>simp only[Qe] at h<;>try(cases h;done)
  split at h
  ·rename_i hfst;obtain⟨l,h1,rfl⟩:=map_some h;simp only[je,hfst,jB,ya,wo hf h1];try rfl
  ·cases h
 case makeMap t r=>
  cases r<;>simp only[Qe] at h<;>try(cases h;done)
  cases h;rfl
 case makeSlice t l c=>
  obtain⟨l',h1,h⟩:=bind_some h;obtain⟨c',h2,h⟩:=bind_some h;obtain⟨e,h3,h⟩:=bind_some h;obtain⟨i,h4,h⟩:=bind_some h;obtain⟨z,h5,h⟩:=bind_some h;obtain⟨h6,h⟩:=zH h;cases h;simp only[je,X0,h3,h4,h5,h6,cond_true,jB,ju hf h1,ju hf h2];try rfl
 case slice t x lo hi mx=>
  obtain⟨x',h1,h⟩:=bind_some h;obtain⟨lo',h2,h⟩:=bind_some h;obtain⟨hi',h3,h⟩:=bind_some h;simp only[je];cases mx with
  |some mx=>
   obtain⟨mx',h4,rfl⟩:=map_some h;rw[jdC];simp only[jB,ju hf h1,Option.map_map,QaK,ju hf h4];have e1:(lo.map ((λa=>O (a.run env)) ∘ op))=lo'.map λa=>O (A.val op env a):=by
    have:=congrArg (Option.map O) (VO hf h2);simpa[Option.map_map,Qcl] using this
   have e2:(hi.map ((λa=>O (a.run env)) ∘ op))=hi'.map λa=>O (A.val op env a):=by
    have:=congrArg (Option.map O) (VO hf h3);simpa[Option.map_map,Qcl] using this
   rw[e1,e2]
  |none=>
   simp only[Qbm];dsimp only at h;split at h
   ·rename_i hu;cases h;simp only[Jx,hu,jB,ju hf h1,qW hf h2,qW hf h3];try rfl
   ·rename_i e hu;obtain⟨sz,h5,rfl⟩:=map_some h;simp only[Jx,hu,h5,jB,ju hf h1,qW hf h2,qW hf h3];try rfl
   ·rename_i n e hu;obtain⟨sz,h5,rfl⟩:=map_some h;simp only[Jx,hu,h5,jB,ju hf h1,qW hf h2,qW hf h3];try rfl
   ·cases h
 case fieldAddr s x f=>
  obtain⟨x',h1,h⟩:=bind_some h;split at h
  ·rename_i fields hu;obtain⟨fl,h2,h⟩:=bind_some h;split at h
   ·rename_i n h3;cases h;simp only[je,QP,hu,h2,h3,jB,ju hf h1];generalize A.val op env x'=u;cases u<;>rfl
   ·cases h
  ·cases h
 case field s x f=>
  obtain⟨x',h1,h⟩:=bind_some h;split at h
  ·rename_i fields hu;obtain⟨fl,h2,h⟩:=bind_some h;split at h
   ·rename_i s' h3 h4;cases h;simp only[je,ZQ,hu,h2,jB,ju hf h1,yE,h3,h4,Qbc,cond_true,QaK];try rfl
    try rfl
   ·rename_i h3;cases h;simp only[je,ZQ,hu,h2,jB,ju hf h1,yE,h3,Qbc,cond_false];try rfl
    congr 1
    funext cs
    cases Qak (Qax fl.offset) (jz cs)<;>rfl
   ·cases h
  ·cases h
 case indexAddr t x i=>
  obtain⟨x',h1,h⟩:=bind_some h;obtain⟨i',h2,h⟩:=bind_some h;split at h
  ·rename_i n e hu;obtain⟨s,h3,rfl⟩:=map_some h;simp only[je,JQ,hu,h3,jB,ju hf h1,ju hf h2];try rfl
  ·rename_i e hu;obtain⟨s,h3,rfl⟩:=map_some h;simp only[je,JQ,hu,h3,jB,ju hf h1,ju hf h2];try rfl
  ·cases h
 case index t x i=>
  obtain⟨x',h1,h⟩:=bind_some h;obtain⟨i',h2,h⟩:=bind_some h;split at h
  ·rename_i n e hu;split at h
   ·rename_i s h3 h4;cases h;simp only[je,YM,hu,h4,jB,ju hf h1,ju hf h2,yE,h3,Qbc,cond_true,QaK];try rfl
    try rfl
   ·rename_i s h3 h4;cases h;simp only[je,YM,hu,h4,jB,ju hf h1,ju hf h2,yE,h3,Qbc,cond_false];try rfl
    congr 1
    funext cs
    congr 1
    funext j
    congr 1
    cases Qak (Qax (Qar j s)) (jz cs)<;>rfl
   ·cases h
  ·rename_i hu;cases h;simp only[je,YM,hu,jB,ju hf h1,ju hf h2];try rfl
  ·cases h
 case lookup t m k ok=>
  obtain⟨m',h1,h⟩:=bind_some h;obtain⟨k',h2,rfl⟩:=map_some h;simp only[je,jB];try rfl
  rw[jb7,ju hf h1,ju hf h2]
 case mapUpdate t m k v=>
  obtain⟨m',h1,h⟩:=bind_some h;obtain⟨k',h2,h⟩:=bind_some h;obtain⟨v',h3,rfl⟩:=map_some h;simp only[je,jB];try rfl
  rw[K0,ju hf h1,ju hf h2,ju hf h3]
 case range t x=>
  obtain⟨x',h1,h⟩:=bind_some h;split at h
  ·rename_i hu;cases h;simp only[je,hu,jB,ju hf h1];try rfl
  ·cases h
 case next it s=>
  cases s<;>simp only[Qe] at h<;>try(cases h;done)
  obtain⟨x',h1,rfl⟩:=map_some h;simp only[je,jB];try rfl
  rw[jf7,ju hf h1]
 case panic x=>
  obtain⟨a,h1,rfl⟩:=Go.Sy.map_some h;simp only[je,jB,ju hf h1];try rfl
 case typeAssert x s t ok=>
  cases ok<;>simp only[Qe] at h<;>try(cases h;done)
  obtain⟨x',h1,rfl⟩:=map_some h;simp only[je,jB];try rfl
  rw[jcN,ju hf h1]
 case extract x i=>
  obtain⟨x',h1,rfl⟩:=map_some h;simp only[je,jB,ju hf h1];try rfl
 case call c=>
  split at h
  ·rename_i b hb;obtain⟨l,h1,h⟩:=bind_some h;have hl:=wo hf h1;have gen:(je P op (.call c)).run env st=(qb P b c.argTypes (l.map λa=>O (A.val op env a))).run E0 st:=by
    simp only[je,hb];rw[jaN,ya,Qbv]
    congr 2
    have:=congrArg (List.map O) hl;simpa[Qbv,Qcl] using this
   rw[gen];split at h
   ·rename_i x t r hts hts2;have hb1:∀ v:AV,(qb P .len c.argTypes [O v]).run E0 st=(XI P t (O v)).run E0 st:=by
     intro v;unfold qb;rw[hts]
    simp only[Qaj,Qam];split at h
    ·rename_i hu;cases h;rw[hb1];unfold XI;rw[hu];rfl
    ·rename_i e hu;cases h;rw[hb1];unfold XI;rw[hu];rfl
    ·rename_i k e hu;cases h;rw[hb1];unfold XI;rw[hu];rfl
    ·cases h;rfl
   ·rename_i s x t u r hts hts2;obtain⟨e,h2,h⟩:=bind_some h;obtain⟨i',h3,h⟩:=bind_some h;obtain⟨z,h4,h⟩:=bind_some h;obtain⟨h5,h⟩:=zH h;have hb1:∀ v v':AV,(qb P .append c.argTypes [O v,O v']).run E0 st=(Jp P t u (O v) (O v')).run E0 st:=by
     intro v v';unfold qb;rw[hts]
    simp only[Qaj,Qam];split at h
    ·rename_i e' hu;cases h;rw[hb1];unfold Jp;simp only[h2,h3,h4,h5,cond_true,hu];rfl
    ·rename_i hu;cases h;rw[hb1];unfold Jp;simp only[h2,h3,h4,h5,cond_true,hu];rfl
    ·cases h;rfl
   ·cases h;rfl
  ·cases h
end
end Go.Sy
end
noncomputable section
namespace Go.Sy
open Go.Ev Go.RowKit
inductive IC where
 |i (i:Ins)
 |call (f:A) (l:List A)
inductive RV where
 |t (x:Nat)
 |c1 (a:Nat)
 |cA (a k:Nat)
def jd6 (ops:Array Oper)(o:Oper):Option (Option (Nat×Bool)):=
 match o.guard with
 |none=>some none
 |some (j,want)=>((ops[j]?).bind (·.dst)).map λd=>some (d,want)
def K2 (P:Program)(o:Op):Option (Option (Option A)):=
 match jC P o with
 |.pure=>some none
 |.makes=>some none
 |.reads=>(match o with | .load _ a=>(qk a).map λa=>some (some a)|_=>none)
 |.writes=>some (some none)
 |.other=>some (some none)
def calm (P:Program)(ops:Array Oper):Nat->List Oper->Bool
 |_,[]=>true
 |i,o :: l=>cond (ye P ops i o) false (cond (Ev.partners P ops (j8 i) i o).isEmpty (calm P ops (i+1) l) false)
def jd4 (P:Program):ResultVar->Option RV
 |.tmp t=>some (.t t)
 |.cell a t=>(match Ev.isAgg P t,Ev.sizeOf P t with
  |some true,some k=>some (.cA a k)
  |some false,some _=>some (.c1 a)
  |_,_=>none)
def WL (P:Program):List ResultVar->Option (List RV)
 |[]=>some []
 |r :: l=>(jd4 P r).bind λr=>(WL P l).map λl=>r :: l
abbrev Sl:=List (Nat×AV)
def look (x:Nat):Sl->AV
 |[]=>.bad
 |(k,v) :: L=>cond (Qap k x) v (look x L)
def has (x:Nat):Sl->Bool
 |[]=>false
 |(k,_) :: L=>cond (Qap k x) true (has x L)
structure En where
 l:Sl
 g:Sl
def En.look (e:En)(x:Nat):AV:=cond (has x e.l) (Sy.look x e.l) (Sy.look x e.g)
def En.has (e:En)(x:Nat):Bool:=cond (Sy.has x e.l) true (Sy.has x e.g)
def vl (e:En):A->AV
 |.t x=>e.look x
 |.c v=>v
def okA (e:En):A->Bool
 |.t x=>e.has x
 |.c _=>true
def qC (dst:Option Nat)(keep:Bool)(v:AV)(e:En):En:=
 match dst with
 |some d=>⟨(d,v) :: e.l,cond keep ((d,v) :: e.g) e.g⟩
 |none=>e
def oA (x:Option A):List A:=match x with|some a=>[a]|none=>[]
def XJ:Ins->List A
 |.mv x=>[x] | .pick c a b=>[c,a,b] | .alloc _=>[] | .box x=>[x] | .build _ ps=>ps.map (·.2) | .buildS _ _ _ ps=>ps.map (·.2)
 |.ld1 a=>[a] | .ldA _ a=>[a] | .st _ a x=>[a,x] | .nilc x=>[x] | .bin _ x y=>[x,y] | .shf _ x y=>[x,y] | .strb _ x y=>[x,y] | .gen _ _ _ x y=>[x,y]
 |.un _ x=>[x] | .cvt _ x=>[x] | .conv _ _ x=>[x] | .iface _ x=>[x] | .fn _ l=>l | .mkMap=>[] | .mkS _ _ _ l c=>[l,c]
 |.slStr x lo hi=>x :: (oA lo ++ oA hi) | .slS _ x lo hi=>x :: (oA lo ++ oA hi) | .slA _ _ x lo hi=>x :: (oA lo ++ oA hi) | .sl3 _ x lo hi mx=>x :: (oA lo ++ oA hi ++ oA mx)
 |.fad _ x=>[x] | .fld1 _ x=>[x] | .fldA _ _ x=>[x] | .idxA _ _ x i=>[x,i] | .idxS _ x i=>[x,i] | .ixA1 _ _ x i=>[x,i] | .ixAA _ _ x i=>[x,i] | .ixStr x i=>[x,i]
 |.look _ m k _=>[m,k] | .upd _ m k v=>[m,k,v] | .range x=>[x] | .next x=>[x] | .assert x _=>[x] | .ext x _=>[x] | .len x=>[x] | .lenS x=>[x] | .lenM x=>[x]
 |.app _ _ s x=>[s,x] | .bi _ _ l=>l | .pan x=>[x]
abbrev Res {α:Sort _}(_:α):Type:=Prop
def jd (r:ER)(K:AV->St->Prop):Res K:=
 match r with
 |.ok v st=>K v st
 |_=>False
def wI (P:Program)(i:Ins)(e:En)(st:St)(K:AV->St->Prop):Res (i,K):=
 (XJ i).all (okA e)=true/\jd (jB P (vl e) i st) K
structure Bs where
 run:qd
 pur:FuncId->Nat
structure Bs.at0 (base:Bs)(f:FuncId)(args:List AV)(st:St):Prop where
 run:base.run f args st=.no
 pur:base.pur f=0
def wj (m:Nat)(run:List AV->St->ER)(args:List AV)(st:St):ER:=
 match m with
 |0=>run args st
 |1=>kD run args st
 |3=>kJ run args st
 |5=>kM run args st
 |_=>jed run args st
theorem jf8 {P:Program}{f:FuncId}{run:List AV->St->ER}(h:JV P f run)(m:Nat):JV P f (wj m run):=by
 unfold wj;split
 ·exact h
 ·exact jf4 h
 ·exact jd2 h
 ·exact jge h
 ·exact jhI h
def evC (P:Program)(base:Bs)(n:Nat):Nat->qd
 |0=>λ_ _ _=>.no
 |d+1=>λf args st=>match base.run f args st with
  |.no=>wj (base.pur f) (λargs st=>(JT P f).run (evC P base n d) n args st) args st
  |r=>r
theorem jcy {P:Program}(hok:okP P=true)(hdraw:QY P){base:Bs}(hb:zt P base.run)(n:Nat):∀ d,zt P (evC P base n d)
 |0=>λf args st ι w vs _ _=>trivial
 |d+1=>λf args st ι w vs hs hv=>by
  have h1:=hb f args st ι w vs hs hv;have h0:JV P f λargs st=>(JT P f).run (evC P base n d) n args st:=λargs st ι w vs hs hv=>gP hok (jcy hok hdraw hb n d) hdraw n f args st ι w vs hs hv;have h2:=jf8 h0 (base.pur f) args st ι w vs hs hv;show match evC P base n (d+1) f args st with | .no=>True | .ok v st'=>_ | .pn v st'=>_
  simp only[evC];cases hr:base.run f args st with
  |no=>exact h2
  |ok v st'=>rw[hr] at h1;exact h1
  |pn v st'=>rw[hr] at h1;exact h1
def CW (P:Program)(base:Bs)(f:FuncId)(args:List AV)(st:St)(K:AV->St->Prop):Res K:=
 ∃ v st',(∃ N D,∀ n,N<=n->∀ d,D<=d->evC P base n d f args st=.ok v st')/\K v st'
theorem CW.mono {P:Program}{base:Bs}{f:FuncId}{args:List AV}{st:St}{K K':AV->St->Prop}(h:CW P base f args st K)(hk:∀ v st',K v st'->K' v st'):CW P base f args st K':=by
 obtain⟨v,st',h1,h2⟩:=h;exact⟨v,st',h1,hk v st' h2⟩
section
variable (P:Program) (base:Bs)
def jii (f:A)(l:List A)(e:En)(st:St)(K:AV->St->Prop):Res K:=
 okA e f=true/\l.all (okA e)=true/\(match vl e f with
  |.fn f caps=>CW P base f (l.map (vl e) ++ caps) st λv st'=>K v (back st st')
  |_=>False)
def wK (k:IC)(e:En)(st:St)(K:AV->St->Prop):Res (k,K):=
 match k with
 |.i i=>wI P i e st K
 |.call f l=>jii P base f l e st K
def gW (g:Option (Nat×Bool))(e:En)(a b:Prop):Res (a,b):=
 match g with
 |none=>a
 |some (x,want)=>e.has x=true/\(match e.look x with | .bool q=>(match q == want with|true=>a|false=>b) | .bad=>False|_=>b)
def teW (te:Option (Option A))(e:En)(v:AV)(st st':St):TE:=
 match te with
 |none=>.none
 |some none=>.wr st.h st'.h
 |some (some a)=>.rd (vl e a) v
inductive Out where
 |go (L:Sl) (st:St)
 |ex (id:Nat) (L:Sl) (st:St)
 |rt (L:Sl) (st:St)
def JY (k:Sl->St->Prop)(Q:Out->Prop):Out->Res (k,Q)
 |.go L st=>k L st
 |o=>Q o
def qV (id:Nat)(Q:Out->Prop):Out->Res Q
 |.ex i L st=>cond (Qap i id) (Q (.go L st)) (Q (.ex i L st))
 |o=>Q o
def Y9 (v:AV)(a b:Prop):Res (a,b):=match v with | .bool true=>a | .bool false=>b|_=>False
def Z3 (w:Sl->St->(Out->Prop)->Prop):Nat->Sl->St->(Out->Prop)->Prop
 |0,_,_,_=>False
 |n+1,L,st,Q=>w L st (JY (λL' st'=>Z3 w n L' st' Q) Q)
def KM (r:RV)(L:Sl)(st:St)(K:AV->Prop):Res K:=
 match r with
 |.t x=>has x L=true/\K (look x L)
 |.c1 a=>has a L=true/\jd (jB P (λ_=>look a L) (.ld1 (.t a)) st) λv _=>K v
 |.cA a k=>has a L=true/\jd (jB P (λ_=>look a L) (.ldA k (.t a)) st) λv _=>K v
def qS:(l:List RV)->Sl->St->(K:List AV->Prop)->Res (l,K)
 |[],L,st,K=>K []
 |r :: l,L,st,K=>KM P r L st λv=>qS l L st λvs=>K (v :: vs)
def XM (res:List RV)(K:AV->St->Prop):Out->Res K
 |.go L st=>qS P res L st λvs=>K (yF vs) st.bare
 |.rt L st=>qS P res L st λvs=>K (yF vs) st.bare
 |.ex _ _ _=>False
def jn (ps:List Nat)(args:List AV):Sl:=ps.map λi=>(i,args.getD i j1)
end
end Go.Sy
end
noncomputable section
namespace Go.Sy
open Go.Ev Go.RowKit
theorem jb5 {ρ ρ':A->AV}{ps:List ((Nat×Nat)×A)}(h:∀ a∈ps.map (·.2),ρ a=ρ' a):(ps.map λp=>(p.1,ρ p.2))=ps.map λp=>(p.1,ρ' p.2):=
 Qbl λp hp=>by rw[h p.2 (List.mem_map.2 ⟨p,hp,rfl⟩)]
theorem ZM {ρ ρ':A->AV}{x:Option A}(h:∀ a∈oA x,ρ a=ρ' a):x.map ρ=x.map ρ':=by
 cases x with
 |none=>rfl
 |some a=>simp[h a (by simp[oA])]
theorem KZ {ρ ρ':A->AV}{x:Option A}(h:∀ a∈oA x,ρ a=ρ' a):(x.map λa=>O (ρ a))=x.map λa=>O (ρ' a):=by
 cases x with
 |none=>rfl
 |some a=>simp[h a (by simp[oA])]
theorem Gt {P:Program}{ρ ρ':A->AV}{i:Ins}{st:St}(h:∀ a∈XJ i,ρ a=ρ' a):jB P ρ i st=jB P ρ' i st:=by
 cases i<;>simp only[XJ] at h<;>simp only[jB];case build z ps=>rw[jb5 h]
 case buildS len s z ps=>rw[jb5 h]
 case fn f l=>rw[Qbl h]
 case bi b ts l=>
  have:(l.map λa=>O (ρ a))=l.map λa=>O (ρ' a):=Qbl λa ha=>by rw[h a ha]
  rw[this]
 case slStr x lo hi=>rw[h x (by simp),ZM (x:=lo) λa ha=>h a (by simp[ha]),ZM (x:=hi) λa ha=>h a (by simp[ha])]
 case slS sz x lo hi=>rw[h x (by simp),ZM (x:=lo) λa ha=>h a (by simp[ha]),ZM (x:=hi) λa ha=>h a (by simp[ha])]
 case slA n sz x lo hi=>rw[h x (by simp),ZM (x:=lo) λa ha=>h a (by simp[ha]),ZM (x:=hi) λa ha=>h a (by simp[ha])]
 case sl3 t x lo hi mx=>rw[h x (by simp),KZ (x:=lo) λa ha=>h a (by simp[ha]),KZ (x:=hi) λa ha=>h a (by simp[ha]),KZ (x:=mx) λa ha=>h a (by simp[ha])]
 all_goals
  first
  |rfl
  |(simp only[Qbp,List.mem_singleton,List.not_mem_nil,or_false,forall_eq_or_imp,forall_eq] at h;first
   |(obtain⟨h1,h2,h3⟩:=h;rw[h1,h2,h3];done)
   |(obtain⟨h1,h2⟩:=h;rw[h1,h2];done)
   |(rw[h];done))
def Fr1 (F:St->ER):Prop:=∀ st v st',F st=.ok v st'->st'.fr=st.fr
theorem Fr1.no:Fr1 λ_=>.no:=λst v st' h=>by cases h
theorem Fr1.pn {f:St->AV}:Fr1 λst=>.pn (f st) st:=λst v st' h=>by cases h
theorem Fr1.ok (v:AV):Fr1 λst=>.ok v st:=λst v' st' h=>by cases h;rfl
theorem Fr1.cond {b:Bool}{F G:St->ER}(hF:Fr1 F)(hG:Fr1 G):Fr1 λst=>cond b (F st) (G st):=by cases b<;>assumption
theorem Fr1.bool {x:AV}{F:Bool->St->ER}(h:∀ b,Fr1 (F b)):Fr1 λst=>Xw x λb=>F b st:=by
 cases x<;>first|exact h _|exact Fr1.no
theorem Fr1.ptr {x:AV}{F:Nat->Nat->St->ER}(h:∀ b o,Fr1 (F b o)):Fr1 λst=>qy x λb o=>F b o st:=by
 cases x<;>first|exact h _ _|exact Fr1.no
theorem Fr1.agg {x:AV}{F:List AV->St->ER}(h:∀ b,Fr1 (F b)):Fr1 λst=>Jf x λb=>F b st:=by
 cases x<;>first|exact h _|exact Fr1.no
theorem Fr1.str {x:AV}{F:List Nat->St->ER}(h:∀ b,Fr1 (F b)):Fr1 λst=>yS x λb=>F b st:=by
 cases x<;>first|exact h _|exact Fr1.no
theorem Fr1.some {α:Type}{x:Option α}{F:α->St->ER}(h:∀ b,Fr1 (F b)):Fr1 λst=>jG x λb=>F b st:=by
 cases x<;>first|exact h _|exact Fr1.no
theorem Fr1.nat {x:AV}{F:Nat->St->ER}(h:∀ b,Fr1 (F b)):Fr1 λst=>j9 x λb=>F b st:=by
 unfold j9;split
 ·simp only[jo];exact h _
 ·exact Fr1.no
theorem Fr1.len {x:AV}{F:Nat->St->ER}(h:∀ b,Fr1 (F b)):Fr1 λst=>Js x λb=>F b st:=by
 unfold Js;split
 ·exact h _
 ·exact h _
 ·exact h _
 ·simp only[jo];exact h _
 ·exact Fr1.no
theorem Fr1.force {n:Nat}{F:Nat->St->ER}(h:∀ b,Fr1 (F b)):Fr1 λst=>force n λb=>F b st:=by
 simp only[jo];exact h _
theorem Fr1.optF {x:Option OF}{d:Nat}{env:Env}{F:Nat->St->ER}(h:∀ b,Fr1 (F b)):Fr1 λst=>optF x d env λb=>F b st:=by
 cases x
 ·exact h _
 ·exact Fr1.nat h
theorem Fr1.optA {x:Option AV}{d:Nat}{F:Nat->St->ER}(h:∀ b,Fr1 (F b)):Fr1 λst=>optA x d λb=>F b st:=by
 cases x
 ·exact h _
 ·exact Fr1.nat h
theorem Fr1.row {b:Nat}{F:Nat->Nat->List AV->T AV->St->ER}(h:∀ n zl z cs,Fr1 (F n zl z cs)):Fr1 λst=>q9 (jh st.h b) λn zl z cs=>F n zl z cs st:=λst v st' e=>by
 dsimp only at e;cases hg:jh st.h b with
 |none=>rw[hg] at e;cases e
 |some o=>
  rw[hg] at e;cases o<;>first|(cases e;done)|exact h _ _ _ _ st v st' e
theorem Fr1.map {b:Nat}{F:List (AV×AV)->St->ER}(h:∀ es,Fr1 (F es)):Fr1 λst=>Y2 (jh st.h b) λes=>F es st:=λst v st' e=>by
 dsimp only at e;cases hg:jh st.h b with
 |none=>rw[hg] at e;cases e
 |some o=>
  rw[hg] at e;cases o<;>first|(cases e;done)|exact h _ st v st' e
theorem Fr1.alloc (o:AO){F:Nat->AV}:Fr1 λst=>st.alloc o λb st=>.ok (F b) st:=λst v st' h=>by
 dsimp only at h;rw[St.alloc_eq] at h;cases h;rfl
theorem Fr1.put (b:Nat)(o:AO){F:St->ER}(hF:Fr1 F):Fr1 λst=>st.put b o F:=λst v st' h=>by
 dsimp only at h;rw[St.put_eq] at h;have:=hF _ v st' h;exact this
theorem Fr1.newRow (l:List AV):Fr1 λst=>Ev.newRow st l:=by
 unfold Ev.newRow;exact Fr1.force λn=>Fr1.alloc _
theorem Fr1.cells {size n:Nat}{x:AV}{F:List AV->St->ER}(h:∀ l,Fr1 (F l)):Fr1 λst=>firstCells st size n x λl=>F l st:=by
 unfold firstCells;cases x;case slice=>exact Fr1.row λm zl z cs=>Fr1.force λc=>Fr1.cond (h _) Fr1.no
 case nils=>exact h _
 case str=>exact h _
 case lst=>exact Fr1.cond (h _) Fr1.no
 all_goals exact Fr1.no
theorem Fr1.app (size bytes:Nat)(s:AV)(n:Nat)(news:List AV):Fr1 λst=>qN st size bytes s n news:=by
 unfold qN;refine Fr1.cond ?_ Fr1.no;cases s;case nils=>exact Fr1.cond (Fr1.ok _) (Fr1.cond (Fr1.cond (Fr1.force λm=>Fr1.alloc _) Fr1.no) Fr1.no)
 case slice b o sl cap sz ex=>
  refine Fr1.force λneed=>Fr1.row λm zl z cs=>Fr1.cond (Fr1.cond (Fr1.ok _) (Fr1.cond (Fr1.put _ _ (Fr1.ok _)) Fr1.no)) (Fr1.cond (Fr1.cond ?_ Fr1.no) Fr1.no);exact Fr1.cond (Fr1.force λk=>Fr1.cond (Fr1.force λt=>Fr1.alloc _) Fr1.no) (Fr1.cond (Fr1.cond (Fr1.cond (Fr1.put _ _ (Fr1.force λt=>Fr1.alloc _)) Fr1.no) Fr1.no) Fr1.no)
 case xlst=>exact Fr1.cond Fr1.no (Fr1.force λneed=>Fr1.cond (Fr1.cond (Fr1.cond (Fr1.force λt=>Fr1.alloc _) Fr1.no) Fr1.no) Fr1.no)
 all_goals exact Fr1.no
theorem Fr1.of_pu {F:St->ER}(h:Pu F):Fr1 F:=λst v st' e=>by rw[(h st v st' e).1]
theorem jek (P:Program)(ρ:A->AV)(i:Ins):Fr1 λst=>jB P ρ i st:=by
 cases i;case mv x=>exact Fr1.ok _
 case pick c a b=>exact Fr1.bool λq=>Fr1.ok _
 case alloc z=>exact Fr1.newRow _
 case box x=>exact Fr1.cond (Fr1.newRow _) Fr1.no
 case build z ps=>exact Fr1.some λcs=>Fr1.ok _
 case buildS len s z ps=>exact Fr1.some λcells=>Fr1.cond (Fr1.force λn=>Fr1.alloc _) Fr1.no
 case ld1 a=>
  simp only[jB];generalize ρ a=u;cases u;case lptr=>exact Fr1.cond (Fr1.ok _) Fr1.no
  all_goals exact Fr1.ptr λb o=>Fr1.row λn zl z cs=>Fr1.cond (Fr1.ok _) Fr1.no
 case ldA k a=>
  simp only[jB];generalize ρ a=u;cases u;case lptr=>exact Fr1.cond (Fr1.ok _) Fr1.no
  all_goals exact Fr1.ptr λb o=>Fr1.row λn zl z cs=>Fr1.cond (Fr1.ok _) Fr1.no
 case st k a x=>exact Fr1.ptr λb o=>Fr1.row λn zl z cs=>Fr1.cond (Fr1.cond (Fr1.cond (Fr1.put _ _ (Fr1.ok _)) Fr1.no) Fr1.no) Fr1.no
 case nilc x=>exact Fr1.of_pu (uD _)
 case bin op x y=>
  simp only[jB];generalize ρ x=u;generalize ρ y=v;cases u<;>cases v<;>first|exact Fr1.no|exact Fr1.cond (Fr1.some λ_=>Fr1.ok _) Fr1.no
 case shf op x y=>
  simp only[jB];generalize ρ x=u;generalize ρ y=v;cases u<;>cases v<;>first|exact Fr1.no|exact Fr1.some λ_=>Fr1.ok _
 case strb op x y=>
  simp only[jB];generalize ρ x=u;generalize ρ y=v;cases u<;>cases v<;>first|exact Fr1.no|exact Fr1.some λ_=>Fr1.ok _
 case gen op t c x y=>exact Fr1.of_pu (KS _ _ _ _ _)
 case un op x=>exact Fr1.of_pu (GX _ _)
 case cvt k x=>
  simp only[jB];generalize ρ x=u;cases u<;>first|exact Fr1.no|exact Fr1.ok _
 case conv s d x=>
  simp only[jB];unfold zK;split
  ·dsimp only[O];generalize ρ x=u;cases u<;>first|exact Fr1.no|exact Fr1.ok _
  ·exact Fr1.str λs=>Fr1.ok _
  ·split
   ·dsimp only[O];generalize ρ x=u;cases u;case nils=>exact Fr1.ok _
    case slice b o len cap sz ex=>
     refine Fr1.row λn zl z cs=>Fr1.cond (Fr1.cond (Fr1.some λs=>Fr1.ok _) ?_) Fr1.no;split
     ·exact Fr1.cond (Fr1.ok _) Fr1.no
     ·exact Fr1.no
    all_goals exact Fr1.no
   ·exact Fr1.no
  ·split
   ·exact Fr1.str λs=>Fr1.force λn=>Fr1.alloc _
   ·exact Fr1.no
  ·exact Fr1.no
 case iface t x=>exact Fr1.ok _
 case fn f l=>exact Fr1.ok _
 case mkMap=>exact Fr1.alloc _
 case mkS size bytes z l c=>exact Fr1.nat λl=>Fr1.nat λc=>Fr1.cond (Fr1.cond (Fr1.cond (Fr1.force λn=>Fr1.alloc _) Fr1.no) Fr1.no) Fr1.no
 case slStr x lo hi=>exact Fr1.str λs=>Fr1.force λn=>Fr1.optA λl=>Fr1.optA λh=>Fr1.cond (Fr1.cond (Fr1.ok _) Fr1.no) Fr1.no
 case slS sz x lo hi=>
  simp only[jB];generalize ρ x=u;cases u;case nils=>exact Fr1.optA λl=>Fr1.optA λh=>Fr1.cond (Fr1.cond (Fr1.ok _) Fr1.no) Fr1.no
  case slice=>exact Fr1.optA λl=>Fr1.optA λh=>Fr1.cond (Fr1.cond (Fr1.cond (Fr1.force λ_=>Fr1.force λ_=>Fr1.force λ_=>Fr1.ok _) Fr1.no) Fr1.no) Fr1.no
  case lst=>exact Fr1.optA λl=>Fr1.optA λh=>Fr1.cond (Fr1.cond (Fr1.cond (Fr1.ok _) Fr1.no) Fr1.no) Fr1.no
  all_goals exact Fr1.no
 case slA n sz x lo hi=>exact Fr1.ptr λb o=>Fr1.optA λl=>Fr1.optA λh=>Fr1.cond (Fr1.cond (Fr1.force λ_=>Fr1.force λ_=>Fr1.force λ_=>Fr1.ok _) Fr1.no) Fr1.no
 case sl3 t x lo hi mx=>exact Fr1.of_pu (KP _ _ _ _ _)
 case fad off x=>
  simp only[jB];generalize ρ x=u;cases u;case lptr=>exact Fr1.ok _
  all_goals exact Fr1.ptr λb o=>Fr1.force λ_=>Fr1.ok _
 case fld1 off x=>exact Fr1.agg λcs=>Fr1.cond (Fr1.ok _) Fr1.no
 case fldA off s x=>exact Fr1.agg λcs=>Fr1.ok _
 case idxA n s x i=>exact Fr1.ptr λb o=>Fr1.nat λi=>Fr1.cond (Fr1.force λ_=>Fr1.ok _) Fr1.no
 case idxS s x i=>
  simp only[jB];generalize ρ x=u;cases u;case slice=>exact Fr1.nat λi=>Fr1.cond (Fr1.force λ_=>Fr1.ok _) Fr1.no
  case lst=>exact Fr1.nat λi=>Fr1.cond (Fr1.ok _) Fr1.no
  all_goals exact Fr1.no
 case ixA1 n s x i=>exact Fr1.agg λcs=>Fr1.nat λi=>Fr1.cond (Fr1.cond (Fr1.ok _) Fr1.no) Fr1.no
 case ixAA n s x i=>exact Fr1.agg λcs=>Fr1.nat λi=>Fr1.cond (Fr1.ok _) Fr1.no
 case ixStr x i=>exact Fr1.str λs=>Fr1.nat λi=>Fr1.cond (Fr1.ok _) Fr1.no
 case look t m k ok=>
  simp only[jB];unfold Xf;split
  ·split
   ·dsimp only[O];generalize ρ m=u;cases u;case nilm=>exact Fr1.cond (Fr1.ok _) Fr1.no
    case map r=>
     refine Fr1.cond (Fr1.map λes=>Fr1.some λo=>?_) Fr1.no;cases o<;>exact Fr1.ok _
    all_goals exact Fr1.no
   ·exact Fr1.no
  ·exact Fr1.no
 case upd t m k v=>
  simp only[jB];unfold Jg;split
  ·dsimp only[O];generalize ρ m=u;cases u;case map r=>exact Fr1.cond (Fr1.map λes=>Fr1.some λes=>Fr1.put _ _ (Fr1.ok _)) Fr1.no
   all_goals exact Fr1.no
  ·exact Fr1.no
 case range x=>exact Fr1.str λs=>Fr1.alloc _
 case next x=>
  intro st v st' h;simp only[jB,ua] at h;generalize (O (ρ x)).run E0=u at h;cases u<;>try(cases h;done)
  rename_i r o;simp only[qy] at h;cases hb:Qap o 0
  ·rw[hb] at h;cases h
  ·rw[hb] at h;simp only[cond_true] at h;split at h
   ·rename_i s pos hg;cases hb2:Qak (jz s) pos
    ·rw[hb2] at h;simp only[cond_false,jo] at h;generalize Qak (qP 0 s pos) 127=q at h;cases q
     ·cases h
     ·simp only[cond_true,St.put_eq] at h;cases h;rfl
    ·rw[hb2] at h;cases h;rfl
   ·cases h
 case assert x t=>
  simp only[jB];unfold QE;split
  ·exact Fr1.no
  ·split
   ·dsimp only[O];generalize ρ x=u;cases u;case nilif=>exact Fr1.ok _
    case iface=>exact Fr1.some λb=>Fr1.cond (Fr1.ok _) (Fr1.ok _)
    all_goals exact Fr1.no
   ·dsimp only[O];generalize ρ x=u;cases u;case nilif=>exact Fr1.ok _
    case iface=>exact Fr1.cond (Fr1.ok _) (Fr1.ok _)
    all_goals exact Fr1.no
   ·exact Fr1.no
 case pan x=>
  simp only[jB];generalize ρ x=u;cases u;case iface t v=>exact Fr1.pn (f:=λ_=>.iface t v)
  all_goals exact Fr1.no
 case ext x i=>
  simp only[jB];generalize ρ x=u;cases u;case tup=>exact Fr1.cond (Fr1.ok _) Fr1.no
  all_goals exact Fr1.no
 case len x=>
  simp only[jB];generalize ρ x=u;cases u;case nils=>exact Fr1.ok _
  case slice=>exact Fr1.ok _
  case lst=>exact Fr1.ok _
  all_goals exact Fr1.no
 case lenS x=>
  simp only[jB];generalize ρ x=u;cases u;case str=>exact Fr1.force λ_=>Fr1.ok _
  case zstr=>exact Fr1.ok _
  all_goals exact Fr1.no
 case lenM x=>
  simp only[jB];generalize ρ x=u;cases u;case nilm=>exact Fr1.ok _
  case map=>exact Fr1.map λes=>Fr1.force λ_=>Fr1.ok _
  all_goals exact Fr1.no
 case app size bytes s x=>exact Fr1.len λn=>Fr1.cells λl=>Fr1.app _ _ _ _ _
 case bi b ts l=>
  simp only[jB];unfold qb;split
  ·unfold XI;split
   ·dsimp only;generalize OF.run _ E0=v;cases v;case str=>exact Fr1.force λ_=>Fr1.ok _
    case zstr=>exact Fr1.ok _
    all_goals exact Fr1.no
   ·exact Fr1.ok _
   ·dsimp only;generalize OF.run _ E0=v;cases v;case nils=>exact Fr1.ok _
    case slice=>exact Fr1.ok _
    case lst=>exact Fr1.ok _
    all_goals exact Fr1.no
   ·dsimp only;generalize OF.run _ E0=v;cases v;case nilm=>exact Fr1.ok _
    case map=>exact Fr1.map λes=>Fr1.force λ_=>Fr1.ok _
    all_goals exact Fr1.no
   ·exact Fr1.no
  ·unfold vC;split
   ·dsimp only;generalize OF.run _ E0=v;cases v;case nils=>exact Fr1.ok _
    case slice b o n c sz ex=>cases ex<;>first|exact Fr1.no|exact Fr1.ok _
    all_goals exact Fr1.no
   ·exact Fr1.no
  ·unfold Jp;split
   ·split
    ·generalize cond _ _ false=cc;cases cc
     ·exact Fr1.no
     ·simp only[cond_true];split
      ·exact Fr1.nat λn=>Fr1.cond (Fr1.cond (Fr1.app _ _ _ _ _) Fr1.no) Fr1.no
      ·exact Fr1.len λn=>Fr1.cells λl=>Fr1.app _ _ _ _ _
      ·exact Fr1.len λn=>Fr1.cells λl=>Fr1.app _ _ _ _ _
      ·exact Fr1.no
    ·exact Fr1.no
   ·exact Fr1.no
  ·unfold wz;split
   ·split
    ·refine Fr1.len λn0=>?_;generalize OF.run _ E0=v;cases v;case nils=>exact Fr1.ok _
     case slice=>exact Fr1.force λn=>Fr1.cells λcells=>Fr1.row λm zl z cs=>Fr1.cond (Fr1.put _ _ (Fr1.ok _)) Fr1.no
     all_goals exact Fr1.no
    ·exact Fr1.no
   ·exact Fr1.no
  ·exact Fr1.some λv=>Fr1.ok _
  ·exact Fr1.some λv=>Fr1.ok _
  ·exact Fr1.no
end Go.Sy
end
noncomputable section
namespace Go.Sy
open Go.Ev Go.RowKit
structure HasO (U:Nat)(ns:List Nat)(t:T AV)(rs:List AV)(e:En):Prop where
 l:∀ x,has x e.l=true->(jy U ns (.tmp x)).run ⟨t,rs⟩=look x e.l
 g:∀ x,has x e.g=true->inU U x=true/\(jy U ns (.tmp x)).run ⟨t,rs⟩=look x e.g
 len:ns.length=rs.length
def z6 (U:Nat)(t:T AV)(L:Sl):Prop:=∀ x,has x L=true->inU U x=true/\yH t x=look x L
section
variable {P:Program} {base:Bs} {U:Nat} {ns:List Nat} {t:T AV} {rs:List AV} {e:En} {st:St}
theorem WG (U:Nat)(ns:List Nat)(t:T AV)(rs:List AV)(x:Nat):(jy U ns (.tmp x)).run ⟨t,rs⟩=match idx x ns with
  |some i=>rs.getD i .bad
  |none=>cond (inU U x) (yH t x) .bad:=by
 simp only[jy,VI];cases idx x ns with
 |some i=>simp only[QaK,yL]
 |none=>
  simp only[Qbm];cases inU U x
  ·rfl
  ·simp only[cond_true,yH];cases (Jq (jv x)).run t<;>rfl
theorem HasO.of_t {L:Sl}(h:z6 U t L):HasO U [] t [] ⟨[],L⟩:=by
 refine⟨(λx hx=>by cases hx),λx hx=>?_,rfl⟩;obtain⟨h1,h2⟩:=h x hx;refine⟨h1,?_⟩;rw[WG];simp only[idx,h1,cond_true,h2]
theorem HasO.val (h:HasO U ns t rs e){a:A}(ha:okA e a=true):A.val (jy U ns) ⟨t,rs⟩ a=vl e a:=by
 cases a with
 |c v=>rfl
 |t x=>
  simp only[okA,En.has] at ha;simp only[A.val,vl,En.look];cases hl:has x e.l
  ·rw[hl] at ha;exact(h.g x ha).2
  ·exact h.l x hl
theorem u6 (U:Nat)(ns:List Nat)(t:T AV)(rs:List AV):Fair (jy U ns) ⟨t,rs⟩:=⟨λ_=>rfl,λ_=>rfl⟩
theorem KW (d:Nat)(v:AV)(x:Nat):(jy U (j6 (some d) ns) (.tmp x)).run ⟨t,(yf (some d)).run v rs⟩=if d=x then v else(jy U ns (.tmp x)).run ⟨t,rs⟩:=by
 rw[WG,WG];simp only[j6,yf,idx];by_cases h:d=x
 ·rw[if_pos h,if_pos h];rfl
 ·rw[if_neg h,if_neg h];cases idx x ns with
  |none=>rfl
  |some i=>simp
theorem yN (k:Nat)(v:AV)(L:Sl)(x:Nat):has x ((k,v) :: L)=(decide (k=x) ||has x L):=by
 simp only[has];by_cases h:k=x
 ·have:Qap k x=true:=by rw[qh];exact h
  rw[this];simp[h]
 ·have:Qap k x=false:=by
   cases hb:Qap k x
   ·rfl
   ·rw[qh] at hb;exact absurd hb h
  rw[this];simp[h]
theorem ym (k:Nat)(v:AV)(L:Sl)(x:Nat):look x ((k,v) :: L)=if k=x then v else look x L:=by
 simp only[look];by_cases h:k=x
 ·have:Qap k x=true:=by rw[qh];exact h
  rw[this,if_pos h];rfl
 ·have:Qap k x=false:=by
   cases hb:Qap k x
   ·rfl
   ·rw[qh] at hb;exact absurd hb h
  rw[this,if_neg h];rfl
theorem HasO.push (h:HasO U ns t rs e)(dst:Option Nat)(v:AV) :
  HasO U (j6 dst ns) t ((yf dst).run v rs) (qC dst (match dst with|some d=>inU U d|none=>false) v e):=by
 cases dst with
 |none=>exact h
 |some d=>
  simp only[qC];refine⟨λx hx=>?_,λx hx=>?_,by simp[j6,yf,h.len]⟩
  ·rw[KW,ym];rw[yN] at hx;by_cases hd:d=x
   ·rw[if_pos hd,if_pos hd]
   ·rw[if_neg hd,if_neg hd];simp[hd] at hx;exact h.l x hx
  ·rw[KW];cases hk:inU U d
   ·rw[hk] at hx;simp only[cond_false] at hx ⊢;obtain⟨h1,h2⟩:=h.g x hx;have:¬ d=x:=λe=>by rw[e,h1] at hk;cases hk
    rw[if_neg this];exact⟨h1,h2⟩
   ·rw[hk] at hx;simp only[cond_true] at hx ⊢;rw[ym];rw[yN] at hx;by_cases hd:d=x
    ·rw[if_pos hd,if_pos hd];exact⟨by rw[<-hd];exact hk,rfl⟩
    ·rw[if_neg hd,if_neg hd];simp[hd] at hx;exact h.g x hx
theorem HasO.flush (h:HasO U ns t rs e):z6 U ((yW U ns).run rs t) e.g:=by
 intro x hx;obtain⟨h1,h2⟩:=h.g x hx;refine⟨h1,?_⟩;rw[vo U ns rs t h.len x h1];rw[WG,h1] at h2;cases hi:idx x ns with
 |none=>rw[hi] at h2;exact h2
 |some i=>rw[hi] at h2;exact h2
theorem jeL (h:HasO U ns t rs e){o:Op}{i:Ins}(hl:Qe P o=some i){K:AV->St->Prop}(hw:wI P i e st K) :
  ∃ v st',(je P (jy U ns) o).run ⟨t,rs⟩ st=.ok v st'/\st'.fr=st.fr/\K v st':=by
 obtain⟨h1,h2⟩:=hw;rw[jd5 (u6 U ns t rs) hl,Gt (ρ':=vl e) λa ha=>h.val (by rw[QaG] at h1;exact h1 a ha)];unfold jd at h2;cases hr:jB P (vl e) i st with
 |no=>rw[hr] at h2;exact h2.elim
 |pn v s=>rw[hr] at h2;exact h2.elim
 |ok v s=>rw[hr] at h2;exact⟨v,s,rfl,jek P _ i st v s hr,h2⟩
theorem kP (h:HasO U ns t rs e){ops:Array Oper}{o:Oper}{g:Option (Nat×Bool)}(hl:jd6 ops o=some g){a b:Prop}(hw:gW g e a b) :
  (qG (jy U ns) ops o=none/\a)\/∃ wf,qG (jy U ns) ops o=some wf/\((wf.run ⟨t,rs⟩=some true/\a)\/(wf.run ⟨t,rs⟩=some false/\b)):=by
 unfold jd6 at hl;unfold qG;cases hg:o.guard with
 |none=>
  rw[hg] at hl;cases hl;exact .inl ⟨rfl,hw⟩
 |some jw=>
  obtain⟨j,want⟩:=jw;rw[hg] at hl;obtain⟨d,h1,rfl⟩:=Go.Sy.map_some hl;right;simp only[h1];obtain⟨h2,h3⟩:=hw;have hv:=h.val (a:=.t d) h2;simp only[A.val,vl] at hv;refine⟨_,rfl,?_⟩;dsimp only;rw[hv];cases hk:e.look d<;>rw[hk] at h3<;>first|(exact h3.elim;done)|(exact .inr ⟨rfl,h3⟩;done)|skip
  rename_i q;cases q<;>cases want<;>simp at h3 ⊢<;>exact h3
theorem HasO.fn (h:HasO U ns t rs e){f:Operand}{fa:A}{args:List Operand}{l:List A}(h1:qk f=some fa)(h2:X1 args=some l)(h3:okA e fa=true)(h4:l.all (okA e)=true) :
  (jy U ns f).run ⟨t,rs⟩=vl e fa/\args.map (λx=>(jy U ns x).run ⟨t,rs⟩)=l.map (vl e):=by
 refine⟨(ju (u6 U ns t rs) h1).trans (h.val h3),(wo (u6 U ns t rs) h2).trans (Qbl λa ha=>h.val ?_)⟩;rw[QaG] at h4;exact h4 a ha
theorem YY {ops:Array Oper}{fin:List Nat->RD}{pan:Nat->List Nat->List Nat->AV->St->RD}{abs:Nat->Bool}(i:Nat)(l es ns:List Nat){o:Oper}(ho:ops[i]? = some o) :
  qO P U ops fin pan abs (i :: l) es ns=cond (abs i) (vT o.dst (qO P U ops fin pan abs l (i :: es) (j6 o.dst ns)))
   (Jl (qG (jy U ns) ops o) o.dst (zw P (jy U ns) (ye P ops i o) (Ev.partners P ops es i o) o (qO P U ops fin pan abs l (i :: es) (j6 o.dst ns)) (pan i es ns))
    (qO P U ops fin pan abs l (i :: es) (j6 o.dst ns))):=by
 have:qO P U ops fin pan abs (i :: l) es ns=(match ops[i]? with
  |some o=>cond (abs i) (vT o.dst (qO P U ops fin pan abs l (i :: es) (j6 o.dst ns)))
   (Jl (qG (jy U ns) ops o) o.dst (zw P (jy U ns) (ye P ops i o) (Ev.partners P ops es i o) o (qO P U ops fin pan abs l (i :: es) (j6 o.dst ns)) (pan i es ns))
    (qO P U ops fin pan abs l (i :: es) (j6 o.dst ns)))
  |none=>XP):=rfl
 rw[this,ho]
theorem VK {op:Operand->OF}{o:Op}{env:Env}{v:AV}{st':St}{call:qd}{k:AV->TE->St->R}{kp:AV->St->R}(hc:j5 o=none)(he:(je P op o).run env st=.ok v st')(hr:jC P o=.reads->∃ ty a,o=.load ty a) :
  (opD P op false o).run call env st k kp=k v (zB P op o env v st st') st':=by
 unfold opD zB;rw[hc];dsimp only;cases hcl:jC P o;case reads=>
  obtain⟨ty,a,rfl⟩:=hr hcl;simp only[J6];rw[he]
 all_goals
  simp only[J6,cond_false];rw[he]
theorem JN {o:Op}(h:jC P o=.reads):∃ ty a,o=.load ty a:=by
 cases o<;>simp only[jC] at h<;>try(cases h;done)
 case load ty a=>exact⟨ty,a,rfl⟩
 case call c=>
  exfalso;split at h
  ·split at h
   ·split at h<;>cases h
   ·cases h
  all_goals cases h
theorem KX {op:Operand->OF}{o:Op}{env:Env}{v:AV}{st1:St}{call:qd}{k:AV->TE->St->R}{kp:AV->St->R}{f:Operand}{args:List Operand}{fid:FuncId}{caps:List AV}(hc:j5 o=some (f,args))
  (hf:(op f).run env=.fn fid caps) (he:call fid (yA (qE (λx=>(op x).run env) args) caps) st=.ok v st1) :
  (opD P op false o).run call env st k kp=k v (.wr st.h (back st st1).h) (back st st1):=by
 unfold opD;rw[hc];simp only[cond_false];rw[hf];dsimp only;rw[he];rfl
theorem vw {ops:Array Oper}{i:Nat}{o:Oper}{lo:List Oper}(h:ops.toList.drop i=o :: lo):ops[i]? = some o/\ops.toList.drop (i+1)=lo/\i<ops.size:=by
 have h1:ops.toList[i]? = some o:=by
  have:=congrArg (λl=>l[0]?) h;simpa using this
 have h2:ops[i]? = some o:=by rw[<-QbK];exact h1
 refine⟨h2,?_,(Qay.1 h2).1⟩;have:=congrArg List.tail h;simpa[List.tail_drop] using this
end
end Go.Sy
end
noncomputable section
namespace Go.Sy
open Go.Ev Go.RowKit
def OutR (U:Nat)(st:St)(r:R):Out->Prop
 |.go L s=>∃ t,r=.go t s/\z6 U t L/\s.fr=st.fr
 |.ex id L s=>∃ t,r=.ex id t s/\z6 U t L/\s.fr=st.fr
 |.rt L s=>∃ t,r=.rt t s/\z6 U t L/\s.fr=st.fr
section
variable {P:Program} {base:Bs} {U:Nat}
theorem OutR.fr {st st':St}{r:R}{o:Out}(h:OutR U st' r o)(hf:st'.fr=st.fr):OutR U st r o:=by
 cases o<;>(obtain⟨t,h1,h2,h3⟩:=h;exact⟨t,h1,h2,h3.trans hf⟩)
theorem WM (A:CF)(call:qd)(n k:Nat)(t:T AV)(st:St) :
 Y5 A call n (k+1) t st=match A.run call n t st with | .go env st=>Y5 A call n k env st|r=>r:=rfl
theorem HW {r:ResultVar}{rv:RV}(hl:jd4 P r=some rv){t:T AV}{L:Sl}{st:St}(ht:z6 U t L){K:AV->Prop}(h:KM P rv L st K):∃ v,(Jn P U r).run ⟨t,[]⟩ st=some v/\K v:=by
 have opd:∀ x,has x L=true->(jy U [] (.tmp x)).run ⟨t,[]⟩=look x L:=λx hx=>((HasO.of_t ht).g x hx).2;cases r with
 |tmp x=>
  cases hl;exact⟨_,by simp only[Jn];rw[opd x h.1],h.2⟩
 |cell a ty=>
  simp only[jd4] at hl;simp only[Jn];have conv:∀ (q:ER),(match (qn P ty).run (look a L) st.h with|some v=>ER.ok v st|none=>.no)=q->jd q (λv _=>K v)->∃ v,(qn P ty).run (look a L) st.h=some v/\K v:=by
   intro q h1 h2;cases hk:(qn P ty).run (look a L) st.h with
   |none=>rw[hk] at h1;rw[<-h1] at h2;exact h2.elim
   |some v=>rw[hk] at h1;rw[<-h1] at h2;exact⟨v,rfl,h2⟩
  split at hl
  ·rename_i k h1 h2;cases hl;obtain⟨h3,h4⟩:=h;rw[opd a h3];refine conv _ ?_ h4
   have:=UD (P:=P) (env:=E0) (st:=st) (a:=O (look a L)) h1 h2;unfold QO at this;exact this
  ·rename_i k h1 h2;cases hl;obtain⟨h3,h4⟩:=h;rw[opd a h3];refine conv _ ?_ h4
   have:=UC (P:=P) (env:=E0) (st:=st) (a:=O (look a L)) h1 h2;unfold QO at this;exact this
  ·cases hl
theorem U7 (r:ResultVar)(l:List ResultVar)(env:Env)(st:St):qZ P U (r :: l) env st=match (Jn P U r).run env st,qZ P U l env st with|some v,some vs=>some (v :: vs)|_,_=>none:=rfl
theorem Zm {t:T AV}{L:Sl}{st:St}(ht:z6 U t L):∀ {l:List ResultVar} {rvs:List RV} {K:List AV->Prop},WL P l=some rvs->qS P rvs L st K->∃ vs,qZ P U l ⟨t,[]⟩ st=some vs/\K vs
 |[],rvs,K,hl,h=>by
  cases hl;exact⟨[],rfl,h⟩
 |r :: l,rvs,K,hl,h=>by
  obtain⟨rv,h1,hl⟩:=bind_some hl;obtain⟨rl,h2,rfl⟩:=Go.Sy.map_some hl;obtain⟨v,h3,h4⟩:=HW h1 ht h;obtain⟨vs,h5,h6⟩:=Zm ht h2 h4;exact⟨v :: vs,by rw[U7,h3,h5],h6⟩
theorem XE (x:Nat):∀ (l:List AV) (i:Nat) (t:T AV),yH (yY l i t) x=if i<=x/\x<i+l.length then l.getD (x - i) j1 else yH t x
 |[],i,t=>by
  have:¬ (i<=x/\x<i+([]:List AV).length):=by simp
  rw[if_neg this];rfl
 |v :: l,i,t=>by
  have e:yY (v :: l) i t=yY l (i+1) ((jT (jv i)).run v t):=rfl;rw[e,XE x l];by_cases h:i=x
  ·subst h;rw[if_neg (by omega),if_pos (by simp)];simp[yH,Qw]
  ·by_cases h2:i+1<=x/\x<i+1+l.length
   ·rw[if_pos h2,if_pos (by simp;omega)];obtain⟨k,hk⟩:∃ k,x - i=k+1:=⟨x - i - 1,by omega⟩;rw[hk];have:x - (i+1)=k:=by omega
    rw[this];simp
   ·rw[if_neg h2,if_neg (by simp;omega)];simp[yH,Qw,show ¬ x=i from λe=>h e.symm]
theorem jaB {ps:List Nat}{args:List AV}{x:Nat}(h:has x (jn ps args)=true):x∈ps/\look x (jn ps args)=args.getD x j1:=by
 induction ps with
 |nil=>cases h
 |cons p ps ih=>
  simp only[jn,Qaj] at h ⊢;rw[yN] at h;rw[ym];by_cases hp:p=x
  ·subst hp;simp
  ·rw[if_neg hp];simp[hp] at h;obtain⟨h1,h2⟩:=ih h;exact⟨by simp[h1],h2⟩
theorem CW.calls (hok:okP P=true)(hdraw:QY P)(hb:zt P base.run){f:FuncId}{args:List AV}{st:St}{K:AV->St->Prop}(h:CW P base f args st K){ι:Inj}{w:World}{vs:Array Value}(hs:Sim ι st.h st.nx w)(hv:VRs ι args vs.toList) :
  Calls P f vs w λe w'=>∃ v x st',e=.returned x/\K v st'/\zi ι w st st' v x w':=by
 obtain⟨v,st',⟨N,D,h1⟩,h2⟩:=h;have:=jcy hok hdraw hb N D f args st ι w vs hs hv;rw[h1 N (Qag _) D (Qag _)] at this;exact Calls.mono this.2 λe w' ⟨x,h3,h4⟩=>⟨v,x,st',h3,h2,h4⟩
theorem jb6 {w:Sl->St->(Out->Prop)->Prop}(hmono:∀ L st Q Q',w L st Q->(∀ o,Q o->Q' o)->w L st Q'){Q:Out->Prop}(I:Nat->Sl->St->Prop)
  (step:∀ k L st,I k L st->w L st (JY (λL' st'=>∃ k',k'<k/\I k' L' st') Q)):∀ k L st,I k L st->∃ n,Z3 w n L st Q:=by
 have key:∀ n k,k<n->∀ L st,I k L st->Z3 w n L st Q:=by
  intro n;induction n with
  |zero=>intro k hk;omega
  |succ n ih=>
   intro k hk L st hI;refine hmono _ _ _ _ (step k L st hI) λo ho=>?_;cases o with
   |go L' st'=>
    obtain⟨k',h1,h2⟩:=ho;exact ih k' (by omega) L' st' h2
   |ex i L' st'=>exact ho
   |rt L' st'=>exact ho
 intro k L st hI;exact⟨k+1,key (k+1) k (by omega) L st hI⟩
end
end Go.Sy
end
noncomputable section
namespace Go.Sy
open Go.Ev Go.RowKit
section
variable {P:Program} {base:Bs}
theorem Uy {r:ER}{K K':AV->St->Prop}(h:jd r K)(hk:∀ v st,K v st->K' v st):jd r K':=by
 cases r with
 |no=>exact h
 |ok v st=>exact hk v st h
 |pn v st=>exact h
theorem uj {g:Option (Nat×Bool)}{e:En}{a b a' b':Prop}(h:gW g e a b)(ha:a->a')(hb:b->b'):gW g e a' b':=by
 cases g with
 |none=>exact ha h
 |some p=>
  obtain⟨x,want⟩:=p;obtain⟨h1,h2⟩:=h;refine⟨h1,?_⟩;cases hk:e.look x<;>rw[hk] at h2<;>first|(exact h2.elim;done)|(exact hb h2;done)|skip
  rename_i q;simp only at h2 ⊢;cases hq:(q == want)
  ·rw[hq] at h2;exact hb h2
  ·rw[hq] at h2;exact ha h2
theorem Uh {k k':Sl->St->Prop}{Q Q':Out->Prop}(h1:∀ L st,k L st->k' L st)(h2:∀ o,Q o->Q' o):∀ o,JY k Q o->JY k' Q' o
 |.go L st,h=>h1 L st h
 |.ex i L st,h=>h2 _ h
 |.rt L st,h=>h2 _ h
theorem Gw {id:Nat}{Q Q':Out->Prop}(h2:∀ o,Q o->Q' o):∀ o,qV id Q o->qV id Q' o
 |.go L st,h=>h2 _ h
 |.ex i L st,h=>by
  simp only[qV] at h ⊢;generalize Qap i id=q at h ⊢;cases q
  ·exact h2 _ h
  ·exact h2 _ h
 |.rt L st,h=>h2 _ h
theorem Wj {w:Sl->St->(Out->Prop)->Prop}(hw:∀ L st Q Q',w L st Q->(∀ o,Q o->Q' o)->w L st Q'){Q Q':Out->Prop}(h2:∀ o,Q o->Q' o):∀ n L st,Z3 w n L st Q->Z3 w n L st Q'
 |0,L,st,h=>h
 |n+1,L,st,h=>hw _ _ _ _ h (Uh (λL st=>Wj hw h2 n L st) h2)
theorem nr {p:Prop}(h:p):p:=h
def Gj (p:Prop):Prop:=p
theorem Yl (k:Sl->St->Prop)(Q:Out->Prop)(L:Sl)(st:St):JY k Q (.go L st)=k L st:=nr rfl
theorem vY (k:Sl->St->Prop)(Q:Out->Prop)(i:Nat)(L:Sl)(st:St):JY k Q (.ex i L st)=Q (.ex i L st):=nr rfl
theorem GS (k:Sl->St->Prop)(Q:Out->Prop)(L:Sl)(st:St):JY k Q (.rt L st)=Q (.rt L st):=nr rfl
theorem Un (id:Nat)(Q:Out->Prop)(L:Sl)(st:St):qV id Q (.go L st)=Q (.go L st):=nr rfl
theorem Ul (id:Nat)(Q:Out->Prop)(L:Sl)(st:St):qV id Q (.rt L st)=Q (.rt L st):=nr rfl
theorem wX (id:Nat)(Q:Out->Prop)(L:Sl)(st:St):qV id Q (.ex id L st)=Q (.go L st):=by
 have:Qap id id=true:=by rw[qh]
 simp only[qV,this,cond_true]
theorem Um {i id:Nat}(h:i≠id)(Q:Out->Prop)(L:Sl)(st:St):qV id Q (.ex i L st)=Q (.ex i L st):=by
 have:Qap i id=false:=by
  cases hb:Qap i id
  ·rfl
  ·rw[qh] at hb;exact absurd hb h
 simp only[qV,this,cond_false]
theorem jf2 (a b:Prop):Y9 (.bool true) a b=a:=nr rfl
theorem jf3 (a b:Prop):Y9 (.bool false) a b=b:=nr rfl
def onG (v:AV)(want:Bool)(a b:Prop):Res (a,b):=
 match v with
 |.bool q=>(match q == want with|true=>a|false=>b)
 |.bad=>False
 |_=>b
def on1 (e:En)(x:A)(F:AV->Prop):Res F:=okA e x=true/\F (vl e x)
theorem jht (w:Bool)(a b:Prop):onG j1 w a b=b:=nr rfl
theorem HZ (e:En)(v:AV)(F:AV->Prop):on1 e (.c v) F=F v:=by simp[on1,okA,vl]
theorem HX (x:Nat)(v:AV)(l g:Sl)(F:AV->Prop):on1 ⟨(x,v) :: l,g⟩ (.t x) F=F v:=by
 simp[on1,okA,vl,En.has,En.look,yN,ym]
theorem jbP {k x:Nat}(h:k≠x)(v:AV)(l g:Sl)(F:AV->Prop):on1 ⟨(k,v) :: l,g⟩ (.t x) F=on1 ⟨l,g⟩ (.t x) F:=by
 simp[on1,okA,vl,En.has,En.look,yN,ym,h]
theorem HY (x:Nat)(v:AV)(g:Sl)(F:AV->Prop):on1 ⟨[],(x,v) :: g⟩ (.t x) F=F v:=by
 simp[on1,okA,vl,En.has,En.look,yN,ym,has]
theorem jbQ {k x:Nat}(h:k≠x)(v:AV)(g:Sl)(F:AV->Prop):on1 ⟨[],(k,v) :: g⟩ (.t x) F=on1 ⟨[],g⟩ (.t x) F:=by
 simp[on1,okA,vl,En.has,En.look,yN,ym,has,h]
def Has (L:Sl)(x:Nat)(v:AV):Prop:=has x L=true/\look x L=v
theorem ja {L:Sl}{x:Nat}{v:AV}(h:Has L x v)(F:AV->Prop):on1 ⟨[],L⟩ (.t x) F=F v:=by
 obtain⟨h1,h2⟩:=h;simp[on1,okA,vl,En.has,En.look,has,h1,h2]
theorem Has.here (x:Nat)(v:AV)(L:Sl):Has ((x,v) :: L) x v:=by simp[Has,yN,ym]
theorem z0:((0:Nat):Int)=0:=nr rfl
theorem ji (x:Nat)(v:AV)(L:Sl):Has ((x,v) :: L) x v=True:=by simp[Has.here]
theorem jc {k x:Nat}(hne:k≠x)(u v:AV)(L:Sl):Has ((k,u) :: L) x v=Has L x v:=by simp[Has,yN,ym,hne]
theorem GU (v:AV)(e:En)(kp:Bool):qC none kp v e=e:=nr rfl
theorem VJ (d:Nat)(v:AV)(l g:Sl):qC (some d) false v ⟨l,g⟩=⟨(d,v) :: l,g⟩:=nr rfl
theorem vZ (d:Nat)(v:AV)(l g:Sl):qC (some d) true v ⟨l,g⟩=⟨(d,v) :: l,(d,v) :: g⟩:=nr rfl
theorem k_0 {i:Ins}{V:St->ER}{e:En}{st:St}(h1:XJ i=[])(h2:∀ ρ,jB P ρ i st=V st)(K:AV->St->Prop):wK P base (.i i) e st K=jd (V st) K:=by
 simp[wK,wI,h1,h2]
theorem k_1 {i:Ins}{x:A}{V:AV->St->ER}{e:En}{st:St}(h1:XJ i=[x])(h2:∀ ρ,jB P ρ i st=V (ρ x) st)(K:AV->St->Prop):wK P base (.i i) e st K=on1 e x λv=>jd (V v st) K:=by
 simp[wK,wI,h1,h2,on1]
theorem k_2 {i:Ins}{x y:A}{V:AV->AV->St->ER}{e:En}{st:St}(h1:XJ i=[x,y])(h2:∀ ρ,jB P ρ i st=V (ρ x) (ρ y) st)(K:AV->St->Prop) :
  wK P base (.i i) e st K=on1 e x λv=>on1 e y λu=>jd (V v u st) K:=by
 simp[wK,wI,h1,h2,on1,and_assoc]
theorem k_3 {i:Ins}{x y z:A}{V:AV->AV->AV->St->ER}{e:En}{st:St}(h1:XJ i=[x,y,z])(h2:∀ ρ,jB P ρ i st=V (ρ x) (ρ y) (ρ z) st)(K:AV->St->Prop) :
  wK P base (.i i) e st K=on1 e x λv=>on1 e y λu=>on1 e z λt=>jd (V v u t st) K:=by
 simp[wK,wI,h1,h2,on1,and_assoc]
def JG (op:BinOp)(v u:AV)(st:St):ER:=match v,u with
 |.int k a,.int k' b=>cond (eqK k k') (jG ((Qa op).run k a b) λv=>.ok v st) .no
 |_,_=>.no
end
end Go.Sy
end
noncomputable section
namespace Go.Sy
open Go.Ev Go.RowKit
def mvV (v:AV)(st:St):ER:=.ok v st
def H3 (c a b:AV)(st:St):ER:=Xw c λq=>.ok (cond q a b) st
def jes (v:AV)(st:St):ER:=cond (lall AV.cell v.cells) (Ev.newRow st v.cells) .no
def yV (a:AV)(st:St):ER:=match a with | .lptr cs o=>cond (Qak (Qax o) (jz cs)) (.ok (qP .bad cs o) st) .no|a=>qy a λb o=>q9 (jh st.h b) λn zl z cs=>cond (Qak (Qax o) n) (.ok (qa zl z cs o) st) .no
def zT (k:Nat)(a:AV)(st:St):ER:=match a with | .lptr cs o=>cond (Qak (Qaw o k) (jz cs)) (.ok (.agg (qX (yz cs o) k)) st) .no|a=>qy a λb o=>q9 (jh st.h b) λn zl z cs=>cond (Qak (Qaw o k) n) (.ok (.agg (jF zl z cs k o)) st) .no
def stV (k:Nat)(a x:AV)(st:St):ER:=qy a λb o=>q9 (jh st.h b) λn zl z cs=>
 cond (Qap (jz x.cells) k) (cond (Qak (Qaw o k) n) (cond (lall AV.cell x.cells)
  (st.put b (.row n zl z (j2 x.cells cs o)) λst=>.ok j1 st) .no) .no) .no
def H8 (x:AV)(st:St):ER:=(Ja (O x)).run E0 st
def jjw (op:BinOp)(v u:AV)(st:St):ER:=match v,u with | .int k a,.int _ b=>jG (ZE op k a b) λv=>.ok v st|_,_=>.no
def wN (op:BinOp)(v u:AV)(st:St):ER:=match v,u with | .str a,.str b=>jG (YW op a b) λv=>.ok v st|_,_=>.no
def ww (P:Program)(op:BinOp)(t:TypeId)(c:Bool)(v u:AV)(st:St):ER:=(zY P op t c (O v) (O u)).run E0 st
def unV (op:UnOp)(v:AV)(st:St):ER:=(Xl op (O v)).run E0 st
def jjz (k:IntKind)(v:AV)(st:St):ER:=match v with | .int _ n=>.ok (.int k (Jr k n)) st|_=>.no
def jao (off:Nat)(v:AV)(st:St):ER:=match v with | .lptr cs o=>.ok (.lptr cs (Qaw o off)) st|a=>qy a λb o=>force (Qaw o off) λo=>.ok (.ptr b o) st
def jaj (off:Nat)(v:AV)(st:St):ER:=Jf v λcs=>cond (Qak (Qax off) (jz cs)) (.ok (qP .bad cs off) st) .no
def jai (off s:Nat)(v:AV)(st:St):ER:=Jf v λcs=>.ok (.agg (qX (yz cs off) s)) st
def jae (n s:Nat)(v i:AV)(st:St):ER:=qy v λb o=>j9 i λi=>cond (Qak (Qax i) n) (force (Qaw o (Qar i s)) λo=>.ok (.ptr b o) st) .no
def ui (s:Nat)(v i:AV)(st:St):ER:=match v with
 |.slice b o len _ _ _=>j9 i λi=>cond (Qak (Qax i) len) (force (Qaw o (Qar i s)) λo=>.ok (.ptr b o) st) .no
 |.lst n cs=>j9 i λi=>cond (Qak (Qax i) n) (.ok (.lptr cs (Qar i s)) st) .no
 |_=>.no
def jiO (n s:Nat)(v i:AV)(st:St):ER:=Jf v λcs=>j9 i λi=>cond (Qak (Qax i) n) (cond (Qak (Qax (Qar i s)) (jz cs)) (.ok (qP .bad cs (Qar i s)) st) .no) .no
def WR (v i:AV)(st:St):ER:=yS v λs=>j9 i λi=>cond (Qak (Qax i) (jz s)) (.ok (.int .u8 (.ofNat (qP 0 s i))) st) .no
def jei (k:Nat)(v:AV)(st:St):ER:=match v with | .tup vs=>cond (Qak (Qax k) (jz vs)) (.ok (qP .bad vs k) st) .no|_=>.no
def K7 (v:AV)(st:St):ER:=match v with
 |.nils=>.ok (.int .i64 (.ofNat 0)) st
 |.slice _ _ n _ _ _=>.ok (.int .i64 (.ofNat n)) st
 |.lst n _=>.ok (.int .i64 (.ofNat n)) st
 |_=>.no
def jac (v:AV)(st:St):ER:=match v with
 |.str s=>force (jz s) λn=>.ok (.int .i64 (.ofNat n)) st
 |.zstr n=>.ok (.int .i64 (.ofNat n)) st
 |_=>.no
def Ua (len s:Nat)(z:List AV)(ps:List ((Nat×Nat)×AV))(st:St):ER:=jG (Qi (yl z len) ps) λcells=>
 cond (lall AV.cell cells) (force (jz cells) λn=>st.alloc (.row n n cells .e) λb st=>.ok (.slice b 0 len len s true) st) .no
def zn (v:AV)(lo hi:Option AV)(st:St):ER:=yS v λs=>force (jz s) λn=>optA lo 0 λl=>optA hi n λh=>
 cond (Qak l h) (cond (Qak h n) (.ok (.str (qX (yz s l) (QaS h l))) st) .no) .no
section
variable {P:Program} {base:Bs} {e:En} {st:St} {K:AV->St->Prop}
theorem jee (x:A):wK P base (.i (.mv x)) e st K=on1 e x λv=>K v st:=k_1 (V:=mvV) rfl (λ_=>rfl) K
theorem jci (c a b:A):wK P base (.i (.pick c a b)) e st K=on1 e c λv=>on1 e a λu=>on1 e b λt=>jd (H3 v u t st) K:=k_3 rfl (λ_=>rfl) K
theorem jfq (x:A):wK P base (.i (.box x)) e st K=on1 e x λv=>jd (jes v st) K:=k_1 rfl (λ_=>rfl) K
theorem jfk (x:A):wK P base (.i (.ld1 x)) e st K=on1 e x λv=>jd (yV v st) K:=k_1 rfl (λ_=>rfl) K
theorem jfj (k:Nat)(x:A):wK P base (.i (.ldA k x)) e st K=on1 e x λv=>jd (zT k v st) K:=k_1 rfl (λ_=>rfl) K
theorem jhK (k:Nat)(a x:A):wK P base (.i (.st k a x)) e st K=on1 e a λv=>on1 e x λu=>jd (stV k v u st) K:=k_2 rfl (λ_=>rfl) K
theorem jcj (x:A):wK P base (.i (.nilc x)) e st K=on1 e x λv=>jd (H8 v st) K:=k_1 rfl (λ_=>rfl) K
theorem kO (op:BinOp)(x y:A):wK P base (.i (.bin op x y)) e st K=on1 e x λv=>on1 e y λu=>jd (JG op v u st) K:=k_2 rfl (λ_=>rfl) K
theorem jfh (op:BinOp)(x y:A):wK P base (.i (.shf op x y)) e st K=on1 e x λv=>on1 e y λu=>jd (jjw op v u st) K:=k_2 rfl (λ_=>rfl) K
theorem jcd (op:BinOp)(x y:A):wK P base (.i (.strb op x y)) e st K=on1 e x λv=>on1 e y λu=>jd (wN op v u st) K:=k_2 rfl (λ_=>rfl) K
theorem jfl (op:BinOp)(t:TypeId)(c:Bool)(x y:A):wK P base (.i (.gen op t c x y)) e st K=on1 e x λv=>on1 e y λu=>jd (ww P op t c v u st) K:=k_2 rfl (λ_=>rfl) K
theorem jhJ (op:UnOp)(x:A):wK P base (.i (.un op x)) e st K=on1 e x λv=>jd (unV op v st) K:=k_1 rfl (λ_=>rfl) K
theorem jfp (k:IntKind)(x:A):wK P base (.i (.cvt k x)) e st K=on1 e x λv=>jd (jjz k v st) K:=k_1 rfl (λ_=>rfl) K
theorem jfn (off:Nat)(x:A):wK P base (.i (.fad off x)) e st K=on1 e x λv=>jd (jao off v st) K:=k_1 rfl (λ_=>rfl) K
theorem jcp (off:Nat)(x:A):wK P base (.i (.fld1 off x)) e st K=on1 e x λv=>jd (jaj off v st) K:=k_1 rfl (λ_=>rfl) K
theorem jco (off s:Nat)(x:A):wK P base (.i (.fldA off s x)) e st K=on1 e x λv=>jd (jai off s v st) K:=k_1 rfl (λ_=>rfl) K
theorem jcn (n s:Nat)(x i:A):wK P base (.i (.idxA n s x i)) e st K=on1 e x λv=>on1 e i λu=>jd (jae n s v u st) K:=k_2 rfl (λ_=>rfl) K
theorem jcm (s:Nat)(x i:A):wK P base (.i (.idxS s x i)) e st K=on1 e x λv=>on1 e i λu=>jd (ui s v u st) K:=k_2 rfl (λ_=>rfl) K
theorem jcl (n s:Nat)(x i:A):wK P base (.i (.ixA1 n s x i)) e st K=on1 e x λv=>on1 e i λu=>jd (jiO n s v u st) K:=k_2 rfl (λ_=>rfl) K
theorem Hd (x i:A):wK P base (.i (.ixStr x i)) e st K=on1 e x λv=>on1 e i λu=>jd (WR v u st) K:=k_2 rfl (λ_=>rfl) K
theorem jfo (k:Nat)(x:A):wK P base (.i (.ext x k)) e st K=on1 e x λv=>jd (jei k v st) K:=k_1 rfl (λ_=>rfl) K
theorem jfi (x:A):wK P base (.i (.len x)) e st K=on1 e x λv=>jd (K7 v st) K:=k_1 rfl (λ_=>rfl) K
theorem jck (x:A):wK P base (.i (.lenS x)) e st K=on1 e x λv=>jd (jac v st) K:=k_1 rfl (λ_=>rfl) K
theorem gk (x lo:A):wK P base (.i (.slStr x (some lo) none)) e st K=on1 e x λv=>on1 e lo λl=>jd (zn v (some l) none st) K:=k_2 (V:=λv l st=>zn v (some l) none st) rfl (λ_=>rfl) K
theorem gj (x hi:A):wK P base (.i (.slStr x none (some hi))) e st K=on1 e x λv=>on1 e hi λl=>jd (zn v none (some l) st) K:=k_2 (V:=λv l st=>zn v none (some l) st) rfl (λ_=>rfl) K
theorem gi (x lo hi:A):wK P base (.i (.slStr x (some lo) (some hi))) e st K=on1 e x λv=>on1 e lo λl=>on1 e hi λh=>jd (zn v (some l) (some h) st) K:=k_3 (V:=λv l h st=>zn v (some l) (some h) st) rfl (λ_=>rfl) K
def YE (e:En):List A->(F:List AV->Prop)->Res F
 |[],F=>F []
 |a :: l,F=>on1 e a λv=>YE e l λvs=>F (v :: vs)
theorem ZJ (e:En):∀ (l:List A) (F:List AV->Prop),YE e l F=(l.all (okA e)=true/\F (l.map (vl e)))
 |[],F=>by simp[YE]
 |a :: l,F=>by simp[YE,ZJ e l,on1,and_assoc]
theorem jfb (F:List AV->Prop):YE e [] F=F []:=nr rfl
theorem jfa (a:A)(l:List A)(F:List AV->Prop):YE e (a :: l) F=on1 e a λv=>YE e l λvs=>F (v :: vs):=nr rfl
theorem GV (res:List RV)(L:Sl)(s:St):XM P res K (.rt L s)=qS P res L s λvs=>K (yF vs) s.bare:=nr rfl
theorem GW (res:List RV)(L:Sl)(s:St):XM P res K (.go L s)=qS P res L s λvs=>K (yF vs) s.bare:=nr rfl
theorem jbO (L:Sl)(s:St)(F:List AV->Prop):qS P [] L s F=F []:=nr rfl
theorem jbN (x:Nat)(l:List RV)(L:Sl)(s:St)(F:List AV->Prop):qS P (.t x :: l) L s F=on1 ⟨[],L⟩ (.t x) λv=>qS P l L s λvs=>F (v :: vs):=by
 simp only[qS,KM,on1,okA,vl,En.has,En.look,has,cond_false]
theorem jbT (v:AV):yF [v]=v:=nr rfl
theorem jbS (v u:AV):yF [v,u]=.tup [v,u]:=nr rfl
theorem jbR (v u t:AV):yF [v,u,t]=.tup [v,u,t]:=nr rfl
theorem jg6 (v:AV)(s:St):jd (.ok v s) K=K v s:=nr rfl
theorem jeP (b:Bool):jd (unV .not (.bool b) st) K=K (.bool (!b)) st:=by cases b<;>rfl
theorem JD (k:IntKind):eqK k k=true:=by cases k<;>rfl
theorem uu {op:BinOp}{f:Int->Int->Bool}(hf:∀ k a b,(Qa op).run k a b=some (.bool (f a b)))(k:IntKind)(a b:Int):jd (JG op (.int k a) (.int k b) st) K=K (.bool (f a b)) st:=by
 simp only[JG,JD,cond_true,hf,jG,jd]
theorem HN (k:IntKind)(a b:Int):jd (JG .lss (.int k a) (.int k b) st) K=K (.bool (decide (a<b))) st:=by
 rw[uu (f:=ltI) (λ_ _ _=>rfl),J7]
theorem jeU (k:IntKind)(a b:Int):jd (JG .gtr (.int k a) (.int k b) st) K=K (.bool (decide (b<a))) st:=by
 rw[uu (f:=λa b=>ltI b a) (λ_ _ _=>rfl),J7]
theorem jeR (k:IntKind)(a b:Int):jd (JG .leq (.int k a) (.int k b) st) K=K (.bool (decide (a<=b))) st:=by
 rw[uu (f:=λa b=>cond (ltI b a) false true) (λ_ _ _=>rfl),J7]
 congr 2
 by_cases h:b<a
 ·rw[decide_eq_true h,decide_eq_false (by omega)];rfl
 ·rw[decide_eq_false h,decide_eq_true (by omega)];rfl
theorem jeV (k:IntKind)(a b:Int):jd (JG .geq (.int k a) (.int k b) st) K=K (.bool (decide (b<=a))) st:=by
 rw[uu (f:=λa b=>cond (ltI a b) false true) (λ_ _ _=>rfl),J7]
 congr 2
 by_cases h:a<b
 ·rw[decide_eq_true h,decide_eq_false (by omega)];rfl
 ·rw[decide_eq_false h,decide_eq_true (by omega)];rfl
theorem jeX (k:IntKind)(a b:Int):jd (JG .eql (.int k a) (.int k b) st) K=K (.bool (decide (a=b))) st:=by
 rw[uu (f:=eqI) (λ_ _ _=>rfl),J9]
theorem jeQ (k:IntKind)(a b:Int):jd (JG .neq (.int k a) (.int k b) st) K=K (.bool (decide (a≠b))) st:=by
 rw[uu (f:=λa b=>cond (eqI a b) false true) (λ_ _ _=>rfl),J9]
 congr 2
 by_cases h:a=b
 ·rw[decide_eq_true h,decide_eq_false (by simpa using h)];rfl
 ·rw[decide_eq_false h,decide_eq_true h];rfl
theorem GH (a b:List Nat):jd (wN .eql (.str a) (.str b) st) K=K (.bool (decide (a=b))) st:=by
 simp only[wN,YW,jG,jd,Jd]
theorem U1 (s:St):s.bare.bare=s.bare:=nr rfl
theorem U2 (s:St):back s s=s:=nr rfl
theorem U3 (s:St):back s s.bare=s:=nr rfl
theorem jg9 {a:Nat}(h:a+1<=9223372036854775807):jd (JG .add (.int .i64 (a:Int)) (.int .i64 1) st) K=K (.int .i64 ((a+1:Nat):Int)) st:=by
 have:(Qa .add).run .i64 (a:Int) 1=some (.int .i64 ((a+1:Nat):Int)):=by
  show some (AV.int .i64 (Jr .i64 (Int.add (a:Int) 1)))=_;rw[Yv,IntWalk.i64_in]
  ·rfl
  ·constructor
   ·have:Int.add (a:Int) 1=(a:Int)+1:=rfl;omega
   ·have:Int.add (a:Int) 1=(a:Int)+1:=rfl;omega
 simp only[JG,JD,cond_true,this,jG,jd]
theorem jbi (s:List Nat):jd (jac (.str s) st) K=K (.int .i64 ((s.length:Nat):Int)) st:=by
 simp only[jac,jo,jD,jd];rfl
theorem HO (b o n c s:Nat)(x:Bool):jd (K7 (.slice b o n c s x) st) K=K (.int .i64 ((n:Nat):Int)) st:=nr rfl
theorem KA:jd (K7 .nils st) K=K (.int .i64 0) st:=nr rfl
theorem jfP {s:List Nat}{i:Nat}(h:i<s.length)(k:IntKind):jd (WR (.str s) (.int k (i:Int)) st) K=K (.int .u8 ((s.getD i 0:Nat):Int)) st:=by
 have:Qak (Qax i) s.length=true:=by rw[jY];omega
 have e:j9 (.int k (i:Int))=λF=>F i:=by funext F;show(force i F)=F i;rw[jo]
 simp only[WR,yS,e,jD,this,cond_true,yL,jd];rfl
theorem jg8 {b o n c z:Nat}{x:Bool}{i:Nat}(h:i<n)(s:Nat)(k:IntKind):jd (ui s (.slice b o n c z x) (.int k (i:Int)) st) K=K (.ptr b (o+i * s)) st:=by
 have:Qak (Qax i) n=true:=by rw[jY];omega
 have e:j9 (.int k (i:Int))=λF=>F i:=by funext F;show(force i F)=F i;rw[jo]
 simp only[ui,e,this,cond_true,jo,jd];rfl
def qe (h:T AO)(b:Nat):Nat:=match jh h b with|some (.row n _ _ _)=>n|_=>0
def rat (h:T AO)(b i:Nat):AV:=match jh h b with|some (.row _ zl z cs)=>qa zl z cs i|_=>.bad
theorem jdN (h:T AO)(b n zl:Nat)(z:List AV)(cs:T AV)(c:Nat):qe ((jT (jv b)).run (.row n zl z cs) h) c=if c=b then n else qe h c:=by
 unfold qe;rw[jS];by_cases hc:c=b
 ·rw[if_pos hc,if_pos hc]
 ·rw[if_neg hc,if_neg hc]
theorem jf1 (h:T AO)(b n zl:Nat)(z:List AV)(cs:T AV)(c i:Nat):rat ((jT (jv b)).run (.row n zl z cs) h) c i=if c=b then qa zl z cs i else rat h c i:=by
 unfold rat;rw[jS];by_cases hc:c=b
 ·rw[if_pos hc,if_pos hc]
 ·rw[if_neg hc,if_neg hc]
structure Ext (st st':St):Prop where
 nx:st.nx<=st'.nx
 fr:st'.fr=[]
 keep:∀ b,b<st.nx->jh st'.h b=jh st.h b
theorem Ext.bare (st:St):Ext st st.bare:=⟨Qag _,rfl,λ_ _=>rfl⟩
theorem Ext.trans {a b c:St}(h:Ext a b)(k:Ext b c):Ext a c:=⟨Qas h.nx k.nx,k.fr,λx hx=>(k.keep x (QaH hx h.nx)).trans (h.keep x hx)⟩
theorem jeS {b o:Nat}(h:o<qe st.h b):jd (yV (.ptr b o) st) K=K (rat st.h b o) st:=by
 unfold qe at h;unfold rat;simp only[yV,qy];cases hg:jh st.h b with
 |none=>rw[hg] at h;exact absurd h (Qbw _)
 |some ob=>
  rw[hg] at h;cases ob<;>try(exact absurd h (Qbw _))
  rename_i n zl z cs;have:Qak (Qax o) n=true:=by rw[jY];exact h
  simp only[q9,this,cond_true,jd]
end
end Go.Sy
end
noncomputable section
namespace Go.Sy
open Go.Ev Go.RowKit
section
variable {P:Program} {base:Bs} {st:St} {K:AV->St->Prop} {e:En}
theorem z1:((1:Nat):Int)=1:=nr rfl
end
end Go.Sy
end
noncomputable section
namespace Go.Sy
open Go.Ev Go.RowKit
section
variable {P:Program} {base:Bs} {st:St} {K:AV->St->Prop} {e:En}
def Zk (h:T AO)(b:Nat):Prop:=∃ n zl z cs,jh h b=some (.row n zl z cs)
theorem Qt {h:T AO}{b:Nat}(k:0<qe h b):Zk h b:=by
 unfold qe at k;cases hg:jh h b with
 |none=>rw[hg] at k;exact absurd k (Qca _)
 |some o=>
  rw[hg] at k;cases o<;>try(exact absurd k (Qca _))
  exact⟨_,_,_,_,hg⟩
theorem zJ {h:T AO}{b n zl:Nat}{z:List AV}{cs:T AV}(e:jh h b=some (.row n zl z cs)):qe h b=n:=by unfold qe;rw[e]
theorem Xc {h:T AO}{b n zl:Nat}{z:List AV}{cs:T AV}(e:jh h b=some (.row n zl z cs))(i:Nat):rat h b i=qa zl z cs i:=by unfold rat;rw[e]
theorem q8 {h h':T AO}{b:Nat}(e:jh h' b=jh h b):qe h' b=qe h b:=by unfold qe;rw[e]
theorem qT {h h':T AO}{b:Nat}(e:jh h' b=jh h b)(i:Nat):rat h' b i=rat h b i:=by unfold rat;rw[e]
theorem zd {h h':T AO}{b:Nat}(e:jh h' b=jh h b)(k:Zk h b):Zk h' b:=by unfold Zk;rw[e];exact k
theorem He (z:List AV):wK P base (.i (.alloc z)) e st K=jd (Ev.newRow st z) K:=k_0 (V:=λst=>Ev.newRow st z) rfl (λ_=>rfl) K
def vE (z:List AV)(ps:List ((Nat×Nat)×AV))(st:St):ER:=jG (Qi z ps) λcs=>.ok (.agg cs) st
def vK (size bytes:Nat)(s x:AV)(st:St):ER:=Js x λn=>firstCells st size n x λnews=>qN st size bytes s n news
theorem jfs (size bytes:Nat)(s x:A):wK P base (.i (.app size bytes s x)) e st K=on1 e s λv=>on1 e x λu=>jd (vK size bytes v u st) K:=k_2 rfl (λ_=>rfl) K
theorem G2 {k:IntKind}{n:Nat}{F:Nat->ER}:j9 (.int k (n:Int)) F=F n:=by show force n F=F n;rw[jo]
theorem qY {a b:Nat}(h:a<=b):Qak a b=true:=by rw[jY];exact h
theorem jfB {a b:Nat}(h:b<a):Qak a b=false:=by
 cases hb:Qak a b
 ·rfl
 ·rw[jY] at hb;omega
theorem Zg {a b:Nat}(h:a=b):Qap a b=true:=by rw[qh];exact h
def One (v:AV):Prop:=v.cells=[v]/\v.plain=true/\v.cell=true
theorem One.lall {v:AV}(h:One v):lall AV.cell [v]=true:=by
 simp only[Ev.lall,h.2.2,cond_true]
end
end Go.Sy
end
noncomputable section
namespace Go.Sy
open Go.Ev Go.RowKit
section
variable {P:Program} {base:Bs} {st:St} {K:AV->St->Prop} {e:En}
theorem jeW (off b o:Nat):jd (jao off (.ptr b o) st) K=K (.ptr b (o+off)) st:=by
 simp only[jao,qy,jo,jd];rfl
theorem jbd (b o:Nat):jd (H8 (.ptr b o) st) K=K (.ptr b o) st:=nr rfl
theorem jbr (a b:AV):jd (jei 0 (.tup [a,b]) st) K=K a st:=nr rfl
theorem jbq (a b:AV):jd (jei 1 (.tup [a,b]) st) K=K b st:=nr rfl
end
end Go.Sy
end
noncomputable section
namespace Go.Sy
open Go.Ev Go.RowKit
structure Gate (h:T AO)(nx g p m:Nat):Prop where
 g_lt:g<nx
 p_lt:p<nx
 glen:qe h g=3
 g0:rat h g 0=.slice p 0 1 1 2 true
 g1:rat h g 1=.nils
 plen:qe h p=2
 p0:rat h p 0=.int .u32 0
 p1:rat h p 1=.int .u32 0
theorem Gate.keep {h h':T AO}{nx nx' g p m:Nat}(k:Gate h nx g p m)(hk:∀ c,c<nx->jh h' c=jh h c)(hn:nx<=nx'):Gate h' nx' g p m:=
 ⟨QaH k.g_lt hn,QaH k.p_lt hn,(q8 (hk g k.g_lt)).trans k.glen,(qT (hk g k.g_lt) 0).trans k.g0,(qT (hk g k.g_lt) 1).trans k.g1,
  (q8 (hk p k.p_lt)).trans k.plen,(qT (hk p k.p_lt) 0).trans k.p0,(qT (hk p k.p_lt) 1).trans k.p1⟩
end Go.Sy
end
noncomputable section
namespace Go.Sy
open Go.Ev Go.RowKit
inductive XK where
 |i (i:Ins)
 |call (f:A) (l:List A)
 |pan (x:A)
 |defer (f:A) (l:List A)
structure XS where
 dst:Option Nat
 keep:Bool
 g:Option (Nat×Bool)
 k:XK
structure XD where
 s:XS
 te:Option (Option A)
 lt:TypeId
 prt:List (Nat×TypeId)
inductive XC where
 |skip
 |ops (l:List XS)
 |cops (l:List (XS×Option (List XD)))
 |dops (l:List (XD×Option (List XD)))
 |seq (a b:XC)
 |cond (x:A) (a b:XC)
 |block (id:Nat) (c:XC)
 |loop (c:XC)
 |exit (id:Nat)
 |ret
structure XF where
 ps:List Nat
 body:XC
 res:List RV
structure XH where
 ps:List Nat
 dst:Option Nat
 keep:Bool
 ops:List XS
 body:XC
 res:List RV
def WK (P:Program)(o:Op):Option XK:=
 match j5 o with
 |some (f,args)=>(qk f).bind λf=>(X1 args).map λl=>.call f l
 |none=>match o with
  |.panic x=>(qk x).map .pan
  |.defer c=>(match c.callee with | .value f=>(qk f).bind λf=>(X1 c.args.toList).map λl=>.defer f l|_=>none)
  |o=>(Qe P o).map .i
def J8 (U:Nat)(dst:Option Nat):Bool:=match dst with|some d=>inU U d|none=>false
def kK (P:Program)(U:Nat)(ops:Array Oper)(o:Oper):Option XS:=
 (WK P o.op).bind λk=>(jd6 ops o).map λg=>⟨o.dst,J8 U o.dst,g,k⟩
def ud (P:Program)(U:Nat)(ops:Array Oper):List Oper->Option (List XS)
 |[]=>some []
 |o :: l=>(kK P U ops o).bind λs=>(ud P U ops l).map λl=>s :: l
def w8 (P:Program)(U:Nat)(ops:Array Oper)(i:Nat):Nat->List Oper->Option (List XD)
 |_,[]=>some []
 |k,o :: l=>cond (zy ops i k) ((w8 P U ops i (k+1) l).map λl=>⟨⟨o.dst,J8 U o.dst,none,.i (.mv (.c j1))⟩,none,0,[]⟩ :: l)
  (cond (ye P ops k o) none (match j5 o.op with
   |some _=>none
   |none=>(kK P U ops o).bind λs=>(K2 P o.op).bind λte=>(w8 P U ops i (k+1) l).map λl=>⟨s,te,Jh o.op,Ev.partners P ops (j8 k) k o⟩ :: l))
def YI (P:Program)(U:Nat)(ops:Array Oper)(i:Nat)(lo:List Oper):Option (List XD):=
 cond (kH P U ops i) (cond ((QaD i (QaS ops.size i)).all (zy ops i)) (some []) (w8 P U ops i i lo)) none
def uc (P:Program)(U:Nat)(ops:Array Oper)(i:Nat)(lo:List Oper):Option (List XD):=
 (YI P U ops i lo).bind λl=>cond (l.all λs=>s.prt.isEmpty) (some l) none
def VQ (P:Program)(U:Nat)(ops:Array Oper):Nat->List Oper->Option (List (XS×Option (List XD)))
 |_,[]=>some []
 |i,o :: lo=>(kK P U ops o).bind λs=>(VQ P U ops (i+1) lo).map λl=>(s,match j5 o.op with|some _=>uc P U ops i (o :: lo)|none=>none) :: l
def kL (P:Program)(U:Nat)(ops:Array Oper):Nat->List Oper->Option (List (XD×Option (List XD)))
 |_,[]=>some []
 |i,o :: lo=>cond (ye P ops i o) none ((kK P U ops o).bind λs=>(K2 P o.op).bind λte=>(kL P U ops (i+1) lo).map λl=>(⟨s,te,Jh o.op,Ev.partners P ops (j8 i) i o⟩,match j5 o.op with|some _=>YI P U ops i (o :: lo)|none=>none) :: l)
def wk (P:Program)(U:Nat):Code->Option XC
 |.skip=>some .skip
 |.region _ ops d=>(match d with
  |false=>(ud P U ops ops.toList).map .ops
  |true=>cond (zk P ops) (cond (calm P ops 0 ops.toList) ((VQ P U ops 0 ops.toList).map .cops) ((kL P U ops 0 ops.toList).map .dops)) none)
 |.seq a b=>(wk P U a).bind λa=>(wk P U b).map λb=>.seq a b
 |.cond x a b=>(qk x).bind λx=>(wk P U a).bind λa=>(wk P U b).map λb=>.cond x a b
 |.block id a=>(wk P U a).map λa=>.block id a
 |.loop a=>(wk P U a).map λa=>.loop a
 |.exit id=>some (.exit id)
 |.ret=>some .ret
 |_=>none
def jO (P:Program)(f:FuncId):Option XF:=
 match P.funcs[f]? with
 |some fn=>(match fn.body with
  |some c=>(wk P (qz fn c) c).bind λb=>(WL P fn.results.toList).map λr=>⟨(QaN (fn.params.size+fn.nfree)).filter (inU (qz fn c)),b,r⟩
  |none=>none)
 |none=>none
def jaa (P:Program)(f:FuncId):Option XH:=
 match P.funcs[f]? with
 |some fn=>(match fn.body with
  |some (.seq (.region id ops false) c)=>(match ops.toList with
   |o :: l=>cond (Y7 o) ((ud P (qz fn (.seq (.region id ops false) c)) ops l).bind λq=>(wk P (qz fn (.seq (.region id ops false) c)) c).bind λb=>(WL P fn.results.toList).map λr=>
    ⟨(QaN (fn.params.size+fn.nfree)).filter (inU (qz fn (.seq (.region id ops false) c))),o.dst,J8 (qz fn (.seq (.region id ops false) c)) o.dst,q,b,r⟩) none
   |[]=>none)
  |_=>none)
 |none=>none
def XK.nd:XK->Bool | .defer _ _=>false|_=>true
def XC.nd:XC->Bool
 |.ops l=>l.all λs=>s.k.nd
 |.cops l=>l.all λs=>s.1.k.nd
 |.dops l=>l.all λs=>s.1.s.k.nd
 |.seq a b=>_root_.cond a.nd b.nd false
 |.cond _ a b=>_root_.cond a.nd b.nd false
 |.block _ a=>a.nd
 |.loop a=>a.nd
 |_=>true
def Xo (r:ER)(K Kp:AV->St->Prop):Prop:=match r with | .ok v st=>K v st | .pn v st=>Kp v st | .no=>False
def CX (P:Program)(base:Bs)(f:FuncId)(args:List AV)(st:St)(K Kp:AV->St->Prop):Res (K,Kp):=
 ∃ r,(∃ N D,∀ n,N<=n->∀ d,D<=d->evC P base n d f args st=r)/\Xo r K Kp
theorem CW.cx {P:Program}{base:Bs}{f:FuncId}{args:List AV}{st:St}{K Kp:AV->St->Prop}(h:CW P base f args st K):CX P base f args st K Kp:=by
 obtain⟨v,st',h1,h2⟩:=h;exact⟨_,h1,h2⟩
theorem H6 {r:ER}{K Kp K' Kp':AV->St->Prop}(h:Xo r K Kp)(h1:∀ v s,K v s->K' v s)(h2:∀ v s,Kp v s->Kp' v s):Xo r K' Kp':=by
 cases r with
 |no=>exact h
 |ok v s=>exact h1 v s h
 |pn v s=>exact h2 v s h
theorem CX.mono {P:Program}{base:Bs}{f:FuncId}{args:List AV}{st:St}{K Kp K' Kp':AV->St->Prop}(h:CX P base f args st K Kp)(h1:∀ v s,K v s->K' v s)(h2:∀ v s,Kp v s->Kp' v s):CX P base f args st K' Kp':=by
 obtain⟨r,h3,h4⟩:=h;exact⟨r,h3,H6 h4 h1 h2⟩
theorem CX.cw {P:Program}{base:Bs}{f:FuncId}{args:List AV}{st:St}{K:AV->St->Prop}(h:CX P base f args st K λ_ _=>False):CW P base f args st K:=by
 obtain⟨r,h3,h4⟩:=h;cases r with
 |no=>exact h4.elim
 |pn v s=>exact h4.elim
 |ok v s=>exact⟨v,s,h3,h4⟩
def DX (P:Program)(base:Bs)(f:FuncId)(args:List AV)(m:Md)(st:St)(K:Md->St->Prop):Res K:=
 ∃ m' st',(∃ N D,∀ n,N<=n->∀ d,D<=d->(yh P f).run (evC P base n d) n args m st=.ok m' st')/\K m' st'
section
variable (P:Program) (base:Bs)
def Yb (fv:AV)(vs:List AV)(st:St)(K Kp:AV->St->Prop):Res (K,Kp):=
 match fv with
 |.fn f caps=>CX P base f (vs ++ caps) st (λv st'=>K v (back st st')) (λv st'=>Kp v (back st st'))
 |_=>False
def KU (v:AV)(st:St)(Kp:AV->St->Prop):Res Kp:=match v with | .iface t u=>Kp (.iface t u) st|_=>False
def vz (fv:AV)(vs:List AV)(st:St)(K:AV->St->Prop):Res K:=
 match fv with
 |.fn f caps=>K j1 ⟨st.nx,st.h,st.dirty,(f,vs ++ caps) :: st.fr⟩
 |_=>False
def xK (k:XK)(e:En)(st:St)(K Kp:AV->St->Prop):Res (k,K,Kp):=
 match k with
 |.i i=>wI P i e st K
 |.call f l=>okA e f=true/\l.all (okA e)=true/\Yb P base (vl e f) (l.map (vl e)) st K Kp
 |.pan x=>okA e x=true/\KU (vl e x) st Kp
 |.defer f l=>okA e f=true/\l.all (okA e)=true/\vz (vl e f) (l.map (vl e)) st K
def xO:(l:List XS)->En->St->(K:En->St->Prop)->(Kp:AV->Sl->St->Prop)->Res (l,K,Kp)
 |[],e,st,K,Kp=>K e st
 |s :: l,e,st,K,Kp=>gW s.g e (xK P base s.k e st (λv st'=>xO l (qC s.dst s.keep v e) st' K Kp) λv st'=>Kp v e.g st') (xO l (qC s.dst s.keep j1 e) st K Kp)
def xRK (k:XK)(e:En)(st:St)(K:AV->St->Prop):Res (k,K):=match k with | .i i=>wI P i e st K|_=>False
def xR:(l:List XD)->En->List TE->St->Res l
 |[],e,tb,st=>True
 |s :: l,e,tb,st=>gW s.s.g e (xRK P s.s.k e st λv st'=>held P s.lt (teW s.te e v st st') tb s.prt=true/\xR l (qC s.s.dst s.s.keep v e) (teW s.te e v st st' :: tb) st') (xR l (qC s.s.dst s.s.keep j1 e) (.none :: tb) st)
def JR (b:Option (List XD))(e:En)(tb:List TE)(st:St)(p:Prop):Res (b,p):=match b with|some l=>xR P l e tb st/\p|none=>False
def xCO (L0:Sl):(l:List (XS×Option (List XD)))->En->St->(K:En->St->Prop)->(Kp:AV->Sl->St->Prop)->Res (l,K,Kp)
 |[],e,st,K,Kp=>K e st
 |s :: l,e,st,K,Kp=>gW s.1.g e (xK P base s.1.k e st (λv st'=>xCO L0 l (qC s.1.dst s.1.keep v e) st' K Kp) λv st'=>JR P s.2 e [] st (Kp v L0 st')) (xCO L0 l (qC s.1.dst s.1.keep j1 e) st K Kp)
def xDO (L0:Sl):(l:List (XD×Option (List XD)))->En->List TE->St->(K:En->St->Prop)->(Kp:AV->Sl->St->Prop)->Res (l,K,Kp)
 |[],e,tb,st,K,Kp=>K e st
 |s :: l,e,tb,st,K,Kp=>gW s.1.s.g e
  (xK P base s.1.s.k e st (λv st'=>held P s.1.lt (teW s.1.te e v st st') tb s.1.prt=true/\xDO L0 l (qC s.1.s.dst s.1.s.keep v e) (teW s.1.te e v st st' :: tb) st' K Kp) λv st'=>JR P s.2 e tb st (Kp v L0 st'))
  (xDO L0 l (qC s.1.s.dst s.1.s.keep j1 e) (.none :: tb) st K Kp)
def xC:(c:XC)->Sl->St->(Q:Out->Prop)->(Kp:AV->Sl->St->Prop)->Res (c,Q,Kp)
 |.skip,L,st,Q,Kp=>Q (.go L st)
 |.ops l,L,st,Q,Kp=>xO P base l ⟨[],L⟩ st (λe st'=>Q (.go e.g st')) Kp
 |.cops l,L,st,Q,Kp=>xCO P base L l ⟨[],L⟩ st (λe st'=>Q (.go e.g st')) Kp
 |.dops l,L,st,Q,Kp=>xDO P base L l ⟨[],L⟩ [] st (λe st'=>Q (.go e.g st')) Kp
 |.seq a b,L,st,Q,Kp=>xC a L st (JY (λL' st'=>xC b L' st' Q Kp) Q) Kp
 |.cond x a b,L,st,Q,Kp=>okA ⟨[],L⟩ x=true/\Y9 (vl ⟨[],L⟩ x) (xC a L st Q Kp) (xC b L st Q Kp)
 |.block id a,L,st,Q,Kp=>xC a L st (qV id Q) Kp
 |.loop a,L,st,Q,Kp=>∃ n,Z3 (λL st Q=>xC a L st Q Kp) n L st Q
 |.exit id,L,st,Q,Kp=>Q (.ex id L st)
 |.ret,L,st,Q,Kp=>Q (.rt L st)
def yc (res:List RV)(K Kp:AV->St->Prop):(ds:List (FuncId×List AV))->Sl->St->Md->Res (ds,K,Kp)
 |[],L,st,m=>(match m with
  |.calm=>qS P res L st λvs=>K (yF vs) st
  |.pan v=>Kp v st
  |.done=>False)
 |d :: ds,L,st,m=>DX P base d.1 d.2 m st.bare λm' st'=>(match m' with
  |.calm=>yc res K Kp ds L st'.bare .calm
  |.pan v=>yc res K Kp ds L st'.bare (.pan v)
  |.done=>yc res K Kp ds L st'.bare .calm)
def gD (res:List RV)(K Kp:AV->St->Prop):Out->Res (K,Kp)
 |.go L st=>yc P base res K Kp st.fr L st.bare .calm
 |.rt L st=>yc P base res K Kp st.fr L st.bare .calm
 |.ex _ _ _=>False
def WD (res:List RV)(K Kp:AV->St->Prop)(v:AV)(L:Sl)(st:St):Res (K,Kp):=yc P base res K Kp st.fr L st.bare (.pan v)
def jaC (res:List RV)(m:Md)(K:Md->St->Prop):Out->Res K
 |.go L st=>qS P res L st λ_=>K m st
 |.rt L st=>qS P res L st λ_=>K m st
 |.ex _ _ _=>False
end
end Go.Sy
end
noncomputable section
namespace Go.Sy
open Go.Ev Go.RowKit
section
variable {P:Program} {base:Bs} {U:Nat} {t:T AV}
def RX (U:Nat)(nd:Bool)(st:St)(r:R)(Q:Out->Prop)(Kp:AV->Sl->St->Prop):Prop:=
 match r with
 |.go t s=>∃ L,z6 U t L/\(nd=true->s.fr=st.fr)/\Q (.go L s)
 |.ex id t s=>∃ L,z6 U t L/\(nd=true->s.fr=st.fr)/\Q (.ex id L s)
 |.rt t s=>∃ L,z6 U t L/\(nd=true->s.fr=st.fr)/\Q (.rt L s)
 |.pn v t s=>∃ L,z6 U t L/\(nd=true->s.fr=st.fr)/\Kp v L s
 |.no=>False
theorem RX.fr {nd:Bool}{st st':St}{r:R}{Q:Out->Prop}{Kp:AV->Sl->St->Prop}(h:RX U nd st' r Q Kp)(hf:nd=true->st'.fr=st.fr):RX U nd st r Q Kp:=by
 cases r with
 |no=>exact h
 |go t s=>obtain⟨L,h1,h2,h3⟩:=h;exact⟨L,h1,λhn=>(h2 hn).trans (hf hn),h3⟩
 |ex i t s=>obtain⟨L,h1,h2,h3⟩:=h;exact⟨L,h1,λhn=>(h2 hn).trans (hf hn),h3⟩
 |rt t s=>obtain⟨L,h1,h2,h3⟩:=h;exact⟨L,h1,λhn=>(h2 hn).trans (hf hn),h3⟩
 |pn v t s=>obtain⟨L,h1,h2,h3⟩:=h;exact⟨L,h1,λhn=>(h2 hn).trans (hf hn),h3⟩
theorem HL {ns:List Nat}{rs:List AV}{e:En}{st:St}(h:HasO U ns t rs e){o:Op}{k:XK}(hl:WK P o=some k){K Kp:AV->St->Prop}(hw:xK P base k e st K Kp) :
  (∃ v st',j5 o=none/\(je P (jy U ns) o).run ⟨t,rs⟩ st=.ok v st'/\(k.nd=true->st'.fr=st.fr)/\K v st') \/
  (∃ v,j5 o=none/\(je P (jy U ns) o).run ⟨t,rs⟩ st=.pn v st/\Kp v st) \/
  (∃ f args fid caps r N D,j5 o=some (f,args)/\(jy U ns f).run ⟨t,rs⟩=.fn fid caps /\
   (∀ n,N<=n->∀ d,D<=d->evC P base n d fid (yA (qE (λx=>(jy U ns x).run ⟨t,rs⟩) args) caps) st=r)/\Xo r (λv s=>K v (back st s)) λv s=>Kp v (back st s)):=by
 unfold WK at hl;cases hc:j5 o with
 |some p=>
  obtain⟨f,args⟩:=p;rw[hc] at hl;obtain⟨fa,h1,hl⟩:=bind_some hl;obtain⟨l,h2,rfl⟩:=Go.Sy.map_some hl;obtain⟨h3,h4,h5⟩:=hw;obtain⟨h6,h7⟩:=h.fn h1 h2 h3 h4;right;right;unfold Yb at h5;cases hv:vl e fa<;>rw[hv] at h5<;>try(exact h5.elim)
  rename_i fid caps;obtain⟨r,⟨N,D,h8⟩,h9⟩:=h5;refine⟨f,args,fid,caps,r,N,D,rfl,h6.trans hv,λn hn d hd=>?_,h9⟩;rw[yn,ya,h7];exact h8 n hn d hd
 |none=>
  rw[hc] at hl;dsimp only at hl;have ins:∀ i,Qe P o=some i->k=.i i->(∃ v st',j5 o=none/\(je P (jy U ns) o).run ⟨t,rs⟩ st=.ok v st'/\(k.nd=true->st'.fr=st.fr)/\K v st'):=by
   intro i h1 hk;subst hk;obtain⟨v,st',h2,h3,h4⟩:=jeL h h1 hw;exact⟨v,st',hc,h2,λ_=>h3,h4⟩
  cases o;case panic x=>
   obtain⟨a,h1,rfl⟩:=Go.Sy.map_some hl;obtain⟨h2,h3⟩:=hw;have hv:=(ju (u6 U ns t rs) h1).trans (h.val h2);unfold KU at h3;cases hk:vl e a<;>rw[hk] at h3<;>try(exact h3.elim)
   rename_i ty u;rw[hk] at hv;refine .inr (.inl ⟨_,rfl,?_,h3⟩);simp only[je];rw[hv]
  case defer c=>
   dsimp only at hl;cases hcal:c.callee with
   |value f=>
    rw[hcal] at hl;obtain⟨fa,h1,hl⟩:=bind_some hl;obtain⟨l,h2,rfl⟩:=Go.Sy.map_some hl;obtain⟨h3,h4,h5⟩:=hw;obtain⟨h6,h7⟩:=h.fn h1 h2 h3 h4;unfold vz at h5;cases hv:vl e fa<;>rw[hv] at h5<;>try(exact h5.elim)
    rename_i fid caps;rw[hv] at h6;refine .inl ⟨_,_,rfl,?_,(λhn=>nomatch hn),h5⟩;simp only[je,hcal];rw[h6];dsimp only;rw[yn,ya,h7]
   |_=>rw[hcal] at hl;cases hl
  all_goals
   obtain⟨i,h1,h2⟩:=Go.Sy.map_some hl;exact .inl (by have:=ins i h1 h2.symm;rw[hc] at this;exact this)
theorem Wg {ops:Array Oper}{Q:Out->Prop}{Kp:AV->Sl->St->Prop}(nd:Bool):∀ (lo:List Oper) (l:List XS) (ns:List Nat) (rs:List AV) (e:En) (st:St),ud P U ops lo=some l->HasO U ns t rs e->(nd=true->(l.all λs=>s.k.nd)=true)->
  xO P base l e st (λe s=>Q (.go e.g s)) Kp->∃ r N D,RX U nd st r Q Kp/\∀ n,N<=n->∀ d,D<=d->(yo P U ops lo ns).run (evC P base n d) n t rs st=r
 |[],l,ns,rs,e,st,hl,h,hnd,hw=>by
  cases hl;exact⟨.go _ st,0,0,⟨e.g,h.flush,λ_=>rfl,hw⟩,λ_ _ _ _=>rfl⟩
 |o :: lo,l,ns,rs,e,st,hl,h,hnd,hw=>by
  obtain⟨s,h1,hl⟩:=bind_some hl;obtain⟨l',h2,rfl⟩:=Go.Sy.map_some hl;obtain⟨k,h3,h1⟩:=bind_some h1;obtain⟨g,h4,rfl⟩:=Go.Sy.map_some h1;have hnd1:nd=true->k.nd=true:=λhn=>by have:=hnd hn;simp only[QaZ,Qaz] at this;exact this.1
  have hnd2:nd=true->(l'.all λs=>s.k.nd)=true:=λhn=>by have:=hnd hn;simp only[QaZ,Qaz] at this;exact this.2
  have step:xK P base k e st (λv st'=>xO P base l' (qC o.dst (J8 U o.dst) v e) st' (λe s=>Q (.go e.g s)) Kp) (λv st'=>Kp v e.g st')->
    ∃ r N D,RX U nd st r Q Kp/\∀ n,N<=n->∀ d,D<=d->(Xn P (jy U ns) (yW U ns) o (yo P U ops lo (j6 o.dst ns))).run (evC P base n d) n t rs st=r:=by
   intro hk;rcases HL h h3 hk with ⟨v,st1,k1,k2,k3,k4⟩|⟨v,k1,k2,k3⟩|⟨f,args,fid,caps,r1,N1,D1,k1,k2,k3,k4⟩
   ·obtain⟨r,N,D,m1,m2⟩:=Wg nd lo l' _ _ _ _ h2 (h.push o.dst v) hnd2 k4;refine⟨r,N,D,m1.fr λhn=>k3 (hnd1 hn),λn hn d hd=>?_⟩;unfold Xn;rw[k1];dsimp only;rw[k2];exact m2 n hn d hd
   ·refine⟨.pn v _ st,0,0,⟨e.g,h.flush,λ_=>rfl,k3⟩,λn hn d hd=>?_⟩;unfold Xn;rw[k1];dsimp only;rw[k2]
   ·cases r1 with
    |no=>exact k4.elim
    |ok v st1=>
     obtain⟨r,N,D,m1,m2⟩:=Wg nd lo l' _ _ _ _ h2 (h.push o.dst v) hnd2 k4;refine⟨r,max N1 N,max D1 D,m1.fr λ_=>rfl,λn hn d hd=>?_⟩;unfold Xn;rw[k1];dsimp only;rw[k2];dsimp only;rw[k3 n (Qas (QaC _ _) hn) d (Qas (QaC _ _) hd)];exact m2 n (Qas (QaB _ _) hn) d (Qas (QaB _ _) hd)
    |pn v st1=>
     refine⟨.pn v _ (back st st1),N1,D1,⟨e.g,h.flush,λ_=>rfl,k4⟩,λn hn d hd=>?_⟩;unfold Xn;rw[k1];dsimp only;rw[k2];dsimp only;rw[k3 n hn d hd]
  rw[vB];rcases kP h h4 hw with ⟨q1,q2⟩|⟨wf,q1,⟨q2,q3⟩|⟨q2,q3⟩⟩
  ·rw[q1];exact step q2
  ·rw[q1];obtain⟨r,N,D,m1,m2⟩:=step q3;refine⟨r,N,D,m1,λn hn d hd=>?_⟩;simp only[vg];rw[q2];exact m2 n hn d hd
  ·rw[q1];obtain⟨r,N,D,m1,m2⟩:=Wg nd lo l' _ _ _ _ h2 (h.push o.dst j1) hnd2 q3;refine⟨r,N,D,m1,λn hn d hd=>?_⟩;simp only[vg];rw[q2];exact m2 n hn d hd
theorem Wp {ops:Array Oper}{pan:Nat->List Nat->List Nat->AV->St->RD}{abs:Nat->Bool}{call:qd}{n:Nat}:∀ (l:List Nat) (es ns:List Nat) (rs:List AV) (tb:List TE) (st:St),(∀ k∈l,abs k=true)->(∀ k∈l,k<ops.size)->
  ∃ t',(qO P U ops (J0 U) pan abs l es ns).run call n t rs tb st=.go t' st
 |[],es,ns,rs,tb,st,_,_=>⟨_,rfl⟩
 |k :: l,es,ns,rs,tb,st,h1,h2=>by
  have hk:k<ops.size:=h2 k (by simp);have ho:ops[k]? = some ops[k]:=Qce hk;rw[YY k l es ns ho,h1 k (by simp)];simp only[cond_true];exact Wp l _ _ _ _ st (λj hj=>h1 j (by simp[hj])) (λj hj=>h2 j (by simp[hj]))
theorem ki {ops:Array Oper}{i:Nat}{call:qd}{n:Nat}:∀ (lo:List Oper) (k:Nat) (l:List XD) (ns:List Nat) (rs:List AV) (tb:List TE) (e:En) (st:St),ops.toList.drop k=lo->
  w8 P U ops i k lo=some l->HasO U ns t rs e->xR P l e tb st->
  ∃ t' s',(qO P U ops (J0 U) (λ_ _ _ _ _=>XP) (zy ops i) (QaD k (ops.size - k)) (j8 k) ns).run call n t rs tb st=.go t' s'
 |[],k,l,ns,rs,tb,e,st,hdr,hl,h,hw=>by
  have:ops.size - k=0:=by
   have:=congrArg Qcb hdr;simpa using this
  rw[this];exact⟨_,_,rfl⟩
 |o :: lo,k,l,ns,rs,tb,e,st,hdr,hl,h,hw=>by
  obtain⟨ho,hdr',hlt⟩:=vw hdr;have hr:QaD k (ops.size - k)=k :: QaD (k+1) (ops.size - (k+1)):=by
   have:ops.size - k=(ops.size - (k+1))+1:=by omega
   rw[this,Qbo]
  rw[hr,YY k _ _ _ ho];unfold w8 at hl;cases ha:zy ops i k with
  |true=>
   rw[ha] at hl;simp only[cond_true] at hl ⊢;obtain⟨l',h2,rfl⟩:=Go.Sy.map_some hl;have hw':xR P l' (qC o.dst (J8 U o.dst) j1 e) (.none :: tb) st:=hw.2.2;exact ki lo (k+1) l' _ _ _ _ st hdr' h2 (h.push o.dst j1) hw'
  |false=>
   rw[ha] at hl;simp only[cond_false] at hl ⊢;cases hwt:ye P ops k o;case true=>rw[hwt] at hl;cases hl
   rw[hwt] at hl;simp only[cond_false] at hl;cases hc:j5 o.op with
   |some p=>rw[hc] at hl;cases hl
   |none=>
    rw[hc] at hl;dsimp only at hl;obtain⟨s,h1,hl⟩:=bind_some hl;obtain⟨te,h5,hl⟩:=bind_some hl;obtain⟨l',h2,rfl⟩:=Go.Sy.map_some hl;obtain⟨q,h3,h1⟩:=bind_some h1;obtain⟨g,h4,rfl⟩:=Go.Sy.map_some h1;have step:xRK P q e st (λv st'=>held P (Jh o.op) (teW te e v st st') tb (Ev.partners P ops (j8 k) k o)=true/\xR P l' (qC o.dst (J8 U o.dst) v e) (teW te e v st st' :: tb) st')->
      ∃ t' s',(zw P (jy U ns) false (Ev.partners P ops (j8 k) k o) o (qO P U ops (J0 U) (λ_ _ _ _ _=>XP) (zy ops i) (QaD (k+1) (ops.size - (k+1))) (j8 (k+1)) (j6 o.dst ns)) (λ_ _=>XP)).run call n t rs tb st=.go t' s':=by
     intro hk;unfold WK at h3;rw[hc] at h3;dsimp only at h3;cases q with
     |call f l=>exact hk.elim
     |pan x=>exact hk.elim
     |defer f l=>exact hk.elim
     |i ins=>
      have hlo:Qe P o.op=some ins:=by
       split at h3
       ·obtain⟨a,_,h⟩:=Go.Sy.map_some h3;cases h
       ·split at h3
        ·obtain⟨a,_,h3⟩:=bind_some h3;obtain⟨b,_,h⟩:=Go.Sy.map_some h3;cases h
        ·cases h3
       ·obtain⟨a,h6,h⟩:=Go.Sy.map_some h3;cases h;exact h6
      have hk':wI P ins e st (λv st'=>held P (Jh o.op) (teW te e v st st') tb (Ev.partners P ops (j8 k) k o)=true/\xR P l' (qC o.dst (J8 U o.dst) v e) (teW te e v st st' :: tb) st'):=hk;have hcov:=hk'.1;obtain⟨v,st',g1,g2,g3,g4⟩:=jeL h hlo hk';have hte:zB P (jy U ns) o.op ⟨t,rs⟩ v st st'=teW te e v st st':=by
       unfold K2 at h5;unfold zB;cases hcl:jC P o.op<;>rw[hcl] at h5<;>try(cases h5;rfl)
       obtain⟨ty,a,hop⟩:=JN hcl;rw[hop] at h5 hlo ⊢;obtain⟨a',h6,rfl⟩:=Go.Sy.map_some h5;simp only[teW];have hok:okA e a'=true:=by
        simp only[Qe] at hlo;obtain⟨a2,h8,h9⟩:=bind_some hlo;rw[h6] at h8;cases h8;split at h9
        ·cases h9;simpa[XJ] using hcov
        ·cases h9;simpa[XJ] using hcov
        ·cases h9
       rw[ju (u6 U ns t rs) h6,h.val hok]
      obtain⟨t',s',e1⟩:=ki (i:=i) (call:=call) (n:=n) lo (k+1) l' _ _ _ _ st' hdr' h2 (h.push o.dst v) g4;refine⟨t',s',?_⟩;unfold zw;dsimp only;rw[VK hc g1 JN,hte,g3];exact e1
    rcases kP h h4 hw with ⟨q1,q2⟩|⟨wf,q1,⟨q2,q3⟩|⟨q2,q3⟩⟩
    ·rw[q1];exact step q2
    ·rw[q1];obtain⟨t',s',m1⟩:=step q3;refine⟨t',s',?_⟩;simp only[Jl];rw[q2];exact m1
    ·rw[q1];obtain⟨t',s',m1⟩:=ki (i:=i) (call:=call) (n:=n) lo (k+1) l' _ _ _ _ st hdr' h2 (h.push o.dst j1) q3;refine⟨t',s',?_⟩;simp only[Jl];rw[q2];exact m1
theorem HK:∀ {l:List XD} {e:En} {tb tb':List TE} {st:St},(l.all λs=>s.prt.isEmpty)=true->xR P l e tb st->xR P l e tb' st
 |[],e,tb,tb',st,_,h=>h
 |s :: l,e,tb,tb',st,ha,h=>by
  simp only[QaZ,Qaz] at ha;have hp:s.prt=[]:=by simpa using ha.1
  refine uj h (λh=>?_) λh=>HK ha.2 h;cases hk:s.s.k<;>rw[hk] at h<;>try(exact h.elim)
  refine⟨h.1,Uy h.2 λv st' h3=>⟨?_,HK ha.2 h3.2⟩⟩;rw[hp];rfl
theorem GY {ops:Array Oper}{i:Nat}{lo:List Oper}{l:List XD}(h:YI P U ops i lo=some l)(hdr:ops.toList.drop i=lo){ns:List Nat}{rs:List AV}{e:En}(he:HasO U ns t rs e){tb:List TE}{st:St}(hw:xR P l e tb st)(v:AV)(st':St)(call:qd)(n:Nat) :
  (Qo P U ops i (j8 i) ns v st').run call n t rs tb st=.pn v t st':=by
 unfold YI at h;obtain⟨h1,h2⟩:=zH h;have fin:(∃ t' s',(qO P U ops (J0 U) (λ_ _ _ _ _=>XP) (zy ops i) (QaD i (QaS ops.size i)) (j8 i) ns).run call n t rs tb st=.go t' s')->(Qo P U ops i (j8 i) ns v st').run call n t rs tb st=.pn v t st':=by
  rintro ⟨t',s',ht⟩;unfold Qo;rw[h1];simp only[cond_true];rw[ht]
 refine fin ?_;cases ha:(QaD i (QaS ops.size i)).all (zy ops i) with
 |true=>
  rw[QaG] at ha;obtain⟨t',ht⟩:=Wp (P:=P) (U:=U) (t:=t) (ops:=ops) (pan:=λ_ _ _ _ _=>XP) (abs:=zy ops i) (call:=call) (n:=n) (QaD i (QaS ops.size i)) (j8 i) ns rs tb st ha (λk hk=>by
   rw[List.mem_range'_1] at hk;have e:QaS ops.size i=ops.size - i:=rfl;rw[e] at hk;omega)
  exact⟨t',st,ht⟩
 |false=>
  rw[ha] at h2;exact ki lo i l ns rs tb e st hdr h2 he hw
theorem Ux {op:Operand->OF}{o:Op}{env:Env}{v:AV}{st st1:St}{call:qd}{k:AV->TE->St->R}{kp:AV->St->R}{f:Operand}{args:List Operand}{fid:FuncId}{caps:List AV}(hc:j5 o=some (f,args))
  (hf:(op f).run env=.fn fid caps) (he:call fid (yA (qE (λx=>(op x).run env) args) caps) st=.pn v st1) :
  (opD P op false o).run call env st k kp=kp v (back st st1):=by
 unfold opD;rw[hc];simp only[cond_false];rw[hf];dsimp only;rw[he]
theorem Wi {ops:Array Oper}{Q:Out->Prop}{Kp:AV->Sl->St->Prop}{L0:Sl}(ht0:z6 U t L0)(nd:Bool):∀ (lo:List Oper) (i:Nat) (l:List (XS×Option (List XD))) (ns:List Nat) (rs:List AV) (tb:List TE) (e:En) (st:St),ops.toList.drop i=lo->calm P ops i lo=true->
  VQ P U ops i lo=some l->HasO U ns t rs e->(nd=true->(l.all λs=>s.1.k.nd)=true)->xCO P base L0 l e st (λe s=>Q (.go e.g s)) Kp->
  ∃ r N D,RX U nd st r Q Kp/\∀ n,N<=n->∀ d,D<=d->(qO P U ops (J0 U) (Qo P U ops) (λ_=>false) (QaD i (ops.size - i)) (j8 i) ns).run (evC P base n d) n t rs tb st=r
 |[],i,l,ns,rs,tb,e,st,hdr,hcalm,hl,h,hnd,hw=>by
  cases hl;have:ops.size - i=0:=by
   have:=congrArg Qcb hdr;simpa using this
  rw[this];exact⟨.go _ st,0,0,⟨e.g,h.flush,λ_=>rfl,hw⟩,λ_ _ _ _=>rfl⟩
 |o :: lo,i,l,ns,rs,tb,e,st,hdr,hcalm,hl,h,hnd,hw=>by
  obtain⟨ho,hdr',hlt⟩:=vw hdr;unfold calm at hcalm;cases hwt:ye P ops i o;case true=>rw[hwt] at hcalm;cases hcalm
  rw[hwt] at hcalm;simp only[cond_false] at hcalm;obtain⟨hpe,hcalm⟩:=qj hcalm;have hpe':Ev.partners P ops (j8 i) i o=[]:=by simpa using hpe
  obtain⟨s,h1,hl⟩:=bind_some hl;obtain⟨l',h2,rfl⟩:=Go.Sy.map_some hl;obtain⟨k,h3,h1⟩:=bind_some h1;obtain⟨g,h4,rfl⟩:=Go.Sy.map_some h1;have hnd1:nd=true->k.nd=true:=λhn=>by have:=hnd hn;simp only[QaZ,Qaz] at this;exact this.1
  have hnd2:nd=true->(l'.all λs=>s.1.k.nd)=true:=λhn=>by have:=hnd hn;simp only[QaZ,Qaz] at this;exact this.2
  have hr:QaD i (ops.size - i)=i :: QaD (i+1) (ops.size - (i+1)):=by
   have:ops.size - i=(ops.size - (i+1))+1:=by omega
   rw[this,Qbo]
  have step:xK P base k e st (λv st'=>xCO P base L0 l' (qC o.dst (J8 U o.dst) v e) st' (λe s=>Q (.go e.g s)) Kp) (λv st'=>JR P (match j5 o.op with|some _=>uc P U ops i (o :: lo)|none=>none) e [] st (Kp v L0 st'))->
    ∃ r N D,RX U nd st r Q Kp/\∀ n,N<=n->∀ d,D<=d->
     (zw P (jy U ns) false (Ev.partners P ops (j8 i) i o) o (qO P U ops (J0 U) (Qo P U ops) (λ_=>false) (QaD (i+1) (ops.size - (i+1))) (j8 (i+1)) (j6 o.dst ns)) (Qo P U ops i (j8 i) ns)).run (evC P base n d) n t rs tb st=r:=by
   intro hk;rw[hpe'];rcases HL h h3 hk with ⟨v,st1,k1,k2,k3,k4⟩|⟨v,k1,k2,k3⟩|⟨f,args,fid,caps,r1,N1,D1,k1,k2,k3,k4⟩
   ·obtain⟨r,N,D,m1,m2⟩:=Wi ht0 nd lo (i+1) l' _ _ (QaP (zB P (jy U ns) o.op ⟨t,rs⟩ v st st1) tb) _ _ hdr' hcalm h2 (h.push o.dst v) hnd2 k4;refine⟨r,N,D,m1.fr λhn=>k3 (hnd1 hn),λn hn d hd=>?_⟩;unfold zw;dsimp only;rw[VK k1 k2 JN];exact m2 n hn d hd
   ·rw[k1] at k3;exact k3.elim
   ·rw[k1] at k4;cases r1 with
    |no=>exact k4.elim
    |ok v st1=>
     obtain⟨r,N,D,m1,m2⟩:=Wi ht0 nd lo (i+1) l' _ _ (QaP (TE.wr st.h (back st st1).h) tb) _ _ hdr' hcalm h2 (h.push o.dst v) hnd2 k4;refine⟨r,max N1 N,max D1 D,m1.fr λ_=>rfl,λn hn d hd=>?_⟩;unfold zw;dsimp only;rw[KX k1 k2 (k3 n (Qas (QaC _ _) hn) d (Qas (QaC _ _) hd))];exact m2 n (Qas (QaB _ _) hn) d (Qas (QaB _ _) hd)
    |pn v st1=>
     have k5:JR P (uc P U ops i (o :: lo)) e [] st (Kp v L0 (back st st1)):=k4;cases hm:uc P U ops i (o :: lo) with
     |none=>rw[hm] at k5;exact k5.elim
     |some lr=>
      rw[hm] at k5;obtain⟨lr',hm1,hm2⟩:=bind_some hm;obtain⟨hm3,hm4⟩:=zH hm2;cases hm4;refine⟨.pn v t (back st st1),N1,D1,⟨L0,ht0,λ_=>rfl,k5.2⟩,λn hn d hd=>?_⟩;unfold zw;dsimp only;rw[Ux k1 k2 (k3 n hn d hd)];exact GY hm1 hdr h (HK hm3 k5.1) _ _ _ _
  rw[hr,YY i _ _ _ ho,hwt];simp only[cond_false];rcases kP h h4 hw with ⟨q1,q2⟩|⟨wf,q1,⟨q2,q3⟩|⟨q2,q3⟩⟩
  ·rw[q1];exact step q2
  ·rw[q1];obtain⟨r,N,D,m1,m2⟩:=step q3;refine⟨r,N,D,m1,λn hn d hd=>?_⟩;simp only[Jl];rw[q2];exact m2 n hn d hd
  ·rw[q1];obtain⟨r,N,D,m1,m2⟩:=Wi ht0 nd lo (i+1) l' _ _ (QaP TE.none tb) _ _ hdr' hcalm h2 (h.push o.dst j1) hnd2 q3;refine⟨r,N,D,m1,λn hn d hd=>?_⟩;simp only[Jl];rw[q2];exact m2 n hn d hd
theorem Wh {ops:Array Oper}{Q:Out->Prop}{Kp:AV->Sl->St->Prop}{L0:Sl}(ht0:z6 U t L0)(nd:Bool):∀ (lo:List Oper) (i:Nat) (l:List (XD×Option (List XD))) (ns:List Nat) (rs:List AV) (tb:List TE) (e:En) (st:St),ops.toList.drop i=lo->
  kL P U ops i lo=some l->HasO U ns t rs e->(nd=true->(l.all λs=>s.1.s.k.nd)=true)->xDO P base L0 l e tb st (λe s=>Q (.go e.g s)) Kp->
  ∃ r N D,RX U nd st r Q Kp/\∀ n,N<=n->∀ d,D<=d->(qO P U ops (J0 U) (Qo P U ops) (λ_=>false) (QaD i (ops.size - i)) (j8 i) ns).run (evC P base n d) n t rs tb st=r
 |[],i,l,ns,rs,tb,e,st,hdr,hl,h,hnd,hw=>by
  cases hl;have:ops.size - i=0:=by
   have:=congrArg Qcb hdr;simpa using this
  rw[this];exact⟨.go _ st,0,0,⟨e.g,h.flush,λ_=>rfl,hw⟩,λ_ _ _ _=>rfl⟩
 |o :: lo,i,l,ns,rs,tb,e,st,hdr,hl,h,hnd,hw=>by
  obtain⟨ho,hdr',hlt⟩:=vw hdr;unfold kL at hl;cases hwt:ye P ops i o;case true=>rw[hwt] at hl;cases hl
  rw[hwt] at hl;simp only[cond_false] at hl;obtain⟨s,h1,hl⟩:=bind_some hl;obtain⟨te,h5,hl⟩:=bind_some hl;obtain⟨l',h2,rfl⟩:=Go.Sy.map_some hl;obtain⟨k,h3,h1⟩:=bind_some h1;obtain⟨g,h4,rfl⟩:=Go.Sy.map_some h1;have hnd1:nd=true->k.nd=true:=λhn=>by have:=hnd hn;simp only[QaZ,Qaz] at this;exact this.1
  have hnd2:nd=true->(l'.all λs=>s.1.s.k.nd)=true:=λhn=>by have:=hnd hn;simp only[QaZ,Qaz] at this;exact this.2
  have hte:∀ v st',(∀ a,te=some (some a)->okA e a=true)->zB P (jy U ns) o.op ⟨t,rs⟩ v st st'=teW te e v st st':=by
   intro v st' hok;unfold K2 at h5;unfold zB;cases hcl:jC P o.op<;>rw[hcl] at h5<;>try(cases h5;rfl)
   obtain⟨ty,a,hop⟩:=JN hcl;rw[hop] at h5 ⊢;obtain⟨a',h6,rfl⟩:=Go.Sy.map_some h5;simp only[teW];rw[ju (u6 U ns t rs) h6,h.val (hok a' rfl)]
  have hokr:∀ (K Kp:AV->St->Prop),xK P base k e st K Kp->∀ a,te=some (some a)->okA e a=true:=by
   intro K Kp hk a ha;unfold K2 at h5;cases hcl:jC P o.op<;>rw[hcl] at h5<;>try(cases h5;cases ha;done)
   obtain⟨ty,ad,hop⟩:=JN hcl;rw[hop] at h5 h3;obtain⟨a',h6,rfl⟩:=Go.Sy.map_some h5;cases ha;have:j5 (Op.load ty ad)=none:=rfl;unfold WK at h3;rw[this] at h3;obtain⟨ins,h7,rfl⟩:=Go.Sy.map_some h3;simp only[Qe] at h7;obtain⟨a2,h8,h9⟩:=bind_some h7;rw[h6] at h8;cases h8;have hcov:=hk.1;split at h9
   ·cases h9;simpa[XJ] using hcov
   ·cases h9;simpa[XJ] using hcov
   ·cases h9
  have hr:QaD i (ops.size - i)=i :: QaD (i+1) (ops.size - (i+1)):=by
   have:ops.size - i=(ops.size - (i+1))+1:=by omega
   rw[this,Qbo]
  have step:xK P base k e st (λv st'=>held P (Jh o.op) (teW te e v st st') tb (Ev.partners P ops (j8 i) i o)=true/\xDO P base L0 l' (qC o.dst (J8 U o.dst) v e) (teW te e v st st' :: tb) st' (λe s=>Q (.go e.g s)) Kp) (λv st'=>JR P (match j5 o.op with|some _=>YI P U ops i (o :: lo)|none=>none) e tb st (Kp v L0 st'))->
    ∃ r N D,RX U nd st r Q Kp/\∀ n,N<=n->∀ d,D<=d->
     (zw P (jy U ns) false (Ev.partners P ops (j8 i) i o) o (qO P U ops (J0 U) (Qo P U ops) (λ_=>false) (QaD (i+1) (ops.size - (i+1))) (j8 (i+1)) (j6 o.dst ns)) (Qo P U ops i (j8 i) ns)).run (evC P base n d) n t rs tb st=r:=by
   intro hk;have hok:=hokr _ _ hk;rcases HL h h3 hk with ⟨v,st1,k1,k2,k3,k4⟩|⟨v,k1,k2,k3⟩|⟨f,args,fid,caps,r1,N1,D1,k1,k2,k3,k4⟩
   ·obtain⟨g1,g2⟩:=k4;obtain⟨r,N,D,m1,m2⟩:=Wh ht0 nd lo (i+1) l' _ _ _ _ _ hdr' h2 (h.push o.dst v) hnd2 g2;refine⟨r,N,D,m1.fr λhn=>k3 (hnd1 hn),λn hn d hd=>?_⟩;unfold zw;dsimp only;rw[VK k1 k2 JN,hte v st1 hok,g1];exact m2 n hn d hd
   ·rw[k1] at k3;exact k3.elim
   ·rw[k1] at k4;have hw':∀ v st1,teW te e v st (back st st1)=.wr st.h (back st st1).h:=λv st1=>by
     rw[<-hte v _ hok];unfold zB;rw[zW (P:=P) k1]
    cases r1 with
    |no=>exact k4.elim
    |ok v st1=>
     obtain⟨g1,g2⟩:=k4;rw[hw'] at g1 g2;obtain⟨r,N,D,m1,m2⟩:=Wh ht0 nd lo (i+1) l' _ _ _ _ _ hdr' h2 (h.push o.dst v) hnd2 g2;refine⟨r,max N1 N,max D1 D,m1.fr λ_=>rfl,λn hn d hd=>?_⟩;unfold zw;dsimp only;rw[KX k1 k2 (k3 n (Qas (QaC _ _) hn) d (Qas (QaC _ _) hd)),g1];exact m2 n (Qas (QaB _ _) hn) d (Qas (QaB _ _) hd)
    |pn v st1=>
     have k5:JR P (YI P U ops i (o :: lo)) e tb st (Kp v L0 (back st st1)):=k4;cases hm:YI P U ops i (o :: lo) with
     |none=>rw[hm] at k5;exact k5.elim
     |some lr=>
      rw[hm] at k5;refine⟨.pn v t (back st st1),N1,D1,⟨L0,ht0,λ_=>rfl,k5.2⟩,λn hn d hd=>?_⟩;unfold zw;dsimp only;rw[Ux k1 k2 (k3 n hn d hd)];exact GY hm hdr h k5.1 _ _ _ _
  rw[hr,YY i _ _ _ ho,hwt];simp only[cond_false];rcases kP h h4 hw with ⟨q1,q2⟩|⟨wf,q1,⟨q2,q3⟩|⟨q2,q3⟩⟩
  ·rw[q1];exact step q2
  ·rw[q1];obtain⟨r,N,D,m1,m2⟩:=step q3;refine⟨r,N,D,m1,λn hn d hd=>?_⟩;simp only[Jl];rw[q2];exact m2 n hn d hd
  ·rw[q1];obtain⟨r,N,D,m1,m2⟩:=Wh ht0 nd lo (i+1) l' _ _ _ _ _ hdr' h2 (h.push o.dst j1) hnd2 q3;refine⟨r,N,D,m1,λn hn d hd=>?_⟩;simp only[Jl];rw[q2];exact m2 n hn d hd
theorem jeK (nd:Bool):∀ (c:Code) (C:XC),wk P U c=some C->(nd=true->C.nd=true)->∀ (t:T AV) (L:Sl) (st:St) (Q:Out->Prop) (Kp:AV->Sl->St->Prop),z6 U t L->xC P base C L st Q Kp->
  ∃ r N D,RX U nd st r Q Kp/\∀ n,N<=n->∀ d,D<=d->(comp P U c).run (evC P base n d) n t st=r:=by
 intro c;induction c with
 |skip=>
  intro C hl hnd t L st Q Kp ht hw;cases hl;exact⟨.go t st,0,0,⟨L,ht,λ_=>rfl,hw⟩,λ_ _ _ _=>rfl⟩
 |region id ops d=>
  intro C hl hnd t L st Q Kp ht hw;cases d with
  |false=>
   obtain⟨l,h1,rfl⟩:=Go.Sy.map_some hl;exact Wg nd _ _ _ _ _ _ h1 (HasO.of_t ht) hnd hw
  |true=>
   obtain⟨ho,hl⟩:=zH hl;have hcomp:∀ call n,(comp P U (.region id ops true)).run call n t st=(X8 P U ops).run call n t [] [] st:=by
    intro call n;change (cond (zk P ops) (⟨λcall n t st=>(X8 P U ops).run call n t [] [] st⟩:CF) NOC).run call n t st=_;rw[ho];rfl
   have hdraw:∀ call n,(X8 P U ops).run call n t [] [] st=(qO P U ops (J0 U) (Qo P U ops) (λ_=>false) (QaD 0 (ops.size - 0)) (j8 0) []).run call n t [] [] st:=by
    intro call n;unfold X8;rw[List.range_eq_range'];rfl
   cases hc:calm P ops 0 ops.toList
   ·rw[hc] at hl;obtain⟨l,h1,rfl⟩:=Go.Sy.map_some hl;obtain⟨r,N,D,h3,h2⟩:=Wh ht nd ops.toList 0 l [] [] [] ⟨[],L⟩ st rfl h1 (HasO.of_t ht) hnd hw;exact⟨r,N,D,h3,λn hn d hd=>by rw[hcomp,hdraw];exact h2 n hn d hd⟩
   ·rw[hc] at hl;obtain⟨l,h1,rfl⟩:=Go.Sy.map_some hl;obtain⟨r,N,D,h3,h2⟩:=Wi ht nd ops.toList 0 l [] [] [] ⟨[],L⟩ st rfl hc h1 (HasO.of_t ht) hnd hw;exact⟨r,N,D,h3,λn hn d hd=>by rw[hcomp,hdraw];exact h2 n hn d hd⟩
 |seq x y ihx ihy=>
  intro C hl hnd t L st Q Kp ht hw;obtain⟨cx,h1,hl⟩:=bind_some hl;obtain⟨cy,h2,rfl⟩:=Go.Sy.map_some hl;obtain⟨r,N,D,h4,h5⟩:=ihx cx h1 (λhn=>(qj (hnd hn)).1) t L st _ _ ht hw;have hcomp:∀ call n,(comp P U (.seq x y)).run call n t st=match (comp P U x).run call n t st with | .go env st=>(comp P U y).run call n env st|r=>r:=λ_ _=>rfl
  cases r with
  |no=>exact h4.elim
  |go t' st'=>
   obtain⟨L',h6,h7,h3⟩:=h4;obtain⟨r2,N2,D2,k1,k3⟩:=ihy cy h2 (λhn=>(qj (hnd hn)).2) t' L' st' Q Kp h6 h3;refine⟨r2,max N N2,max D D2,k1.fr h7,λn hn d hd=>?_⟩;rw[hcomp,h5 n (Qas (QaC _ _) hn) d (Qas (QaC _ _) hd)];exact k3 n (Qas (QaB _ _) hn) d (Qas (QaB _ _) hd)
  |ex i t' st'=>exact⟨.ex i t' st',N,D,h4,λn hn d hd=>by rw[hcomp,h5 n hn d hd]⟩
  |rt t' st'=>exact⟨.rt t' st',N,D,h4,λn hn d hd=>by rw[hcomp,h5 n hn d hd]⟩
  |pn v t' st'=>exact⟨.pn v t' st',N,D,h4,λn hn d hd=>by rw[hcomp,h5 n hn d hd]⟩
 |cond x a b iha ihb=>
  intro C hl hnd t L st Q Kp ht hw;obtain⟨cx,h0,hl⟩:=bind_some hl;obtain⟨ca,h1,hl⟩:=bind_some hl;obtain⟨cb,h2,rfl⟩:=Go.Sy.map_some hl;obtain⟨h3,h4⟩:=hw;have hv:=(ju (u6 U [] t []) h0).trans ((HasO.of_t ht).val h3);have hcomp:∀ call n,(comp P U (.cond x a b)).run call n t st=match (jy U [] x).run ⟨t,[]⟩ with | .bool q=>_root_.cond q ((comp P U a).run call n t st) ((comp P U b).run call n t st)|_=>.no:=λ_ _=>rfl
  unfold Y9 at h4;cases hk:vl ⟨[],L⟩ cx<;>rw[hk] at h4<;>try(exact h4.elim)
  rename_i q;rw[hk] at hv;cases q
  ·obtain⟨r,N,D,k1,k3⟩:=ihb cb h2 (λhn=>(qj (hnd hn)).2) t L st Q Kp ht h4;refine⟨r,N,D,k1,λn hn d hd=>?_⟩;rw[hcomp,hv];exact k3 n hn d hd
  ·obtain⟨r,N,D,k1,k3⟩:=iha ca h1 (λhn=>(qj (hnd hn)).1) t L st Q Kp ht h4;refine⟨r,N,D,k1,λn hn d hd=>?_⟩;rw[hcomp,hv];exact k3 n hn d hd
 |block id x ih=>
  intro C hl hnd t L st Q Kp ht hw;obtain⟨cx,h1,rfl⟩:=Go.Sy.map_some hl;obtain⟨r,N,D,h4,h5⟩:=ih cx h1 hnd t L st _ _ ht hw;have hcomp:∀ call n,(comp P U (.block id x)).run call n t st=match (comp P U x).run call n t st with | .ex id' env st=>_root_.cond (Qap id' id) (.go env st) (.ex id' env st)|r=>r:=λ_ _=>rfl
  cases r with
  |no=>exact h4.elim
  |go t' st'=>exact⟨.go t' st',N,D,h4,λn hn d hd=>by rw[hcomp,h5 n hn d hd]⟩
  |rt t' st'=>exact⟨.rt t' st',N,D,h4,λn hn d hd=>by rw[hcomp,h5 n hn d hd]⟩
  |pn v t' st'=>exact⟨.pn v t' st',N,D,h4,λn hn d hd=>by rw[hcomp,h5 n hn d hd]⟩
  |ex i t' st'=>
   obtain⟨L',h6,h7,h3⟩:=h4;simp only[qV] at h3;cases hb:Qap i id
   ·rw[hb] at h3;exact⟨.ex i t' st',N,D,⟨L',h6,h7,h3⟩,λn hn d hd=>by rw[hcomp,h5 n hn d hd];dsimp only;rw[hb];rfl⟩
   ·rw[hb] at h3;exact⟨.go t' st',N,D,⟨L',h6,h7,h3⟩,λn hn d hd=>by rw[hcomp,h5 n hn d hd];dsimp only;rw[hb];rfl⟩
 |loop x ih=>
  intro C hl hnd t L st Q Kp ht hw;obtain⟨cx,h1,rfl⟩:=Go.Sy.map_some hl;obtain⟨m,hm⟩:=hw;have key:∀ m t L st,z6 U t L->Z3 (λL st Q=>xC P base cx L st Q Kp) m L st Q->∃ r N D,RX U nd st r Q Kp/\∀ n,N<=n->∀ d,D<=d->∀ k,m<=k->Y5 (comp P U x) (evC P base n d) n k t st=r:=by
   intro m;induction m with
   |zero=>intro t L st _ h;exact h.elim
   |succ m ihm=>
    intro t L st ht h;obtain⟨r,N,D,h4,h5⟩:=ih cx h1 hnd t L st _ _ ht h;have one:∀ r',(∀ n,N<=n->∀ d,D<=d->(comp P U x).run (evC P base n d) n t st=r')->(∀ t s,r'≠.go t s)->∀ n,N<=n->∀ d,D<=d->∀ k,m+1<=k->Y5 (comp P U x) (evC P base n d) n k t st=r':=by
     intro r' hr' hne n hn d hd k hk;obtain⟨k',rfl⟩:∃ k',k=k'+1:=⟨k - 1,by omega⟩;rw[WM,hr' n hn d hd];cases r' with
     |go t s=>exact absurd rfl (hne t s)
     |_=>rfl
    cases r with
    |no=>exact h4.elim
    |go t' st'=>
     obtain⟨L',h6,h7,h3⟩:=h4;obtain⟨r2,N2,D2,k1,k3⟩:=ihm t' L' st' h6 h3;refine⟨r2,max N N2,max D D2,k1.fr h7,λn hn d hd k hk=>?_⟩;obtain⟨k',rfl⟩:∃ k',k=k'+1:=⟨k - 1,by omega⟩;rw[WM,h5 n (Qas (QaC _ _) hn) d (Qas (QaC _ _) hd)];exact k3 n (Qas (QaB _ _) hn) d (Qas (QaB _ _) hd) k' (by omega)
    |ex i t' st'=>exact⟨.ex i t' st',N,D,h4,one _ h5 λ_ _ h=>by cases h⟩
    |rt t' st'=>exact⟨.rt t' st',N,D,h4,one _ h5 λ_ _ h=>by cases h⟩
    |pn v t' st'=>exact⟨.pn v t' st',N,D,h4,one _ h5 λ_ _ h=>by cases h⟩
  obtain⟨r,N,D,k1,k3⟩:=key m t L st ht hm;exact⟨r,max N m,D,k1,λn hn d hd=>k3 n (Qas (QaC _ _) hn) d hd n (Qas (QaB _ _) hn)⟩
 |exit id=>
  intro C hl hnd t L st Q Kp ht hw;cases hl;exact⟨.ex id t st,0,0,⟨L,ht,λ_=>rfl,hw⟩,λ_ _ _ _=>rfl⟩
 |ret=>
  intro C hl hnd t L st Q Kp ht hw;cases hl;exact⟨.rt t st,0,0,⟨L,ht,λ_=>rfl,hw⟩,λ_ _ _ _=>rfl⟩
 |_=>intro C hl;cases hl
end
end Go.Sy
end
noncomputable section
namespace Go.Sy
open Go.Ev Go.RowKit
section
variable {P:Program} {base:Bs}
theorem Ho {fn:Func}{c:Code}(args:List AV):z6 (qz fn c) (yY args 0 .e) (jn ((QaN (fn.params.size+fn.nfree)).filter (inU (qz fn c))) args):=by
 intro x hx;obtain⟨k1,k2⟩:=jaB hx;refine⟨by simpa using (List.mem_filter.1 k1).2,?_⟩;rw[k2,XE];by_cases hlt:x<args.length
 ·rw[if_pos (by simp;omega)];simp
 ·rw[if_neg (by simp;omega)];simp only[yH,Qg,Option.getD_none];simp[QaI,List.getElem?_eq_none (by omega:args.length<=x)]
theorem Hz {s:St}(h:s.fr=[]):s.bare=s:=by
 cases s;simp only at h;subst h;rfl
theorem YL {fn:Func}{U:Nat}{res:List RV}(hr:WL P fn.results.toList=some res){K Kp:AV->St->Prop}{L:Sl}{t:T AV}(ht:z6 U t L):∀ (ds:List (FuncId×List AV)) (st:St) (m:Md),yc P base res K Kp ds L st m->
  ∃ r N D,Xo r K Kp/\∀ n,N<=n->∀ d,D<=d->yx P U ⟨λf args m st=>(yh P f).run (evC P base n d) n args m st⟩ fn.results.toList ds t st m=r
 |[],st,m,h=>by
  cases m with
  |calm=>
   obtain⟨vs,q1,q2⟩:=Zm ht hr h;refine⟨.ok (yF vs) st,0,0,q2,λn _ d _=>?_⟩;show(match qZ P U fn.results.toList ⟨t,[]⟩ st with|some vs=>ER.ok (yF vs) st|none=>.no)=_;rw[q1]
  |pan v=>exact⟨.pn v st,0,0,h,λ_ _ _ _=>rfl⟩
  |done=>exact h.elim
 |d :: ds,st,m,h=>by
  obtain⟨m',st',⟨N,D,h1⟩,h2⟩:=h;have key:∀ m2,yc P base res K Kp ds L st'.bare m2->(m2=match m' with | .calm=>.calm | .pan v=>.pan v | .done=>.calm)->
    ∃ r N D,Xo r K Kp/\∀ n,N<=n->∀ d',D<=d'->yx P U ⟨λf args m st=>(yh P f).run (evC P base n d') n args m st⟩ fn.results.toList (d :: ds) t st m=r:=by
   intro m2 h3 he;obtain⟨r,N2,D2,h4,h5⟩:=YL hr ht ds st'.bare m2 h3;refine⟨r,max N N2,max D D2,h4,λn hn d' hd=>?_⟩;have e1:=h1 n (Qas (QaC _ _) hn) d' (Qas (QaC _ _) hd);have e2:=h5 n (Qas (QaB _ _) hn) d' (Qas (QaB _ _) hd);have:yx P U ⟨λf args m st=>(yh P f).run (evC P base n d') n args m st⟩ fn.results.toList (d :: ds) t st m =
    (match (yh P d.1).run (evC P base n d') n d.2 m st.bare with
     |.ok m' st'=>(match m' with
      |.calm=>yx P U ⟨λf args m st=>(yh P f).run (evC P base n d') n args m st⟩ fn.results.toList ds t st'.bare .calm
      |.pan v=>yx P U ⟨λf args m st=>(yh P f).run (evC P base n d') n args m st⟩ fn.results.toList ds t st'.bare (.pan v)
      |.done=>yx P U ⟨λf args m st=>(yh P f).run (evC P base n d') n args m st⟩ fn.results.toList ds t st'.bare .calm)
     |.no=>.no):=rfl
   rw[this,e1];cases m'<;>(subst he;exact e2)
  cases m' with
  |calm=>exact key _ h2 rfl
  |pan v=>exact key _ h2 rfl
  |done=>exact key _ h2 rfl
def BX (P:Program)(base:Bs)(f:FuncId)(args:List AV)(st:St)(K Kp:AV->St->Prop):Prop:=
 ∃ r,(∃ N D,∀ n,N<=n->∀ d,D<=d->(JT P f).run (evC P base n d) n args st=r)/\Xo r K Kp
theorem hH {f:FuncId}{F:XF}(hl:jO P f=some F){args:List AV}{st:St}{K Kp:AV->St->Prop}(nd:Bool)(hnd:nd=true->F.body.nd=true){Q:Out->Prop}{Kq:AV->Sl->St->Prop}
  (hQ:∀ o,Q o->match o with | .go L s=>(nd=true->s.fr=[])->yc P base F.res K Kp s.fr L s.bare .calm | .rt L s=>(nd=true->s.fr=[])->yc P base F.res K Kp s.fr L s.bare .calm | .ex _ _ _=>False)
  (hKq:∀ v L s,Kq v L s->(nd=true->s.fr=[])->yc P base F.res K Kp s.fr L s.bare (.pan v))
  (h:xC P base F.body (jn F.ps args) st.bare Q Kq):BX P base f args st K Kp:=by
 unfold jO at hl;cases hf:P.funcs[f]? with
 |none=>rw[hf] at hl;cases hl
 |some fn=>
  rw[hf] at hl;dsimp only at hl;cases hbd:fn.body with
  |none=>rw[hbd] at hl;cases hl
  |some c=>
   rw[hbd] at hl;dsimp only at hl;obtain⟨b,h1,hl⟩:=bind_some hl;obtain⟨r,h2,rfl⟩:=Go.Sy.map_some hl;dsimp only at h hQ hKq hnd;obtain⟨r',N,D,k1,k3⟩:=jeK nd c b h1 hnd _ _ _ _ _ (Ho args) h;have hrun:∀ n d,(JT P f).run (evC P base n d) n args st=match (comp P (qz fn c) c).run (evC P base n d) n (yY args 0 .e) st.bare with
     |.go env st=>yx P (qz fn c) ⟨λf args m st=>(yh P f).run (evC P base n d) n args m st⟩ fn.results.toList st.fr env st.bare .calm
     |.rt env st=>yx P (qz fn c) ⟨λf args m st=>(yh P f).run (evC P base n d) n args m st⟩ fn.results.toList st.fr env st.bare .calm
     |.pn v env st=>yx P (qz fn c) ⟨λf args m st=>(yh P f).run (evC P base n d) n args m st⟩ fn.results.toList st.fr env st.bare (.pan v)
     |_=>.no:=by
    intro n d;unfold JT gU;rw[hf];dsimp only;rw[hbd];rfl
   have fin:∃ r N D,Xo r K Kp/\∀ n,N<=n->∀ d,D<=d->(JT P f).run (evC P base n d) n args st=r:=by
    have leave:∀ (t:T AV) (L:Sl) (s:St) (m:Md),z6 (qz fn c) t L->yc P base r K Kp s.fr L s.bare m->(∀ n,N<=n->∀ d,D<=d->(JT P f).run (evC P base n d) n args st=yx P (qz fn c) ⟨λf args m st=>(yh P f).run (evC P base n d) n args m st⟩ fn.results.toList s.fr t s.bare m)->
      ∃ r N D,Xo r K Kp/\∀ n,N<=n->∀ d,D<=d->(JT P f).run (evC P base n d) n args st=r:=by
     intro t L s m ht hr he;obtain⟨r2,N2,D2,q1,q2⟩:=YL h2 ht s.fr s.bare m hr;refine⟨r2,max N N2,max D D2,q1,λn hn d hd=>?_⟩;rw[he n (Qas (QaC _ _) hn) d (Qas (QaC _ _) hd)];exact q2 n (Qas (QaB _ _) hn) d (Qas (QaB _ _) hd)
    cases r' with
    |no=>exact k1.elim
    |go t s=>
     obtain⟨L,h6,h7,h8⟩:=k1;exact leave t L s .calm h6 (hQ _ h8 h7) λn hn d hd=>by rw[hrun,k3 n hn d hd]
    |rt t s=>
     obtain⟨L,h6,h7,h8⟩:=k1;exact leave t L s .calm h6 (hQ _ h8 h7) λn hn d hd=>by rw[hrun,k3 n hn d hd]
    |ex i t s=>
     obtain⟨L,h6,h7,h8⟩:=k1;exact(hQ _ h8).elim
    |pn v t s=>
     obtain⟨L,h6,h7,h8⟩:=k1;exact leave t L s (.pan v) h6 (hKq _ _ _ h8 h7) λn hn d hd=>by rw[hrun,k3 n hn d hd]
   obtain⟨r2,N2,D2,q1,q2⟩:=fin;exact⟨r2,⟨N2,D2,q2⟩,q1⟩
theorem BX.cx {f:FuncId}{args:List AV}{st:St}(hb:base.at0 f args st){K Kp:AV->St->Prop}(h:BX P base f args st K Kp):CX P base f args st K Kp:=by
 obtain⟨r2,⟨N2,D2,q2⟩,q1⟩:=h;refine⟨r2,⟨N2,D2+1,λn hn d hd=>?_⟩,q1⟩;obtain⟨d',rfl⟩:∃ d',d=d'+1:=⟨d - 1,by omega⟩;simp only[evC,hb.1,hb.2,wj];exact q2 n hn d' (by omega)
theorem YT {f:FuncId}{F:XF}(hl:jO P f=some F)(hnd:F.body.nd=true){args:List AV}{st:St}{K Kp:AV->St->Prop}
  (h:xC P base F.body (jn F.ps args) st.bare (XM P F.res K) λv _ s=>Kp v s.bare):BX P base f args st K Kp:=by
 refine hH hl true (λ_=>hnd) (λo ho=>?_) (λv L s hk hfr=>?_) h
 ·cases o with
  |go L s=>
   intro hfr;rw[hfr rfl];have hs:=Hz (hfr rfl);rw[hs];have ho':qS P F.res L s λvs=>K (yF vs) s.bare:=ho;rw[hs] at ho';exact ho'
  |rt L s=>
   intro hfr;rw[hfr rfl];have hs:=Hz (hfr rfl);rw[hs];have ho':qS P F.res L s λvs=>K (yF vs) s.bare:=ho;rw[hs] at ho';exact ho'
  |ex i L s=>exact ho.elim
 ·rw[hfr rfl];exact hk
theorem jeg {f:FuncId}{F:XF}(hl:jO P f=some F)(hnd:F.body.nd=true){args:List AV}{st:St}(hb:base.at0 f args st){K Kp:AV->St->Prop}
 (h:xC P base F.body (jn F.ps args) st.bare (XM P F.res K) λv _ s=>Kp v s.bare):CX P base f args st K Kp:=(YT hl hnd h).cx hb
theorem jev {f:FuncId}{F:XF}(hl:jO P f=some F){args:List AV}{st:St}{K Kp:AV->St->Prop}
  (h:xC P base F.body (jn F.ps args) st.bare (gD P base F.res K Kp) (WD P base F.res K Kp)):BX P base f args st K Kp:=by
 refine hH hl false (λh=>by cases h) (λo ho=>?_) (λv L s hk _=>hk) h;cases o with
 |go L s=>exact λ_=>ho
 |rt L s=>exact λ_=>ho
 |ex i L s=>exact ho.elim
theorem UU {f:FuncId}{H:XH}(hl:jaa P f=some H)(hnd:cond H.body.nd (H.ops.all λs=>s.k.nd) false=true){args:List AV}{m:Md}{st:St}(hfr:st.fr=[]){K:Md->St->Prop}
  (h:xO P base H.ops (qC H.dst H.keep (QM m) ⟨[],jn H.ps args⟩) st (λe s=>xC P base H.body e.g s (jaC P H.res (Q6 m) K) λ_ _ _=>False) λ_ _ _=>False):DX P base f args m st K:=by
 unfold jaa at hl;cases hf:P.funcs[f]? with
 |none=>rw[hf] at hl;cases hl
 |some fn=>
  rw[hf] at hl;dsimp only at hl;split at hl
  ·rename_i id ops c hbd;split at hl
   ·rename_i o l hops;obtain⟨hrec,hl⟩:=zH hl;obtain⟨q,h1,hl⟩:=bind_some hl;obtain⟨b,h2,hl⟩:=bind_some hl;obtain⟨r,h3,rfl⟩:=Go.Sy.map_some hl;dsimp only at h hnd;obtain⟨hn1,hn2⟩:=qj hnd;generalize hU:qz fn (.seq (.region id ops false) c)=U at *;have h0:HasO U (j6 o.dst []) (yY args 0 .e) ((yf o.dst).run (QM m) []) (qC o.dst (J8 U o.dst) (QM m) ⟨[],jn ((QaN (fn.params.size+fn.nfree)).filter (inU U)) args⟩):=by
     have ht:z6 U (yY args 0 .e) (jn ((QaN (fn.params.size+fn.nfree)).filter (inU U)) args):=by
      rw[<-hU];exact Ho args
     exact(HasO.of_t ht).push o.dst (QM m)
    obtain⟨r1,N1,D1,k1,k2⟩:=Wg (Q:=JY (λL s=>xC P base b L s (jaC P r (Q6 m) K) λ_ _ _=>False) (jaC P r (Q6 m) K)) true l q _ _ _ st h1 h0 (λ_=>hn2) h;have hrun:∀ n d,(yh P f).run (evC P base n d) n args m st=WO P fn U (Q6 m) (match (yo P U ops l (j6 o.dst [])).run (evC P base n d) n (yY args 0 .e) ((yf o.dst).run (QM m) []) st with
      |.go env st=>(comp P U c).run (evC P base n d) n env st
      |r=>r):=by
     intro n d;unfold yh;rw[hf];dsimp only;rw[hbd];dsimp only;rw[hops];dsimp only;rw[hrec,hU];rfl
    have left:∀ (t:T AV) (L:Sl) (s:St),z6 U t L->s.fr=[]->qS P r L s (λ_=>K (Q6 m) s)->∃ m' s',(match s.fr with|[]=>(match qZ P U fn.results.toList ⟨t,[]⟩ s with|some _=>DR.ok (Q6 m) s|none=>.no)|_=>.no)=.ok m' s'/\K m' s':=by
     intro t L s ht hs hr;obtain⟨vs,q1,q2⟩:=Zm ht h3 hr;refine⟨_,_,?_,q2⟩;rw[hs];dsimp only;rw[q1]
    cases r1 with
    |no=>exact k1.elim
    |ex i t s=>obtain⟨L,h6,h7,h8⟩:=k1;exact h8.elim
    |rt t s=>
     obtain⟨L,h6,h7,h8⟩:=k1;obtain⟨m',s',e1,e2⟩:=left t L s h6 ((h7 rfl).trans hfr) h8;refine⟨m',s',⟨N1,D1,λn hn d hd=>?_⟩,e2⟩;rw[hrun,k2 n hn d hd];exact e1
    |pn v t s=>obtain⟨L,h6,h7,h8⟩:=k1;exact h8.elim
    |go t s=>
     obtain⟨L,h6,h7,h8⟩:=k1;obtain⟨r2,N2,D2,k4,k5⟩:=jeK true c b h2 (λ_=>hn1) t L s _ _ h6 h8;have e0:∀ n,max N1 N2<=n->∀ d,max D1 D2<=d->(yh P f).run (evC P base n d) n args m st=WO P fn U (Q6 m) r2:=by
      intro n hn d hd;rw[hrun,k2 n (Qas (QaC _ _) hn) d (Qas (QaC _ _) hd)];dsimp only;rw[k5 n (Qas (QaB _ _) hn) d (Qas (QaB _ _) hd)]
     cases r2 with
     |no=>exact k4.elim
     |ex i t s=>obtain⟨L,_,_,h8⟩:=k4;exact h8.elim
     |pn v t s=>obtain⟨L,_,_,h8⟩:=k4;exact h8.elim
     |go t s2=>
      obtain⟨L2,g6,g7,g8⟩:=k4;obtain⟨m',s',e1,e2⟩:=left t L2 s2 g6 (((g7 rfl).trans (h7 rfl)).trans hfr) g8;exact⟨m',s',⟨_,_,λn hn d hd=>by rw[e0 n hn d hd];exact e1⟩,e2⟩
     |rt t s2=>
      obtain⟨L2,g6,g7,g8⟩:=k4;obtain⟨m',s',e1,e2⟩:=left t L2 s2 g6 (((g7 rfl).trans (h7 rfl)).trans hfr) g8;exact⟨m',s',⟨_,_,λn hn d hd=>by rw[e0 n hn d hd];exact e1⟩,e2⟩
   ·cases hl
  ·cases hl
theorem jaL {fv:AV}{vs:List AV}{st:St}{K Kp K' Kp':AV->St->Prop}(h:Yb P base fv vs st K Kp)(h1:∀ v s,K v s->K' v s)(h2:∀ v s,Kp v s->Kp' v s):Yb P base fv vs st K' Kp':=by
 unfold Yb at h ⊢;split at h
 ·exact CX.mono h (λv s=>h1 v _) (λv s=>h2 v _)
 ·exact h
theorem Vv {k:XK}{e:En}{st:St}{K Kp K' Kp':AV->St->Prop}(h:xK P base k e st K Kp)(h1:∀ v s,K v s->K' v s)(h2:∀ v s,Kp v s->Kp' v s):xK P base k e st K' Kp':=by
 cases k with
 |i i=>exact⟨h.1,Uy h.2 h1⟩
 |call f l=>exact⟨h.1,h.2.1,jaL h.2.2 h1 h2⟩
 |pan x=>
  refine⟨h.1,?_⟩;have h3:=h.2;unfold KU at h3 ⊢;split at h3
  ·exact h2 _ _ h3
  ·exact h3
 |defer f l=>
  refine⟨h.1,h.2.1,?_⟩;have h3:=h.2.2;unfold vz at h3 ⊢;split at h3
  ·exact h1 _ _ h3
  ·exact h3
theorem Vu:∀ {l:List XS} {e:En} {st:St} {K K':En->St->Prop} {Kp:AV->Sl->St->Prop},xO P base l e st K Kp->(∀ e st,K e st->K' e st)->xO P base l e st K' Kp
 |[],e,st,K,K',Kp,h,hk=>hk e st h
 |s :: l,e,st,K,K',Kp,h,hk=>uj h (λh=>Vv h (λv st' h=>Vu h hk) λ_ _ h=>h) λh=>Vu h hk
theorem uM {L0:Sl}:∀ {l:List (XS×Option (List XD))} {e:En} {st:St} {K K':En->St->Prop} {Kp:AV->Sl->St->Prop},xCO P base L0 l e st K Kp->(∀ e st,K e st->K' e st)->xCO P base L0 l e st K' Kp
 |[],e,st,K,K',Kp,h,hk=>hk e st h
 |s :: l,e,st,K,K',Kp,h,hk=>uj h (λh=>Vv h (λv st' h=>uM h hk) λ_ _ h=>h) λh=>uM h hk
theorem uL {L0:Sl}:∀ {l:List (XD×Option (List XD))} {e:En} {tb:List TE} {st:St} {K K':En->St->Prop} {Kp:AV->Sl->St->Prop},xDO P base L0 l e tb st K Kp->(∀ e st,K e st->K' e st)->xDO P base L0 l e tb st K' Kp
 |[],e,tb,st,K,K',Kp,h,hk=>hk e st h
 |s :: l,e,tb,st,K,K',Kp,h,hk=>uj h (λh=>Vv h (λv st' h=>⟨h.1,uL h.2 hk⟩) λ_ _ h=>h) λh=>uL h hk
theorem GG {Kp:AV->Sl->St->Prop}:∀ (c:XC) (L:Sl) (st:St) (Q Q':Out->Prop),xC P base c L st Q Kp->(∀ o,Q o->Q' o)->xC P base c L st Q' Kp:=by
 intro c;induction c with
 |skip=>exact λL st Q Q' h hk=>hk _ h
 |ops l=>exact λL st Q Q' h hk=>Vu (P:=P) (base:=base) h λe st h=>hk _ h
 |cops l=>exact λL st Q Q' h hk=>uM (P:=P) (base:=base) h λe st h=>hk _ h
 |dops l=>exact λL st Q Q' h hk=>uL (P:=P) (base:=base) h λe st h=>hk _ h
 |seq a b iha ihb=>exact λL st Q Q' h hk=>iha L st _ _ h (Uh (λL st h=>ihb L st _ _ h hk) hk)
 |cond x a b iha ihb=>
  intro L st Q Q' h hk;obtain⟨h1,h2⟩:=h;refine⟨h1,?_⟩;unfold Y9 at h2 ⊢;cases hv:vl ⟨[],L⟩ x<;>rw[hv] at h2<;>try(exact h2.elim)
  rename_i q;cases q
  ·exact ihb L st _ _ h2 hk
  ·exact iha L st _ _ h2 hk
 |block id a iha=>exact λL st Q Q' h hk=>iha L st _ _ h (Gw hk)
 |loop a iha=>
  intro L st Q Q' h hk;obtain⟨n,h⟩:=h;exact⟨n,Wj (λL st Q Q'=>iha L st Q Q') hk n L st h⟩
 |exit id=>exact λL st Q Q' h hk=>hk _ h
 |ret=>exact λL st Q Q' h hk=>hk _ h
theorem zI {a:XC}{Q:Out->Prop}{Kp:AV->Sl->St->Prop}(I:Nat->Sl->St->Prop)(step:∀ k L st,I k L st->Gj (xC P base a L st (JY (λL' st'=>∃ k',k'<k/\I k' L' st') Q) Kp))(k:Nat){L:Sl}{st:St}(h:I k L st):xC P base (.loop a) L st Q Kp:=
 jb6 (w:=λL st Q=>xC P base a L st Q Kp) (λL st Q Q'=>GG a L st Q Q') I step k L st h
section
variable {L:Sl} {st:St} {Q:Out->Prop} {Kp:AV->Sl->St->Prop} {e:En} {K:En->St->Prop}
theorem Km:xC P base .skip L st Q Kp=Q (.go L st):=nr rfl
theorem kf (l:List XS):xC P base (.ops l) L st Q Kp=xO P base l ⟨[],L⟩ st (λe st'=>Q (.go e.g st')) Kp:=nr rfl
theorem ja2 (l:List (XS×Option (List XD))):xC P base (.cops l) L st Q Kp=xCO P base L l ⟨[],L⟩ st (λe st'=>Q (.go e.g st')) Kp:=nr rfl
theorem ja0 (l:List (XD×Option (List XD))):xC P base (.dops l) L st Q Kp=xDO P base L l ⟨[],L⟩ [] st (λe st'=>Q (.go e.g st')) Kp:=nr rfl
theorem ja1 (L0:Sl)(tb:List TE):xDO P base L0 [] e tb st K Kp=K e st:=nr rfl
theorem Kt (L0:Sl)(d:Option Nat)(kp:Bool)(b:Option (List XD))(k:XK)(te:Option (Option A))(lt:TypeId)(prt:List (Nat×TypeId))(l:List (XD×Option (List XD)))(tb:List TE) :
 xDO P base L0 ((⟨⟨d,kp,none,k⟩,te,lt,prt⟩,b) :: l) e tb st K Kp=xK P base k e st (λv st'=>held P lt (teW te e v st st') tb prt=true/\xDO P base L0 l (qC d kp v e) (teW te e v st st' :: tb) st' K Kp) λv st'=>JR P b e tb st (Kp v L0 st'):=nr rfl
theorem Ks (L0:Sl)(d:Option Nat)(kp:Bool)(b:Option (List XD))(x:Nat)(want:Bool)(k:XK)(te:Option (Option A))(lt:TypeId)(prt:List (Nat×TypeId))(l:List (XD×Option (List XD)))(tb:List TE) :
 xDO P base L0 ((⟨⟨d,kp,some (x,want),k⟩,te,lt,prt⟩,b) :: l) e tb st K Kp=on1 e (.t x) λv=>onG v want (xK P base k e st (λv st'=>held P lt (teW te e v st st') tb prt=true/\xDO P base L0 l (qC d kp v e) (teW te e v st st' :: tb) st' K Kp) λv st'=>JR P b e tb st (Kp v L0 st')) (xDO P base L0 l (qC d kp j1 e) (.none :: tb) st K Kp):=nr rfl
theorem ke (a b:XC):xC P base (.seq a b) L st Q Kp=xC P base a L st (JY (λL' st'=>xC P base b L' st' Q Kp) Q) Kp:=nr rfl
theorem vM (id:Nat)(a:XC):xC P base (.block id a) L st Q Kp=xC P base a L st (qV id Q) Kp:=nr rfl
theorem Ko (id:Nat):xC P base (.exit id) L st Q Kp=Q (.ex id L st):=nr rfl
theorem jeI:xC P base .ret L st Q Kp=Q (.rt L st):=nr rfl
theorem Ku (x:A)(a b:XC):xC P base (.cond x a b) L st Q Kp=on1 ⟨[],L⟩ x λv=>Y9 v (xC P base a L st Q Kp) (xC P base b L st Q Kp):=nr rfl
theorem kg:xO P base [] e st K Kp=K e st:=nr rfl
theorem vL (d:Option Nat)(kp:Bool)(k:XK)(l:List XS) :
 xO P base (⟨d,kp,none,k⟩ :: l) e st K Kp=xK P base k e st (λv st'=>xO P base l (qC d kp v e) st' K Kp) λv st'=>Kp v e.g st':=nr rfl
theorem GE (d:Option Nat)(kp:Bool)(x:Nat)(want:Bool)(k:XK)(l:List XS) :
 xO P base (⟨d,kp,some (x,want),k⟩ :: l) e st K Kp=on1 e (.t x) λv=>onG v want (xK P base k e st (λv st'=>xO P base l (qC d kp v e) st' K Kp) λv st'=>Kp v e.g st') (xO P base l (qC d kp j1 e) st K Kp):=nr rfl
theorem ja3 (L0:Sl):xCO P base L0 [] e st K Kp=K e st:=nr rfl
theorem Kw (L0:Sl)(d:Option Nat)(kp:Bool)(b:Option (List XD))(k:XK)(l:List (XS×Option (List XD))) :
 xCO P base L0 ((⟨d,kp,none,k⟩,b) :: l) e st K Kp=xK P base k e st (λv st'=>xCO P base L0 l (qC d kp v e) st' K Kp) λv st'=>JR P b e [] st (Kp v L0 st'):=nr rfl
theorem Kv (L0:Sl)(d:Option Nat)(kp:Bool)(b:Option (List XD))(x:Nat)(want:Bool)(k:XK)(l:List (XS×Option (List XD))) :
 xCO P base L0 ((⟨d,kp,some (x,want),k⟩,b) :: l) e st K Kp=on1 e (.t x) λv=>onG v want (xK P base k e st (λv st'=>xCO P base L0 l (qC d kp v e) st' K Kp) λv st'=>JR P b e [] st (Kp v L0 st')) (xCO P base L0 l (qC d kp j1 e) st K Kp):=nr rfl
theorem GC (tb:List TE)(p:Prop):JR P (some []) e tb st p=p:=by simp[JR,xR]
theorem Vs (s:XD)(l:List XD)(tb:List TE)(p:Prop):JR P (some (s :: l)) e tb st p=(xR P (s :: l) e tb st/\p):=nr rfl
theorem jdq (tb:List TE):xR P [] e tb st=True:=nr rfl
theorem jdp (d:Option Nat)(kp:Bool)(i:Ins)(te:Option (Option A))(lt:TypeId)(prt:List (Nat×TypeId))(l:List XD)(tb:List TE) :
 xR P (⟨⟨d,kp,none,.i i⟩,te,lt,prt⟩ :: l) e tb st=wK P base (.i i) e st λv st'=>held P lt (teW te e v st st') tb prt=true/\xR P l (qC d kp v e) (teW te e v st st' :: tb) st':=nr rfl
end
section
variable {e:En} {st:St} {K Kp:AV->St->Prop}
theorem x_i (i:Ins):xK P base (.i i) e st K Kp=wK P base (.i i) e st K:=nr rfl
theorem ja4 (f:A)(l:List A):xK P base (.call f l) e st K Kp=on1 e f λfv=>YE e l λvs=>Yb P base fv vs st K Kp:=by
 simp only[xK,on1,ZJ]
theorem jeJ (x:A):xK P base (.pan x) e st K Kp=on1 e x λv=>KU v st Kp:=nr rfl
theorem GD (f:A)(l:List A):xK P base (.defer f l) e st K Kp=on1 e f λfv=>YE e l λvs=>vz fv vs st K:=by
 simp only[xK,on1,ZJ]
theorem jaZ (t:TypeId)(u:AV):KU (.iface t u) st Kp=Kp (.iface t u) st:=nr rfl
theorem Kn (res:List RV)(L:Sl)(f:FuncId)(vs:List AV)(ds:List (FuncId×List AV))(m:Md):yc P base res K Kp ((f,vs) :: ds) L st m=DX P base f vs m st.bare λm' st'=>(match m' with
 |.calm=>yc P base res K Kp ds L st'.bare .calm
 |.pan v=>yc P base res K Kp ds L st'.bare (.pan v)
 |.done=>yc P base res K Kp ds L st'.bare .calm):=nr rfl
end
end
end Go.Sy
end
noncomputable section
namespace Go.Sy
open Go.Ev Go.RowKit
def CB (P:Program)(base:Bs)(f:FuncId)(args:List AV)(st:St)(K:AV->St->Prop):Res K:=CW P base f args st λv st'=>K v (back st st')
def XB (P:Program)(base:Bs)(f:FuncId)(args:List AV)(st:St)(K Kp:AV->St->Prop):Res (K,Kp):=CX P base f args st (λv st'=>K v (back st st')) λv st'=>Kp v (back st st')
section
variable {P:Program} {base:Bs}
theorem CB.of {f:FuncId}{args:List AV}{st:St}{K:AV->St->Prop}(h:CW P base f args st λv st'=>K v (back st st')):CB P base f args st K:=h
theorem XB.of {f:FuncId}{args:List AV}{st:St}{K Kp:AV->St->Prop}(h:CX P base f args st (λv st'=>K v (back st st')) λv st'=>Kp v (back st st')):XB P base f args st K Kp:=h
theorem CB.x {f:FuncId}{args:List AV}{st:St}{K Kp:AV->St->Prop}(h:CB P base f args st K):XB P base f args st K Kp:=CW.cx h
theorem XB.cb {f:FuncId}{args:List AV}{st:St}{K:AV->St->Prop}(h:XB P base f args st K λ_ _=>False):CB P base f args st K:=CX.cw h
theorem CB.mono {f:FuncId}{args:List AV}{st:St}{K K':AV->St->Prop}(h:CB P base f args st K)(h1:∀ v s,K v s->K' v s):CB P base f args st K':=CW.mono h λv s=>h1 v _
theorem XB.mono {f:FuncId}{args:List AV}{st:St}{K Kp K' Kp':AV->St->Prop}(h:XB P base f args st K Kp)(h1:∀ v s,K v s->K' v s)(h2:∀ v s,Kp v s->Kp' v s):XB P base f args st K' Kp':=CX.mono h (λv s=>h1 v _) λv s=>h2 v _
def bk (st s:St):St:=back st s.bare
theorem Qz {f:FuncId}{F:XF}(hl:jO P f=some F)(hnd:F.body.nd=true){args:List AV}{st:St}(hb:base.at0 f args st){K Kp:AV->St->Prop}
 (h:xC P base F.body (jn F.ps args) st.bare (XM P F.res λv st'=>K v (back st st')) λv _ s=>Kp v (bk st s)):XB P base f args st K Kp:=jeg hl hnd hb h
theorem CB.gen {f:FuncId}{args:List AV}{st:St}{K:AV->St->Prop}(h:∀ u,u=st->CB P base f args u K):CB P base f args st K:=h st rfl
theorem XB.gen {f:FuncId}{args:List AV}{st:St}{K Kp:AV->St->Prop}(h:∀ u,u=st->XB P base f args u K Kp):XB P base f args st K Kp:=h st rfl
theorem Zw {c:XC}{L:Sl}{st:St}{Q:Out->Prop}{Kp:AV->Sl->St->Prop}(h:∀ u,u=st->xC P base c L u Q Kp):xC P base c L st Q Kp:=h st rfl
variable {st:St} {K Kp:AV->St->Prop}
theorem Kl (f:FuncId)(vs:List AV):Yb P base (.fn f []) vs st K Kp=XB P base f vs st K Kp:=by
 simp only[Yb,QbS];rfl
theorem Kk (f:FuncId)(caps vs:List AV):Yb P base (.fn f caps) vs st K Kp=XB P base f (vs ++ caps) st K Kp:=nr rfl
theorem Hx (s:St):back st s.bare=bk st s:=nr rfl
theorem Hw (s:St):bk st s.bare=bk st s:=nr rfl
end
end Go.Sy
end
noncomputable section
namespace Go.Sy
open Go.Ev Go.RowKit
def pc:AV->Bool
 |.bool _=>true | .int _ _=>true | .str _=>true | .zstr _=>true | .nilp=>true | .nilm=>true | .nilf=>true | .nilif=>true | .lst _ _=>true | .lptr _ _=>true | .fn _ []=>true
 |_=>false
def pa:AV->Bool
 |.agg cs=>cs.all pc
 |v=>pc v
theorem jaf {v:AV}(h:pc v=true)(d:Nat)(m:T AO):fz (d+1) m v=some (v,[]):=by
 cases v<;>first|(cases h;done)|rfl|skip
 case fn f caps=>cases caps with
  |nil=>rfl
  |cons c l=>cases h
theorem vk {d:Nat}{m:T AO}:∀ {l:List AV},l.all pc=true->fzs (fz (d+1) m) l=some (l,[])
 |[],_=>rfl
 |v :: l,h=>by
  simp only[QaZ,Qaz] at h;simp only[fzs];rw[jaf h.1,vk h.2];rfl
theorem jag {v:AV}(h:pa v=true)(d:Nat)(m:T AO):fz (d+2) m v=some (v,[]):=by
 unfold pa at h;split at h
 ·show(fzs (fz (d+1) m) _).map _=_;rw[vk h];rfl
 ·exact jaf h (d+1) m
theorem WV {d:Nat}{m:T AO}:∀ {l:List AV},l.all pa=true->fzs (fz (d+2) m) l=some (l,[])
 |[],_=>rfl
 |v :: l,h=>by
  simp only[QaZ,Qaz] at h;simp only[fzs];rw[jag h.1,WV h.2];rfl
def FzD (m d:Nat)(s:St)(v u:AV):Prop:=∃ ks,fz d s.h v=some (u,ks)/\∀ b∈ks,m<=b
def FzsD (m d:Nat)(s:St)(l r:List AV):Prop:=∃ ks,fzs (fz d s.h) l=some (r,ks)/\∀ b∈ks,m<=b
section
variable {m d:Nat} {s:St}
theorem FzD.pc {v:AV}(h:pc v=true):FzD m (d+1) s v v:=⟨[],jaf h d _,λ_ h=>by cases h⟩
theorem FzD.pa {v:AV}(h:pa v=true):FzD m (d+2) s v v:=⟨[],jag h d _,λ_ h=>by cases h⟩
theorem FzsD.pc {l:List AV}(h:l.all pc=true):FzsD m (d+1) s l l:=⟨[],vk h,λ_ h=>by cases h⟩
theorem FzD.nils:FzD m (d+1) s .nils (.lst 0 []):=⟨[],rfl,λ_ h=>by cases h⟩
theorem FzD.xlst {n:Nat}{cs:List AV}:FzD m (d+1) s (.xlst n cs) (.lst n cs):=⟨[],rfl,λ_ h=>by cases h⟩
theorem FzsD.nil:FzsD m d s [] []:=⟨[],rfl,λ_ h=>by cases h⟩
theorem FzsD.cons {v u:AV}{l r:List AV}(h:FzD m d s v u)(k:FzsD m d s l r):FzsD m d s (v :: l) (u :: r):=by
 obtain⟨ks,h1,h2⟩:=h;obtain⟨js,k1,k2⟩:=k;refine⟨ks ++ js,by simp only[fzs];rw[h1,k1],λb hb=>?_⟩;rcases Qbj.1 hb with h|h
 ·exact h2 b h
 ·exact k2 b h
theorem FzsD.append {l r l' r':List AV}(h:FzsD m d s l r)(k:FzsD m d s l' r'):FzsD m d s (l ++ l') (r ++ r'):=by
 induction l generalizing r with
 |nil=>
  obtain⟨ks,h1,h2⟩:=h;simp only[fzs,Option.some.injEq,Prod.mk.injEq] at h1;obtain⟨rfl,rfl⟩:=h1;exact k
 |cons v l ih=>
  obtain⟨ks,h1,h2⟩:=h;simp only[fzs] at h1;split at h1<;>try(cases h1;done)
  rename_i y k1 l1 k2 e1 e2;simp only[Option.some.injEq,Prod.mk.injEq] at h1;obtain⟨rfl,rfl⟩:=h1;exact FzsD.cons ⟨k1,e1,λb hb=>h2 b (List.mem_append_left _ hb)⟩ (ih ⟨k2,e2,λb hb=>h2 b (List.mem_append_right _ hb)⟩)
theorem FzD.agg {l r:List AV}(h:FzsD m d s l r):FzD m (d+1) s (.agg l) (.agg r):=by
 obtain⟨ks,h1,h2⟩:=h;exact⟨ks,by show(fzs (fz d s.h) l).map _=_;rw[h1];rfl,h2⟩
theorem FzD.tup {l r:List AV}(h:FzsD m d s l r):FzD m (d+1) s (.tup l) (.tup r):=by
 obtain⟨ks,h1,h2⟩:=h;exact⟨ks,by show(fzs (fz d s.h) l).map _=_;rw[h1];rfl,h2⟩
theorem FzD.iface {t:TypeId}{v u:AV}(h:FzD m d s v u):FzD m (d+1) s (.iface t v) (.iface t u):=by
 obtain⟨ks,h1,h2⟩:=h;exact⟨ks,by show(fz d s.h v).map _=_;rw[h1];rfl,h2⟩
def Rw (h:T AO)(b:Nat)(cs:List AV):Prop:=∃ n zl z c,jh h b=some (.row n zl z c)/\jF zl z c n 0=cs
theorem Rw.len {h:T AO}{b:Nat}{cs:List AV}(k:Rw h b cs):∃ n zl z c,jh h b=some (.row n zl z c)/\jF zl z c n 0=cs/\n=cs.length:=by
 obtain⟨n,zl,z,c,h1,h2⟩:=k;exact⟨n,zl,z,c,h1,h2,by rw[<-h2,qc];simp⟩
theorem U6 (zl:Nat)(z:List AV)(c:T AV){n o k:Nat}(h:o+k<=n):jF zl z c k o=((jF zl z c n 0).drop o).take k:=by
 rw[qc,qc];apply QbN
 ·simp;omega
 ·intro i h1 h2;simp
theorem FzD.slice {b n c sz:Nat}{x:Bool}{cs r:List AV}(hR:Rw s.h b cs)(hl:n * sz<=cs.length)(hb:m<=b)(h:FzsD m d s (cs.take (n * sz)) r):FzD m (d+1) s (.slice b 0 n c sz x) (.lst n r):=by
 obtain⟨k,zl,z,ct,h1,h2,h3⟩:=hR.len;obtain⟨ks,q1,q2⟩:=h;refine⟨b :: ks,?_,λb' hb'=>?_⟩
 ·show(match jh s.h b with
   |some (.row n' zl z cs)=>cond (Qak (Qaw 0 (Qar n sz)) n') ((fzs (fz d s.h) (jF zl z cs (Qar n sz) 0)).map λ(p:List AV×List Nat)=>(AV.lst n p.1,b :: p.2)) none
   |_=>none)=_
  rw[h1];dsimp only;have e1:Qak (Qaw 0 (Qar n sz)) k=true:=by rw[jY];show 0+n * sz<=k;omega
  have e2:jF zl z ct (Qar n sz) 0=cs.take (n * sz):=by
   rw[U6 zl z ct (n:=k) (o:=0) (by show 0+n * sz<=k;omega),h2,QbD];rfl
  rw[e1,e2,q1];rfl
 ·rcases Qbp.1 hb' with h|h
  ·rw[h];exact hb
  ·exact q2 b' h
end
inductive Oc where
 |ok (v:AV)
 |pn (v:AV)
def Oc.er:Oc->St->ER
 |.ok v,st=>.ok v st
 |.pn v,st=>.pn v st
def XG (o:Oc)(K Kp:AV->St->Prop)(st:St):Prop:=match o with | .ok v=>K v st | .pn v=>Kp v st
def X6 (G:AV->AV->St->Prop)(o:Oc):AV->St->Prop:=λv s=>match o with | .ok u=>G u v s | .pn _=>False
def XW (G:AV->AV->St->Prop)(o:Oc):AV->St->Prop:=λv s=>match o with | .pn u=>G u v s | .ok _=>False
theorem uW {r:ER}{G:AV->AV->St->Prop}{o:Oc}(h:Xo r (X6 G o) (XW G o)):∃ v s u,G u v s/\((r=.ok v s/\o=.ok u)\/(r=.pn v s/\o=.pn u)):=by
 cases r with
 |no=>exact h.elim
 |ok v s=>cases o with
  |ok u=>exact⟨v,s,u,h,.inl ⟨rfl,rfl⟩⟩
  |pn u=>exact h.elim
 |pn v s=>cases o with
  |ok u=>exact h.elim
  |pn u=>exact⟨v,s,u,h,.inr ⟨rfl,rfl⟩⟩
section
variable {P:Program} {base:Bs}
def PX (P:Program)(base:Bs)(f:FuncId)(aZ:List AV)(o:Oc):Prop:=∃ N D,∀ n,N<=n->∀ d,D<=d->∀ st aZ' ks,fzs (fz 9 st.h) aZ'=some (aZ,ks)->(∀ st,base.run f aZ' st=.no)->evC P base n d f aZ' st=o.er (qv ks st)
theorem PX.of {f:FuncId}{aZ:List AV}{o:Oc}(hm:base.pur f=1)(h:BX P base f aZ st0 (X6 (λu v s=>FzD 0 9 s v u) o) (XW (λu v s=>FzD 0 9 s v u) o)):PX P base f aZ o:=by
 obtain⟨r,⟨N,D,h1⟩,h2⟩:=h;refine⟨N,D+1,λn hn d hd st aZ' ks hf hb=>?_⟩;obtain⟨d',rfl⟩:∃ d',d=d'+1:=⟨d - 1,by omega⟩;simp only[evC,hb,hm,wj,kD,hf];have e:=h1 n hn d' (by omega);obtain⟨v,s,u,⟨ks,q1,_⟩,⟨q2,q3⟩|⟨q2,q3⟩⟩:=uW h2<;>(subst q3;rw[e,q2];dsimp only;rw[q1];rfl)
def Oc.flat:Oc->Bool | .ok v=>X3 v | .pn v=>X3 v
def PL (P:Program)(base:Bs)(f:FuncId)(aZ:List AV)(o:Oc):Prop:=∃ N D,∀ n,N<=n->∀ d,D<=d->∀ st aZ',wq st.h aZ'=some aZ->(∀ st,base.run f aZ' st=.no)->evC P base n d f aZ' st=o.er st
theorem PL.of {f:FuncId}{aZ:List AV}{o:Oc}(hm:base.pur f=5)(ho:o.flat=true)(h:BX P base f aZ st0 (X6 (λu v s=>FzD 0 9 s v u) o) (XW (λu v s=>FzD 0 9 s v u) o)):PL P base f aZ o:=by
 obtain⟨r,⟨N,D,h1⟩,h2⟩:=h;refine⟨N,D+1,λn hn d hd st aZ' hf hb=>?_⟩;obtain⟨d',rfl⟩:∃ d',d=d'+1:=⟨d - 1,by omega⟩;simp only[evC,hb,hm,wj,kM,hf];have e:=h1 n hn d' (by omega);obtain⟨v,s,u,⟨ks,q1,_⟩,⟨q2,q3⟩|⟨q2,q3⟩⟩:=uW h2<;>(subst q3;rw[e,q2];dsimp only;rw[q1];dsimp only;rw[show X3 u=true from ho];rfl)
theorem PL.cx {f:FuncId}{aZ aZ':List AV}{o:Oc}(h:PL P base f aZ o){st:St}(hf:wq st.h aZ'=some aZ)(hb:∀ st,base.run f aZ' st=.no)(K Kp:AV->St->Prop):XB P base f aZ' st K Kp=XG o K Kp (back st st):=by
 obtain⟨N,D,h⟩:=h;refine propext ⟨λ⟨r,⟨N2,D2,h2⟩,h3⟩=>?_,λh3=>⟨o.er st,⟨N,D,λn hn d hd=>h n hn d hd st aZ' hf hb⟩,?_⟩⟩
 ·have e1:=h (max N N2) (QaC ..) (max D D2) (QaC ..) st aZ' hf hb;have e2:=h2 (max N N2) (QaB ..) (max D D2) (QaB ..);rw[e1] at e2;rw[<-e2] at h3;cases o<;>exact h3
 ·cases o<;>exact h3
theorem PX.cxk {f:FuncId}{aZ aZ':List AV}{ks:List Nat}{o:Oc}(h:PX P base f aZ o){st:St}(hf:fzs (fz 9 st.h) aZ'=some (aZ,ks))(hb:∀ st,base.run f aZ' st=.no)(K Kp:AV->St->Prop):XB P base f aZ' st K Kp=XG o K Kp (back st (qv ks st)):=by
 obtain⟨N,D,h⟩:=h;refine propext ⟨λ⟨r,⟨N2,D2,h2⟩,h3⟩=>?_,λh3=>⟨o.er (qv ks st),⟨N,D,λn hn d hd=>h n hn d hd st aZ' ks hf hb⟩,?_⟩⟩
 ·have e1:=h (max N N2) (QaC ..) (max D D2) (QaC ..) st aZ' ks hf hb;have e2:=h2 (max N N2) (QaB ..) (max D D2) (QaB ..);rw[e1] at e2;rw[<-e2] at h3;cases o<;>exact h3
 ·cases o<;>exact h3
theorem PX.xb {f:FuncId}{aZ:List AV}{o:Oc}(h:PX P base f aZ o)(hp:aZ.all pa=true)(hb:∀ st,base.run f aZ st=.no)(st:St)(K Kp:AV->St->Prop):XB P base f aZ st K Kp=XG o K Kp st:=
 h.cxk (WV (d:=7) hp) hb K Kp
def PM (P:Program)(base:Bs)(f:FuncId)(c aZ:List AV)(o:Oc)(c':List AV):Prop:=∃ N D,∀ n,N<=n->∀ d,D<=d->∀ (st:St) p aZ' ks,Rw (qv ks st).h p c->fzs (fz 9 st.h) aZ'=some (aZ,ks)->aZ.all pa=true->(∀ st,base.run f (.ptr p 0 :: aZ') st=.no)->
 evC P base n d f (.ptr p 0 :: aZ') st=o.er ⟨(qv ks st).nx,(jT (jv p)).run (match jh (qv ks st).h p with|some (.row n zl z cs)=>.row n zl z (j2 c' cs 0)|_=>.row 0 1 [] (j2 c' .e 0)) (qv ks st).h,min (qv ks st).dirty p,(qv ks st).fr⟩
theorem PM.of {f:FuncId}{c aZ:List AV}{o:Oc}{c':List AV}(hm:base.pur f=3)(hc:c.all pc=true)
  (h:BX P base f (.ptr 0 0 :: aZ) (Xe c) (X6 (λu v s=>FzD 1 9 s v u/\∃ c2,Rw s.h 0 c2/\c2.length=c.length/\FzsD 1 9 s c2 c') o) (XW (λu v s=>FzD 1 9 s v u/\∃ c2,Rw s.h 0 c2/\c2.length=c.length/\FzsD 1 9 s c2 c') o)):PM P base f c aZ o c':=by
 obtain⟨r,⟨N,D,h1⟩,h2⟩:=h;refine⟨N,D+1,λn hn d hd st p aZ' ks0 hR hf hpa hb=>?_⟩;obtain⟨d',rfl⟩:∃ d',d=d'+1:=⟨d - 1,by omega⟩;obtain⟨k,zl,z,ct,g1,g2,g3⟩:=hR.len;have e:=h1 n hn d' (by omega);have hfc:fzs (fz 9 (qv ks0 st).h) (jF zl z ct k 0)=some (c,[]):=by rw[g2];exact vk hc
 have hf2:fzs (fz 9 (qv ks0 st).h) aZ=some (aZ,[]):=WV (d:=7) hpa;obtain⟨v,s,u,⟨⟨ks,q1,q1'⟩,c2,qR,ql,⟨js,q4,q4'⟩⟩,q⟩:=uW h2;obtain⟨k2,zl2,z2,ct2,r1,r2,r3⟩:=qR.len;have he:Xr k v s=some (u,c'):=by
  have a1:(ks.all λb=>Qak 1 b)=true:=QaG.2 λb hb=>by rw[jY];exact q1' b hb
  have a2:(js.all λb=>Qak 1 b)=true:=QaG.2 λb hb=>by rw[jY];exact q4' b hb
  have a3:Qap k2 k=true:=by rw[qh];omega
  unfold Xr;rw[q1,r1];dsimp only;rw[r2,q4];dsimp only;rw[a1,a2,a3];rfl
 simp only[evC,hb,hm,wj,kJ,hf,WJ,g1,hfc,hf2];rcases q with ⟨q2,q3⟩|⟨q2,q3⟩<;>(subst q3;rw[e,q2];dsimp only;rw[he];rfl)
end
end Go.Sy
end
