/-
  The evaluator of runs, second part: code, calls, regions that draw their order; from a run to what a row asks.
-/
import Derived.Test.YtndomfbgcaiijaaGreatDoorBrSyA
import Derived.WalkKit
import Derived.ProofKit
import Derived.OpenShut
import Derived.IntWalk
set_option linter.unusedVariables false
set_option linter.unusedSimpArgs false
open Nat renaming reduceAdd → δ, reduceSub → ε, le_refl → μ, le_trans → ψ, zero_le → Qaa, zero_add → Qag, le_max_left → Qao, le_max_right → Qap, lt_or_ge → Qar, lt_of_lt_of_le → Qat, mul_le_mul_right → Qax, mul_one → QaB, add_mul → QaD, sub_zero → QaG, not_lt_zero → QaJ, succ_pos → QaN, zero_mul → QaP, succ_mul → QaR, le_of_eq → QaS, lt_succ_self → Qbb, ne_of_lt → Qbe, add_zero → Qbf, le_succ → Qbg, add_assoc → Qbi, lt_irrefl → Qbk, mod_eq_of_lt → Qbm, add_comm → Qbo, pow_le_pow_right → Qbq, succ_lt_succ → Qbv, min_eq_left → Qby, le_of_lt → QbE, add_sub_cancel → QbY, lt_trichotomy → Qca, le_succ_of_le → Qcf, beq → Qci, succ → Qcj, ble → Qck, add → Qcl, mul → Qcm, sub → Qcn
open List renaming map_cons → ζ, map_nil → η, getD_cons_zero → θ, getD_cons_succ → κ, length_cons → ν, length_append → υ, length_nil → φ, getD → ω, range → Qab, range' → Qac, cons_append → Qad, all_eq_true → Qae, getElem_mem → Qaf, take_length → Qah, getElem?_eq_getElem → Qai, nil_append → Qaj, cons → Qal, length_take → Qam, getD_eq_getElem?_getD → Qan, length_map → Qaq, length_drop → Qau, all_cons → Qaz, take_zero → QaC, append_assoc → QaE, mem_map → QaL, all_append → QaM, append_nil → QaO, mem_append → QaQ, mem_cons → QaU, take_of_length_le → QaV, map_map → QaW, map_congr_left → QaX, eq_nil_of_length_eq_zero → QaY, drop_zero → Qba, range'_succ → Qbc, map_append → Qbd, ext_getElem → Qbh, getElem?_map → Qbj, drop_drop → Qbl, mem_range → Qbp, getElem_cons_zero → Qbs, take_append_drop → Qbt, take_succ_eq_append_getElem → Qbw, getElem?_take → Qbx, mem_iff_getElem → Qbz, getElem?_append_left → QbB, map_toArray → QbC, mem_singleton → QbF, getElem_cons_succ → QbG, getElem_cons_drop → QbH, getElem?_drop → QbI, mem_of_mem_take → QbJ, take_take → QbK, foldr_cons → QbM, take_add_one → QbO, getElem?_append_right → QbP, foldl_append → QbR, getElem?_range → QbS, mem_cons_of_mem → QbT, length_pos_iff → QbU, drop_length → QbV, flatMap_cons → QbX, countP_singleton → Qcc, take_succ_cons → Qcd
open Int renaming zero_add → ξ, natCast_zero → τ, ofNat → Qas, eq_ofNat_of_zero_le → Qbr, natCast_nonneg → QbL
open Bool renaming and_eq_true → χ, eq_iff_iff → Qay, or_eq_true → QaA, not_eq_true' → QaI, false_eq_true → QaK, true_eq_false → Qbu, or_eq_false_iff → QbN, eq_false_iff → Qce
open Array renaming length_toList → Qak, getElem?_eq_some_iff → Qav, replicate → QaF, toList_map → Qbn, getElem?_toList → QbD, getD_eq_getD_getElem? → QbQ, toList_append → QbZ, mem_toList_iff → Qcb, getElem?_eq_getElem → Qcg, getElem?_setIfInBounds_ne → Qch
open Option renaming map_some → Qaw, getD_some → QaH, bind_some → QaT, map_none → QaZ, map_eq_some_iff → QbA
open Function renaming comp_def → QbW
noncomputable section
namespace Go.Ev
open Go.RowKit
theorem Pu.mk {v:AV}{F:St->ER}(h:∀ st,F st=.ok v st):Pu F:=λst x st' e=>by
 rw[h] at e;cases e;exact⟨rfl,λst2=>h st2⟩
section
variable {P:Program} {op:Operand->OF} {env:Env}
theorem jjU (t:TypeId)(ps:List (Nat×OF)):Pu λst=>(VB P t ps).run env st:=by
 unfold VB;split
 ·rename_i z fields _ _;cases fields.toList.all λf=>(Ev.sizeOf P f.type).isSome
  ·exact Pu.no
  ·exact Pu.some λ_=>Pu.ok _
 ·split
  ·exact Pu.some λ_=>Pu.ok _
  ·exact Pu.no
 ·exact Pu.no
theorem UC (x:OF):Pu λst=>(J7 x).run env st:=by
 unfold J7;dsimp only;generalize x.run env=v;cases v<;>first|exact Pu.no|exact Pu.ok _
theorem ja3 (b:BinOp)(t:TypeId)(c:Bool)(x y:OF):Pu λst=>(J4 P b t c x y).run env st:=by
 unfold J4;split
 ·split<;>first|exact Pu.no|exact Pu.some λ_=>Pu.ok _
 ·split
  ·dsimp only;generalize x.run env=u;generalize y.run env=v;cases u<;>cases v<;>first|exact Pu.no|exact Pu.some λ_=>Pu.ok _
  ·dsimp only;generalize x.run env=u;generalize y.run env=v;cases u<;>cases v<;>first|exact Pu.no|exact Pu.some λ_=>Pu.ok _
  ·dsimp only;generalize x.run env=u;generalize y.run env=v;cases u<;>cases v<;>first|exact Pu.no|exact Pu.cond (Pu.some λ_=>Pu.ok _) Pu.no
 ·dsimp only;generalize x.run env=u;generalize y.run env=v;cases u<;>cases v<;>first|exact Pu.no|exact Pu.some λ_=>Pu.ok _
 ·cases P.eqGuardType P.depth t
  ·simp only[cond_false];split<;>first|exact Pu.no|exact Pu.some λ_=>Pu.ok _
  ·exact Pu.no
theorem jc4 (b:UnOp)(x:OF):Pu λst=>(Yn b x).run env st:=by
 unfold Yn;split
 ·dsimp only;generalize x.run env=v;cases v<;>first|exact Pu.no|exact Pu.ok _
 ·dsimp only;generalize x.run env=v;cases v<;>first|exact Pu.no|exact Pu.some λ_=>Pu.ok _
 ·exact Pu.bool λ_=>Pu.ok _
 ·exact Pu.no
theorem ja0 (t:TypeId)(x:OF)(lo hi mx:Option OF):Pu λst=>(QL P t x lo hi mx).run env st:=by
 unfold QL;split
 ·split
  ·exact Pu.str λs=>Pu.force λn=>Pu.opt λl=>Pu.opt λh=>Pu.cond (Pu.cond (Pu.ok _) Pu.no) Pu.no
  ·exact Pu.no
 ·split
  ·split
   ·dsimp only;generalize x.run env=v;cases v;case nils=>exact Pu.opt λl=>Pu.opt λh=>Pu.cond (Pu.cond (Pu.ok _) Pu.no) Pu.no
    case slice=>exact Pu.opt λl=>Pu.opt λh=>Pu.cond (Pu.cond (Pu.cond (Pu.force λk=>Pu.force λo=>Pu.force λc=>Pu.ok _) Pu.no) Pu.no) Pu.no
    case lst=>exact Pu.opt λl=>Pu.opt λh=>Pu.cond (Pu.cond (Pu.cond (Pu.ok _) Pu.no) Pu.no) Pu.no
    all_goals exact Pu.no
   ·split
    ·exact Pu.no
    ·dsimp only;generalize x.run env=v;cases v;case slice=>exact Pu.opt λl=>Pu.nat λh=>Pu.nat λm=>Pu.cond (Pu.cond (Pu.cond (Pu.force λk=>Pu.force λo=>Pu.force λc=>Pu.ok _) Pu.no) Pu.no) Pu.no
     case lst=>exact Pu.opt λl=>Pu.nat λh=>Pu.nat λm=>Pu.cond (Pu.cond (Pu.cond (Pu.cond (Pu.ok _) Pu.no) Pu.no) Pu.no) Pu.no
     all_goals exact Pu.no
  ·exact Pu.no
 ·split
  ·split
   ·exact Pu.ptr λb o=>Pu.opt λl=>Pu.opt λh=>Pu.cond (Pu.cond (Pu.force λk=>Pu.force λo=>Pu.force λc=>Pu.ok _) Pu.no) Pu.no
   ·exact Pu.no
  ·exact Pu.no
 ·exact Pu.no
theorem ja2 (s:TypeId)(x:OF)(f:Nat):Pu λst=>(YC P s x f).run env st:=by
 unfold YC;split
 ·split
  ·split
   ·dsimp only;generalize x.run env=v;cases v;case ptr=>exact Pu.force λo=>Pu.ok _
    case lptr=>exact Pu.ok _
    all_goals exact Pu.no
   ·exact Pu.no
  ·exact Pu.no
 ·exact Pu.no
theorem jjT (s:TypeId)(x:OF)(f:Nat):Pu λst=>(uL P s x f).run env st:=by
 unfold uL;split
 ·split
  ·exact Pu.agg λcs=>Pu.some λv=>Pu.ok _
  ·exact Pu.no
 ·exact Pu.no
theorem ja1 (t:TypeId)(x i:OF):Pu λst=>(Xc P t x i).run env st:=by
 unfold Xc;split
 ·split
  ·exact Pu.ptr λb o=>Pu.nat λi=>Pu.cond (Pu.force λo=>Pu.ok _) Pu.no
  ·exact Pu.no
 ·split
  ·dsimp only;generalize x.run env=v;cases v;case slice=>exact Pu.nat λi=>Pu.cond (Pu.force λo=>Pu.ok _) Pu.no
   case lst=>exact Pu.nat λi=>Pu.cond (Pu.ok _) Pu.no
   all_goals exact Pu.no
  ·exact Pu.no
 ·exact Pu.no
theorem jjS (t:TypeId)(x i:OF):Pu λst=>(vb P t x i).run env st:=by
 unfold vb;split
 ·split
  ·exact Pu.agg λcs=>Pu.nat λi=>Pu.cond (Pu.some λv=>Pu.ok _) Pu.no
  ·exact Pu.no
 ·exact Pu.str λs=>Pu.nat λi=>Pu.cond (Pu.ok _) Pu.no
 ·exact Pu.no
theorem We (b:Builtin)(hb:b=.cap\/b=.min\/b=.max)(ts:Array TypeId)(l:List OF):Pu λst=>(qE P b ts l).run env st:=by
 unfold qE;split
 ·rcases hb with h|h|h<;>cases h
 ·unfold Vz;split
  ·dsimp only;rename_i x _ _ _ _ _ _;generalize OF.run _ env=v;cases v;case nils=>exact Pu.ok _
   case slice b o n c sz ex=>cases ex<;>first|exact Pu.no|exact Pu.ok _
   all_goals exact Pu.no
  ·exact Pu.no
 ·rcases hb with h|h|h<;>cases h
 ·rcases hb with h|h|h<;>cases h
 ·exact Pu.some λv=>Pu.ok _
 ·exact Pu.some λv=>Pu.ok _
 ·exact Pu.no
theorem jpn (ts:Array TypeId)(l:List OF)(h:∀ t r,ts.toList=t :: r->∀ k e,P.underlying t≠some (.map k e)):Pu λst=>(qE P .len ts l).run env st:=by
 unfold qE;split
 ·rename_i x t r ht;unfold ZI;split
  ·dsimp only;generalize OF.run _ env=v;cases v;case str=>exact Pu.force λ_=>Pu.ok _
   case zstr=>exact Pu.ok _
   all_goals exact Pu.no
  ·exact Pu.ok _
  ·dsimp only;generalize OF.run _ env=v;cases v;case nils=>exact Pu.ok _
   case slice=>exact Pu.ok _
   case lst=>exact Pu.ok _
   all_goals exact Pu.no
  ·rename_i hu;exact absurd hu (h _ _ ht _ _)
  ·exact Pu.no
 all_goals first|exact Pu.no|contradiction
theorem jgN (o:Op)(h:jV P o=.pure):Pu λst=>(jy P op o).run env st:=by
 cases o<;>simp only[jV] at h<;>try(cases h;done)
 case move x=>exact Pu.ok _
 case assign x=>exact Pu.ok _
 case pick c a b=>exact Pu.bool λq=>Pu.ok _
 case build t ps=>exact jjU t _
 case nilCheck x=>exact UC _
 case binOp b t x y s=>exact ja3 _ _ _ _ _
 case unOp b t x=>exact jc4 _ _
 case makeInterface t x=>
  simp only[jy];split
  ·exact Pu.no
  ·exact Pu.ok _
  ·exact Pu.no
 case makeFunc f first caps=>
  cases f;case func f=>
   simp only[jy];split
   ·exact Pu.ok _
   ·exact Pu.no
  all_goals exact Pu.no
 case slice t x lo hi mx=>exact ja0 _ _ _ _ _
 case fieldAddr s x f=>exact ja2 _ _ _
 case field s x f=>exact jjT _ _ _
 case indexAddr t x i=>exact ja1 _ _ _
 case index t x i=>exact jjS _ _ _
 case extract x i=>
  simp only[jy];generalize (op x).run env=v;cases v;case tup=>exact Pu.cond (Pu.ok _) Pu.no
  all_goals exact Pu.no
 case call c=>
  split at h
  ·rename_i hc;simp only[jy,hc];split at h
   ·rename_i t r ht;split at h
    ·cases h
    ·rename_i hnm;refine jpn _ _ λt' r' ht' k e hm=>?_;rw[ht] at ht';cases ht';exact hnm k e hm
   ·cases h
  ·rename_i hc;simp only[jy,hc];exact We _ (.inl rfl) _ _
  ·rename_i hc;simp only[jy,hc];exact We _ (.inr (.inl rfl)) _ _
  ·rename_i hc;simp only[jy,hc];exact We _ (.inr (.inr rfl)) _ _
  ·cases h
def Mk (F:St->ER):Prop:=∀ st v st',F st=.ok v st'->∃ o,st'=⟨st.nx+1,(j1 (jK st.nx)).run o st.h,st.dirty,st.fr⟩ /\
 ∀ st2,st2.nx=st.nx->F st2=.ok v ⟨st2.nx+1,(j1 (jK st2.nx)).run o st2.h,st2.dirty,st2.fr⟩
theorem Mk.no:Mk λ_=>.no:=λst v st' h=>by cases h
theorem Mk.cond {b:Bool}{F G:St->ER}(hF:Mk F)(hG:Mk G):Mk λst=>cond b (F st) (G st):=by cases b<;>assumption
theorem Mk.some {α:Type}{x:Option α}{F:α->St->ER}(h:∀ b,Mk (F b)):Mk λst=>jR x λb=>F b st:=by
 cases x<;>first|exact h _|exact Mk.no
theorem Mk.nat {x:AV}{F:Nat->St->ER}(h:∀ b,Mk (F b)):Mk λst=>qp x λb=>F b st:=by
 unfold qp;split
 ·simp only[jE];exact h _
 ·exact Mk.no
theorem Mk.force {n:Nat}{F:Nat->St->ER}(h:∀ b,Mk (F b)):Mk λst=>force n λb=>F b st:=by
 simp only[jE];exact h _
theorem Mk.alloc (o:AO)(f:Nat->AV):Mk λst=>st.alloc o λb st=>.ok (f b) st:=λst v st' h=>by
 simp only[St.alloc,jE] at h;cases h;refine⟨o,rfl,λst2 h2=>?_⟩;simp only[St.alloc,jE,h2]
theorem Mk.row (l:List AV):Mk λst=>newRow st l:=by
 unfold newRow;exact Mk.force λn=>Mk.alloc _ _
theorem jgW (o:Op)(h:jV P o=.makes):Mk λst=>(jy P op o).run env st:=by
 cases o<;>simp only[jV] at h<;>try(cases h;done)
 case alloc t=>
  simp only[jy];cases zeroCells P t with
  |none=>exact Mk.no
  |some z=>
   dsimp only;cases lall AV.cell z
   ·exact Mk.no
   ·exact Mk.row _
 case box t x=>exact Mk.cond (Mk.row _) Mk.no
 case buildSlice t n ps=>
  simp only[jy];unfold Zs;split
  ·split
   ·generalize cond _ _ false=cc;cases cc
    ·exact Mk.no
    ·exact Mk.some λcells=>Mk.cond (Mk.force λn=>Mk.alloc _ _) Mk.no
   ·exact Mk.no
  ·exact Mk.no
 case makeMap t r=>
  cases r with
  |none=>exact Mk.alloc _ _
  |some r=>exact Mk.no
 case makeSlice t l c=>
  simp only[jy];unfold Z7;split
  ·split
   ·generalize cond _ _ false=cc;cases cc
    ·exact Mk.no
    ·exact Mk.nat λl=>Mk.nat λc=>Mk.cond (Mk.cond (Mk.cond (Mk.force λn=>Mk.alloc _ _) Mk.no) Mk.no) Mk.no
   ·exact Mk.no
  ·exact Mk.no
 case call c=>
  exfalso;split at h
  ·split at h
   ·split at h<;>cases h
   ·cases h
  all_goals cases h
theorem jmJ {t:TypeId}{x:OF}{st st':St}{v:AV}(h:(Yy P t x).run env st=.ok v st'):st'=st/\(qQ P t).run (x.run env) st.h=some v:=by
 unfold Yy at h;dsimp only at h;cases hk:(qQ P t).run (x.run env) st.h with
 |none=>rw[hk] at h;cases h
 |some u=>rw[hk] at h;cases h;exact⟨rfl,rfl⟩
theorem Vf {t:TypeId}{b o:Nat}{h h2:T AO}(e:jx h b=jx h2 b):(qQ P t).run (.ptr b o) h=(qQ P t).run (.ptr b o) h2:=by
 unfold qQ;split
 ·simp only[e]
 ·simp only[e]
 ·rfl
theorem jg2 {t:TypeId}{a v:AV}{h:T AO}(e:(qQ P t).run a h=some v):(∃ b o,a=.ptr b o)\/∃ cs o,a=.lptr cs o:=by
 unfold qQ at e;split at e
 ·cases a<;>first|(cases e;done)|exact .inl ⟨_,_,rfl⟩|exact .inr ⟨_,_,rfl⟩
 ·cases a<;>first|(cases e;done)|exact .inl ⟨_,_,rfl⟩|exact .inr ⟨_,_,rfl⟩
 ·cases e
theorem jeM {t:TypeId}{cs:List AV}{o:Nat}(h h2:T AO):(qQ P t).run (.lptr cs o) h=(qQ P t).run (.lptr cs o) h2:=by
 unfold qQ;split<;>rfl
end
def JS (w:Bool)(st:St):St:=cond w (stW st) st
def unSt (w:Bool)(st st1:St):St:=cond w ⟨st1.nx,st1.h,st.dirty,st1.fr⟩ st1
theorem jgm {st st1:St}{k:St->R}:unW st st1 k=cond (Qck st.nx st1.dirty) (k ⟨st1.nx,st1.h,st.dirty,st1.fr⟩) .no:=by
 simp only[unW,jE]
def OpR (P:Program)(op:Operand->OF)(w:Bool)(call:qF)(o:Op)(env:Env)(st:St)(v:AV)(st':St):Prop:=
 ∃ st1,(w=true->st.nx<=st1.dirty) /\
  match qu o with
  |some (f,args)=>∃ fid caps,(op f).run env=.fn fid caps/\call fid (yS (ye (λx=>(op x).run env) args) caps) (JS w st)=.ok v st1/\st'=back st (unSt w st st1)
  |none=>(jy P op o).run env (JS w st)=.ok v st1/\st'=unSt w st st1
def Ju (P:Program)(op:Operand->OF)(o:Op)(env:Env)(v:AV)(st st':St):TE:=
 match jV P o with
 |.pure=>.none
 |.makes=>.none
 |.reads=>(match o with | .load _ a=>.rd ((op a).run env) v|_=>.none)
 |.writes=>.wr st.h st'.h
 |.other=>.wr st.h st'.h
theorem J2 {P:Program}{o:Op}{x:Operand×List Operand}(h:qu o=some x):jV P o=.other:=by
 unfold qu at h;split at h
 ·rename_i c;split at h
  ·rename_i f hf;simp only[jV,hf]
  ·cases h
 ·cases h
def OpP (op:Operand->OF)(call:qF)(o:Op)(env:Env)(st:St)(v:AV)(st':St):Prop:=
 ∃ f args fid caps st1,qu o=some (f,args)/\(op f).run env=.fn fid caps/\call fid (yS (ye (λx=>(op x).run env) args) caps) st=.pn v st1/\st'=back st st1
theorem jpr {P:Program}{op:Operand->OF}{w:Bool}{call:qF}{o:Op}{env:Env}{st:St}{k:AV->TE->St->R}{kp:AV->St->R}(hw:w=true->jV P o=.other)
  (h:(opD P op w o).run call env st k kp≠.no):(∃ v st',OpR P op w call o env st v st'/\(opD P op w o).run call env st k kp=k v (Ju P op o env v st st') st') \/
   (∃ v st',OpP op call o env st v st'/\(opD P op w o).run call env st k kp=kp v st'):=by
 unfold opD at h ⊢;unfold OpR OpP;cases hc:qu o with
 |some x=>
  obtain⟨f,args⟩:=x;rw[hc] at h;have ho:=J2 (P:=P) hc;dsimp only at h ⊢;cases w
  ·simp only[cond_false] at h ⊢;cases hf:(op f).run env<;>rw[hf] at h<;>try(exact absurd rfl h)
   rename_i fid caps;dsimp only at h ⊢;cases he:call fid (yS (ye (λx=>(op x).run env) args) caps) st with
   |no=>rw[he] at h;exact absurd rfl h
   |pn v s=>exact .inr ⟨v,back st s,⟨f,args,fid,caps,s,rfl,hf,he,rfl⟩,rfl⟩
   |ok v s=>
    refine .inl ⟨v,back st s,⟨s,(λh=>by cases h),fid,caps,rfl,he,rfl⟩,?_⟩;simp only[Ju,ho];rfl
  ·simp only[cond_true] at h ⊢;cases hf:(op f).run env<;>rw[hf] at h<;>try(exact absurd rfl h)
   rename_i fid caps;dsimp only at h ⊢;cases he:call fid (yS (ye (λx=>(op x).run env) args) caps) (stW st) with
   |no=>rw[he] at h;exact absurd rfl h
   |pn v s=>rw[he] at h;exact absurd rfl h
   |ok v s=>
    rw[he] at h;dsimp only at h ⊢;rw[jgm] at h ⊢;cases hb:Qck st.nx s.dirty
    ·rw[hb] at h;exact absurd rfl h
    ·rw[qg] at hb;refine .inl ⟨v,back st ⟨s.nx,s.h,st.dirty,s.fr⟩,⟨s,λ_=>hb,fid,caps,rfl,he,rfl⟩,?_⟩;simp only[Ju,ho];rfl
 |none=>
  rw[hc] at h;have plain:∀ (w:Bool) (te:AV->T AO->T AO->Env->TE),(w=false)->(∀ v st',te v st.h st'.h env=Ju P op o env v st st')->(Xt P op o te).run call env st k kp≠.no->
    ∃ v st',(∃ st1,(w=true->st.nx<=st1.dirty)/\(jy P op o).run env (JS w st)=.ok v st1/\st'=unSt w st st1)/\(Xt P op o te).run call env st k kp=k v (Ju P op o env v st st') st':=by
   intro w te hw hte hne;subst hw;unfold Xt at hne ⊢;dsimp only at hne ⊢;cases he:(jy P op o).run env st with
   |no=>rw[he] at hne;exact absurd rfl hne
   |pn v s=>rw[he] at hne;exact absurd rfl hne
   |ok v s=>
    refine⟨v,s,⟨s,(λh=>by cases h),he,rfl⟩,?_⟩;dsimp only;rw[hte]
  dsimp only at h ⊢;have hwf:jV P o≠.other->w=false:=λhne=>by
   cases w
   ·rfl
   ·exact absurd (hw rfl) hne
  left;split at h
  ·rename_i hcl;exact plain w _ (hwf (by rw[hcl];simp)) (λv st'=>by simp only[Ju,hcl]) h
  ·rename_i hcl;exact plain w _ (hwf (by rw[hcl];simp)) (λv st'=>by simp only[Ju,hcl]) h
  ·rename_i hcl;exact plain w _ (hwf (by rw[hcl];simp)) (λv st'=>by simp only[Ju,hcl]) h
  ·exact absurd rfl h
  ·rename_i hcl;exact plain w _ (hwf (by rw[hcl];simp)) (λv st'=>by simp only[Ju,hcl]) h
  ·rename_i o2 c2 o1 hcl;cases w
   ·simp only[cond_false] at h ⊢;exact plain false _ rfl (λv st'=>by simp only[Ju,hcl]) h
   ·simp only[cond_true] at h ⊢;cases he:(jy P op o2).run env (stW st) with
    |no=>rw[he] at h;exact absurd rfl h
    |pn v s=>rw[he] at h;exact absurd rfl h
    |ok v s=>
     rw[he] at h;dsimp only at h ⊢;rw[jgm] at h ⊢;cases hb:Qck st.nx s.dirty
     ·rw[hb] at h;exact absurd rfl h
     ·rw[qg] at hb;refine⟨v,⟨s.nx,s.h,st.dirty,s.fr⟩,⟨s,λ_=>hb,he,rfl⟩,?_⟩;simp only[Ju,hcl];rfl
def yc (ops:Array Oper)(p:Nat):Option Tmp:=(ops[p]?).bind (·.dst)
def qe (ops:Array Oper):Nat->List Nat
 |0=>[]
 |p+1=>qv (yc ops p) (qe ops p)
def qw (ops:Array Oper)(V:Nat->AV):Nat->List AV
 |0=>[]
 |p+1=>(yM (yc ops p)).run (V p) (qw ops V p)
def zW (E:Nat->TE):Nat->List TE
 |0=>[]
 |p+1=>E p :: zW E p
def qx:Nat->List Nat
 |0=>[]
 |p+1=>p :: qx p
theorem Q7 {ops:Array Oper}{V W:Nat->AV}:∀ p,(∀ i,i<p->V i=W i)->qw ops V p=qw ops W p
 |0,_=>rfl
 |p+1,h=>by simp only[qw];rw[h p om,Q7 p λi hi=>h i om]
theorem ZW {V W:Nat->TE}:∀ p,(∀ i,i<p->V i=W i)->zW V p=zW W p
 |0,_=>rfl
 |p+1,h=>by simp only[zW];rw[h p om,ZW p λi hi=>h i om]
structure TrAt (P:Program)(call:qF)(U:Nat)(ops:Array Oper)(t:T AV)(ab:Bool)(p:Nat)(rs:List AV)(tb:List TE)(s:St)(x:Bool)(v:AV)(te:TE)(s':St)(o:Oper):Prop where
 hop:ops[p]? = some o
 out:ab=true->x=false
 want:ab=false->match yf (jQ U (qe ops p)) ops o with|none=>x=true|some wf=>wf.run ⟨t,rs⟩=some x
 run:x=true->OpR P (jQ U (qe ops p)) (yK P ops p o) call o.op ⟨t,rs⟩ s v s'/\te=Ju P (jQ U (qe ops p)) o.op ⟨t,rs⟩ v s s'/\held P (Qi o.op) te tb (partners P ops (qx p) p o)=true
 skip:x=false->v=qd/\te=.none/\s'=s
theorem Uz {P:Program}{ops:Array Oper}{i:Nat}{o:Oper}(h:yK P ops i o=true):jV P o.op=.other:=by
 unfold yK at h;simp only[χ] at h;have:=h.1;unfold JW at this;split at this
 ·assumption
 ·cases this
def jcj (P:Program)(call:qF)(n U:Nat)(ops:Array Oper)(t:T AV)(fin:List Nat->RD)(pan:Nat->List Nat->List Nat->AV->St->RD)(abs:Nat->Bool)(p:Nat)(V0:Nat->AV)(E0:Nat->TE)(st:St)(r:R):Prop:=
 ∃ (σ:Nat->St) (V:Nat->AV) (E:Nat->TE) (ex:Nat->Bool) (m:Nat),(∀ i,i<p->V i=V0 i)/\(∀ i,i<p->E i=E0 i)/\σ p=st/\p<=m /\
  (∀ i,p<=i->i<m->∃ o,TrAt P call U ops t (abs i) i (qw ops V i) (zW E i) (σ i) (ex i) (V i) (E i) (σ (i+1)) o) /\
  ((m=ops.size/\r=(fin (qe ops m)).run call n t (qw ops V m) (zW E m) (σ m)) \/
   (m<ops.size/\∃ o v st',ops[m]? = some o/\abs m=false/\(match yf (jQ U (qe ops m)) ops o with|none=>True|some wf=>wf.run ⟨t,qw ops V m⟩=some true) /\
    OpP (jQ U (qe ops m)) call o.op ⟨t,qw ops V m⟩ (σ m) v st'/\r=(pan m (qx m) (qe ops m) v st').run call n t (qw ops V m) (zW E m) (σ m)))
theorem W3 {P:Program}{call:qF}{n U:Nat}{ops:Array Oper}{t:T AV}(fin:List Nat->RD)(pan:Nat->List Nat->List Nat->AV->St->RD)(abs:Nat->Bool):∀ (k p:Nat),p+k=ops.size->∀ (V0:Nat->AV) (E0:Nat->TE) (st:St),
  (yl P U ops fin pan abs (Qac p k) (qx p) (qe ops p)).run call n t (qw ops V0 p) (zW E0 p) st≠.no->
  jcj P call n U ops t fin pan abs p V0 E0 st ((yl P U ops fin pan abs (Qac p k) (qx p) (qe ops p)).run call n t (qw ops V0 p) (zW E0 p) st)
 |0,p,hp,V0,E0,st,h=>by
  have:p=ops.size:=om
  subst this;exact⟨λ_=>st,V0,E0,λ_=>true,ops.size,λ_ _=>rfl,λ_ _=>rfl,rfl,μ _,λi h1 h2=>by omega,.inl ⟨rfl,rfl⟩⟩
 |k+1,p,hp,V0,E0,st,h=>by
  have hlt:p<ops.size:=om
  obtain⟨o,ho⟩:∃ o,ops[p]? = some o:=⟨ops[p],by simp[hlt]⟩;have hd:yc ops p=o.dst:=by simp[yc,ho]
  have e:yl P U ops fin pan abs (Qac p (k+1)) (qx p) (qe ops p) =
    cond (abs p) (VS o.dst (yl P U ops fin pan abs (Qac (p+1) k) (qx (p+1)) (qe ops (p+1))))
     (Qu (yf (jQ U (qe ops p)) ops o) o.dst
      (Jr P (jQ U (qe ops p)) (yK P ops p o) (partners P ops (qx p) p o) o (yl P U ops fin pan abs (Qac (p+1) k) (qx (p+1)) (qe ops (p+1))) (pan p (qx p) (qe ops p)))
      (yl P U ops fin pan abs (Qac (p+1) k) (qx (p+1)) (qe ops (p+1)))):=by
   have e1:yl P U ops fin pan abs (p :: Qac (p+1) k) (qx p) (qe ops p)=(match ops[p]? with
    |some o=>cond (abs p) (VS o.dst (yl P U ops fin pan abs (Qac (p+1) k) (p :: qx p) (qv o.dst (qe ops p))))
     (Qu (yf (jQ U (qe ops p)) ops o) o.dst
      (Jr P (jQ U (qe ops p)) (yK P ops p o) (partners P ops (qx p) p o) o (yl P U ops fin pan abs (Qac (p+1) k) (p :: qx p) (qv o.dst (qe ops p))) (pan p (qx p) (qe ops p)))
      (yl P U ops fin pan abs (Qac (p+1) k) (p :: qx p) (qv o.dst (qe ops p))))
    |none=>ZR):=rfl
   rw[Qbc,e1,ho];simp only[qx,qe,hd]
  rw[e] at h ⊢;have follow:∀ (x:Bool) (v:AV) (te:TE) (st':St),TrAt P call U ops t (abs p) p (qw ops V0 p) (zW E0 p) st x v te st' o->
    (yl P U ops fin pan abs (Qac (p+1) k) (qx (p+1)) (qe ops (p+1))).run call n t ((yM o.dst).run v (qw ops V0 p)) (Qal te (zW E0 p)) st'≠.no->
    jcj P call n U ops t fin pan abs p V0 E0 st ((yl P U ops fin pan abs (Qac (p+1) k) (qx (p+1)) (qe ops (p+1))).run call n t ((yM o.dst).run v (qw ops V0 p)) (Qal te (zW E0 p)) st'):=by
   intro x v te st' htr hne;have hV:∀ i,i<p->(λi=>if i=p then v else V0 i) i=V0 i:=λi hi=>by simp only;rw[if_neg om]
   have hE:∀ i,i<p->(λi=>if i=p then te else E0 i) i=E0 i:=λi hi=>by simp only;rw[if_neg om]
   have h1:qw ops (λi=>if i=p then v else V0 i) (p+1)=(yM o.dst).run v (qw ops V0 p):=by
    simp only[qw,hd,if_true];rw[Q7 p hV]
   have h2:zW (λi=>if i=p then te else E0 i) (p+1)=te :: zW E0 p:=by
    simp only[zW,if_true];rw[ZW p hE]
   rw[<-h1,<-h2] at hne ⊢;obtain⟨σ,V,E,ex,m,k1,k2,k3,k6,k4,k5⟩:=W3 fin pan abs k (p+1) om _ _ st' hne;have g1:∀ i,i<p->V i=V0 i:=λi hi=>(k1 i om).trans (hV i hi);have g2:∀ i,i<p->E i=E0 i:=λi hi=>(k2 i om).trans (hE i hi);refine⟨λi=>if i=p then st else σ i,V,E,λi=>if i=p then x else ex i,m,g1,g2,by simp,om,λi hi hi2=>?_,?_⟩
   ·by_cases hip:i=p
    ·subst hip;refine⟨o,?_⟩;simp only[if_true];rw[if_neg om,k3,Q7 i g1,ZW i g2,k1 i om,k2 i om];simpa using htr
    ·simp only[if_neg hip];rw[if_neg om];exact k4 i om hi2
   ·simp only;rw[if_neg om];exact k5
  have step:abs p=false->(Jr P (jQ U (qe ops p)) (yK P ops p o) (partners P ops (qx p) p o) o (yl P U ops fin pan abs (Qac (p+1) k) (qx (p+1)) (qe ops (p+1))) (pan p (qx p) (qe ops p))).run call n t (qw ops V0 p) (zW E0 p) st≠.no->
    (match yf (jQ U (qe ops p)) ops o with|none=>true=true|some wf=>wf.run ⟨t,qw ops V0 p⟩=some true)->
    jcj P call n U ops t fin pan abs p V0 E0 st ((Jr P (jQ U (qe ops p)) (yK P ops p o) (partners P ops (qx p) p o) o (yl P U ops fin pan abs (Qac (p+1) k) (qx (p+1)) (qe ops (p+1))) (pan p (qx p) (qe ops p))).run call n t (qw ops V0 p) (zW E0 p) st):=by
   intro hab hne hw;unfold Jr at hne ⊢;dsimp only at hne ⊢;rcases jpr (λhwt=>Uz hwt) hne with ⟨v,st',hO,hk⟩|⟨v,st',hO,hk⟩
   ·rw[hk] at hne ⊢;try dsimp only at hne ⊢
    cases hh:held P (Qi o.op) (Ju P (jQ U (qe ops p)) o.op ⟨t,qw ops V0 p⟩ v st st') (zW E0 p) (partners P ops (qx p) p o)
    ·rw[hh] at hne;exact absurd rfl hne
    ·rw[hh] at hne;exact follow true v _ st' ⟨ho,(λh=>by simp_all),λ_=>hw,λ_=>⟨hO,rfl,hh⟩,(λh=>by cases h)⟩ hne
   ·rw[hk];refine⟨λ_=>st,V0,E0,λ_=>true,p,λ_ _=>rfl,λ_ _=>rfl,rfl,μ _,λi h1 h2=>by omega,.inr ⟨hlt,o,v,st',ho,hab,?_,hO,rfl⟩⟩;split at hw
    ·trivial
    ·exact hw
  cases hab:abs p
  ·rw[hab] at h;simp only[cond_false] at h ⊢;unfold Qu at h ⊢;cases hwf:yf (jQ U (qe ops p)) ops o with
   |none=>
    rw[hwf] at h step;exact step hab h rfl
   |some wf=>
    rw[hwf] at h step;simp only at h ⊢ step;cases hb:wf.run ⟨t,qw ops V0 p⟩ with
    |none=>rw[hb] at h;exact absurd rfl h
    |some b=>
     rw[hb] at h step;dsimp only at h ⊢;cases b
     ·exact follow false qd .none st ⟨ho,(λh=>by simp_all),(λ_=>by rw[hwf];exact hb),(λh=>by cases h),λ_=>⟨rfl,rfl,rfl⟩⟩ h
     ·exact step hab h rfl
  ·rw[hab] at h;exact follow false qd .none st ⟨ho,λ_=>rfl,(λh=>by simp_all),(λh=>by cases h),λ_=>⟨rfl,rfl,rfl⟩⟩ h
def Runs (P:Program)(o:Oper)(a:Act)(w:World)(R:Value->World->Prop):Prop:=
 (∃ x w',((execOp a.eval o).run P w=.ok (.value x) w'\/((execOp a.eval o).run P w=.ok .skip w'/\x=undef))/\R x w') \/
 (∃ f vs,(execOp a.eval o).run P w=.ok (.enter f vs) w/\Calls P f vs w λe w'=>∃ x,e=.returned x/\R x w')
theorem Runs.wp {P:Program}{o:Oper}{a:Act}{w:World}{R:Value->World->Prop}(h:Runs P o a w R){K:Act->World->Prop}{Q:Exit->Act->World->Prop}
  (hk:∀ x w',R x w'->K (a.put o.dst x) w'):o.wp P a w K Q:=by
 unfold Oper.wp;rcases h with ⟨x,w',h1,hR⟩|⟨f,vs,h1,h2⟩
 ·rcases h1 with h1|⟨h1,rfl⟩
  ·rw[h1];exact hk x w' hR
  ·rw[h1];exact hk undef w' hR
 ·rw[h1];exact Calls.mono h2 λe w' he=>by
   obtain⟨x,rfl,hR⟩:=he;exact hk x w' hR
theorem Runs.ex {P:Program}{o:Oper}{a:Act}{w:World}{R:Value->World->Prop}(h:Runs P o a w R):∃ x w',R x w':=by
 rcases h with ⟨x,w',_,hR⟩|⟨f,vs,_,h2⟩
 ·exact⟨x,w',hR⟩
 ·obtain⟨e,w',_,⟨x,_,hR⟩,_⟩:=h2 [];exact⟨x,w',hR⟩
def gL (o:Op):Bool:=match o with | .defer _=>false|_=>true
theorem wV (w:Bool)(st st1:St):(unSt w st st1).h=st1.h/\(unSt w st st1).nx=st1.nx/\(unSt w st st1).fr=st1.fr:=by cases w<;>exact⟨rfl,rfl,rfl⟩
theorem WV (w:Bool)(st:St):(JS w st).h=st.h/\(JS w st).nx=st.nx/\(JS w st).fr=st.fr:=by cases w<;>exact⟨rfl,rfl,rfl⟩
theorem Cleanly.unSt {ι ι':Inj}{w:Bool}{st st1:St}(h:Cleanly ι ι' (JS w st) st1)(hd:w=true->st.nx<=st1.dirty):Cleanly ι ι' st (unSt w st st1):=by
 cases w
 ·exact h
 ·have hd:=hd rfl;exact⟨h.nx,μ _,λb hb _=>h.keep b hb (Qat hb hd),h.above,h.u,h.le,h.n⟩
structure Left (ι:Inj)(w:World)(wch:Bool)(st:St)(v:AV)(st':St)(ι':Inj)(x:Value)(w':World):Prop where
 le:Le ι ι'
 v:VR ι' v x
 sim:Sim ι' st'.h st'.nx w'
 grew:Grew ι w ι' w'
 cl:Cleanly ι ι' st st'
 fr:st'.fr=st.fr
 quiet:wch=true->∀ b,b<st.nx->jx st'.h b=jx st.h b
theorem Wi {P:Program}{call:qF}(hcall:Jq P call){ι:Inj}{w:World}{o:Oper}{a:Act}{op:Operand->OF}{wch:Bool}{env:Env}{st:St}{v:AV}{st':St}
  (hno:gL o.op=true) (hO:OpR P op wch call o.op env st v st') (k:Sim ι st.h st.nx w) (hx:∀ x∈o.op.operands.toList,VR ι ((op x).run env) (a.eval x)) :
  Runs P o a w λx w'=>∃ ι',Left ι w wch st v st' ι' x w':=by
 obtain⟨st1,hd,hO⟩:=hO;have k':Sim ι (JS wch st).h (JS wch st).nx w:=by rw[(WV wch st).1,(WV wch st).2.1];exact k
 have quiet:∀ {ι':Inj},Cleanly ι ι' (JS wch st) st1->wch=true->∀ b,b<st.nx->jx st1.h b=jx st.h b:=by
  intro ι' hcl hw b hb;have h1:=hd hw;subst hw;exact hcl.keep b hb (Qat hb h1)
 cases hco:qu o.op with
 |some p=>
  obtain⟨f,args⟩:=p;rw[hco] at hO;dsimp only at hO;obtain⟨fid,caps,hfv,he,rfl⟩:=hO;have hcs:∃ c,o.op=.call c/\c.callee=.value f/\args=c.args.toList:=by
   unfold qu at hco;split at hco
   ·rename_i c hoc;split at hco
    ·rename_i f' hf';cases hco;exact⟨c,hoc,hf',rfl⟩
    ·cases hco
   ·cases hco
  obtain⟨c,hoc,hcf,rfl⟩:=hcs;rw[hoc] at hx;have hvf:=hx f (by simp[Op.operands,Call.operands,hcf]);rw[hfv] at hvf;simp only[VR] at hvf;obtain⟨cv,hcv,hcaps⟩:=hvf;simp only[yv,yE] at he;have hargs:VRs ι (c.args.toList.map (λx=>(op x).run env) ++ caps) ((c.args.map a.eval) ++ cv).toList:=by
   rw[QbZ,Qbn];exact(VRs.map_of _ λx hxm=>hx x (by simp[Op.operands,Call.operands];right;simpa using hxm)).append hcaps
  have hC:=hcall fid _ (JS wch st) ι w ((c.args.map a.eval) ++ cv) k' hargs;rw[he] at hC;obtain⟨hen,hcs⟩:=hC;refine .inr ⟨fid,(c.args.map a.eval) ++ cv,WJ hoc hcf hcv hen,Calls.mono hcs λe w' he=>?_⟩;obtain⟨x,rfl,ι',hl,hv,hs,hg,hcl⟩:=he;refine⟨x,rfl,ι',hl,hv,?_,hg,?_,rfl,?_⟩
  ·show Sim ι' (unSt wch st st1).h (unSt wch st st1).nx w';rw[(wV wch st st1).1,(wV wch st st1).2.1];exact hs
  ·have:=hcl.unSt hd;exact⟨this.nx,this.dirty,this.keep,this.above,this.u,this.le,this.n⟩
  ·intro hw b hb;show jx (unSt wch st st1).h b=_;rw[(wV wch st st1).1];exact quiet hcl hw b hb
 |none=>
  rw[hco] at hO;dsimp only at hO;obtain⟨he,rfl⟩:=hO;have hcalm:vu o.op=true:=by
   cases hcc:vu o.op
   ·exfalso;cases ho:o.op<;>rw[ho] at hcc hno hco he<;>simp only[vu] at hcc<;>try(cases hcc;done)
    case call c=>
     simp only[jy] at he;split at hcc
     ·rename_i b hb;simp only[hb] at he;cases b<;>simp only[HT] at hcc<;>try(cases hcc;done)
      have:qE P .recover c.argTypes (ye op c.args.toList)=NOE:=by
       unfold qE;split<;>first|rfl|contradiction|simp_all
      rw[this] at he;cases he
     ·rename_i hnb;cases hcl:c.callee with
      |builtin b=>exact hnb b hcl
      |value f=>simp[qu,hcl] at hco
      |invoke r m=>rw[hcl] at he;cases he
    case defer c=>cases hno
   ·rfl
  have hres:=jdt (P:=P) (ρ:=a.eval) (op:=op) (env:=env) hcalm k' hx;rw[he] at hres;obtain⟨ι',x,w',hr,hl,hv,hs,hg,hcl,hfr⟩:=hres;refine .inl ⟨x,w',hr,ι',hl,hv,?_,hg,hcl.unSt hd,?_,?_⟩
  ·rw[(wV wch st st1).1,(wV wch st st1).2.1];exact hs
  ·rw[(wV wch st st1).2.2,hfr,(WV wch st).2.2]
  ·intro hw b hb;rw[(wV wch st st1).1];exact quiet hcl hw b hb
open Classical in
def qI (A:Nat->Prop):Nat->Option Nat
 |0=>none
 |k+1=>if A k then some k else qI A k
theorem zc {A B:Nat->Prop}:∀ m,(∀ p,p<m->(A p↔B p))->qI A m=qI B m
 |0,_=>rfl
 |m+1,h=>by
  simp only[qI];rw[zc m λp hp=>h p om];by_cases ha:A m
  ·rw[if_pos ha,if_pos ((h m om).1 ha)]
  ·rw[if_neg ha,if_neg λhb=>ha ((h m om).2 hb)]
theorem Xb {A:Nat->Prop}{k:Nat}:∀ m,qI A m=some k->k<m/\A k/\∀ p,k<p->p<m->¬ A p
 |0,h=>by cases h
 |m+1,h=>by
  simp only[qI] at h;by_cases ha:A m
  ·rw[if_pos ha] at h;cases h;exact⟨om,ha,λp h1 h2=>by omega⟩
  ·rw[if_neg ha] at h;obtain⟨h1,h2,h3⟩:=Xb m h;refine⟨om,h2,λp h4 h5=>?_⟩;by_cases hp:p=m
   ·rw[hp];exact ha
   ·exact h3 p h4 om
theorem wb {A:Nat->Prop}:∀ m,qI A m=none->∀ p,p<m->¬ A p
 |0,_,p,hp=>by omega
 |m+1,h,p,hp=>by
  simp only[qI] at h;by_cases ha:A m
  ·rw[if_pos ha] at h;cases h
  ·rw[if_neg ha] at h;by_cases hpm:p=m
   ·rw[hpm];exact ha
   ·exact wb m h p om
theorem jbo {A:Nat->Prop}{k m:Nat}(hk:k<m)(ha:A k)(hn:∀ p,k<p->p<m->¬ A p):qI A m=some k:=by
 cases h:qI A m with
 |none=>exact absurd ha (wb m h k hk)
 |some j=>
  obtain⟨h1,h2,h3⟩:=Xb m h;rcases Qca j k with h4|h4|h4
  ·exact absurd ha (h3 k h4 hk)
  ·rw[h4]
  ·exact absurd h2 (hn j h4 h1)
theorem ZA {A:Nat->Prop}{q:Nat}:∀ m,q<=m->qI (λp=>p<q/\A p) m=qI A q
 |0,h=>by
  have:q=0:=om
  subst this;rfl
 |m+1,h=>by
  by_cases hq:q=m+1
  ·subst hq;exact zc _ λp hp=>⟨λh=>h.2,λh=>⟨hp,h⟩⟩
  ·simp only[qI];rw[if_neg om];exact ZA m om
def tab (f:Nat->Option AO):Nat->T AO
 |0=>.e
 |n+1=>match f n with|some o=>(j1 (jK n)).run o (tab f n)|none=>tab f n
theorem yV (f:Nat->Option AO)(b:Nat):∀ n,jx (tab f n) b=if b<n then f b else none
 |0=>by simp[tab,jpM]
 |n+1=>by
  simp only[tab];cases hf:f n with
  |none=>
   simp only;rw[yV f b n];by_cases hb:b=n
   ·subst hb;simp[hf]
   ·by_cases h2:b<n
    ·rw[if_pos h2,if_pos om]
    ·rw[if_neg h2,if_neg om]
  |some o=>
   simp only;rw[jX,yV f b n];by_cases hb:b=n
   ·subst hb;simp[hf]
   ·rw[if_neg hb];by_cases h2:b<n
    ·rw[if_pos h2,if_pos om]
    ·rw[if_neg h2,if_neg om]
theorem Sim.same {ι:Inj}{h h':T AO}{nx:Nat}{w:World}(k:Sim ι h nx w)(e:∀ b,ι b≠.unborn->jx h' b=jx h b):Sim ι h' nx w:=
 ⟨λb B S hb=>by
   obtain⟨o,x,h1,h2,h3⟩:=k.obj b B S hb;exact⟨o,x,by rw[e b (by rw[hb];simp)];exact h1,h2,h3⟩,
  λb hb o ho=>k.gone b hb o (by rw[<-e b (by rw[hb];simp)];exact ho),k.inj,k.born,k.glob⟩
theorem Ui (U t:Nat):inU U t=U.testBit t:=by
 rw[Qay,inU,qH,Nat.testBit_eq_decide_div_mod_eq,decide_eq_true_iff];rw[show Nat.shiftRight U t=U >>> t from rfl,Nat.shiftRight_eq_div_pow];exact Iff.rfl
def jfy (acc:List Nat)(o:Oper):Nat:=o.after.toList.foldl (λs e=>cond (J3 e) (Nat.lor (Nat.lor s (Nat.pow 2 e.on)) (acc.getD e.on 0)) s) 0
theorem VD (l:List Oper)(o:Oper):q6 (l ++ [o])=q6 l ++ [jfy (q6 l) o]:=by
 unfold q6;rw[QbR];rfl
theorem jcX {α:Type}{p:List α->Prop}(h0:p [])(h1:∀ l a,p l->p (l ++ [a]))(l:List α):p l:=by
 have key:∀ r:List α,p r.reverse:=by
  intro r;induction r with
  |nil=>exact h0
  |cons a r ih=>rw[List.reverse_cons];exact h1 _ _ ih
 have:=key l.reverse;rwa [List.reverse_reverse] at this
theorem Gg (l:List Oper):(q6 l).length=l.length:=by
 refine jcX (p:=λl=>(q6 l).length=l.length) rfl (λl o ih=>?_) l;rw[VD,υ,υ,ih];rfl
theorem jcA (l:List Oper):∀ i o,l[i]? = some o->(q6 l).getD i 0=jfy ((q6 l).take i) o:=by
 refine jcX (p:=λl=>∀ i o,l[i]? = some o->(q6 l).getD i 0=jfy ((q6 l).take i) o) (λi o h=>by simp at h) (λl o ih i u h=>?_) l;rw[VD];have hlen:=Gg l;by_cases hi:i<l.length
 ·rw[QbB hi] at h;have:=ih i u h;rw[Qan,QbB om,<-Qan,this];rw[List.take_append_of_le_length om]
 ·rw[QbP om] at h;have hi0:i - l.length=0:=by
   cases hn:i - l.length with
   |zero=>rfl
   |succ k=>rw[hn] at h;simp at h
  rw[hi0] at h;simp at h;subst h;have hi2:i=l.length:=om
  subst hi2;rw[Qan,QbP om,hlen];simp only[Nat.sub_self,List.getElem?_cons_zero,QaH];rw[<-hlen,List.take_left]
theorem Hk (acc:List Nat)(j:Nat):∀ (l:List Edge) (s:Nat),inU (l.foldl (λs e=>cond (J3 e) (Nat.lor (Nat.lor s (Nat.pow 2 e.on)) (acc.getD e.on 0)) s) s) j=true->
  inU s j=true\/∃ e∈l,J3 e=true/\(e.on=j\/inU (acc.getD e.on 0) j=true)
 |[],s,h=>.inl h
 |e :: l,s,h=>by
  rw[List.foldl_cons] at h;rcases Hk acc j l _ h with h1|⟨e',he,h2,h3⟩
  ·cases hb:J3 e
   ·rw[hb] at h1;exact .inl h1
   ·rw[hb] at h1;simp only[cond_true] at h1;rw[Ui] at h1;have h2:((s |||2 ^ e.on) |||acc.getD e.on 0).testBit j=true:=h1;rw[Nat.testBit_or,Nat.testBit_or,QaA,QaA] at h2;rcases h2 with (h2|h2)|h2
    ·exact .inl (by rw[Ui];exact h2)
    ·rw[Nat.testBit_two_pow] at h2;exact .inr ⟨e,by simp,hb,.inl (by simpa using h2)⟩
    ·exact .inr ⟨e,by simp,hb,.inr (by rw[Ui];exact h2)⟩
  ·exact .inr ⟨e',by simp[he],h2,h3⟩
def bs (ops:Array Oper):List Nat:=q6 ops.toList
def jcn (ops:Array Oper)(S:Nat->Prop):Prop:=∀ i o,S i->ops[i]? = some o->∀ e∈o.after,J3 e=true->S e.on
def Je (ops:Array Oper)(S:Nat->Prop)(i:Nat):Prop:=∃ o,ops[i]? = some o/\∀ e∈o.after,J3 e=true->S e.on
theorem uR {ops:Array Oper}{S:Nat->Prop}(hlow:∀ i o,ops[i]? = some o->∀ e∈o.after,J3 e=true->e.on<i)(hc:jcn ops S)(j:Nat):∀ (m i:Nat),i<m->Je ops S i->inU ((bs ops).getD i 0) j=true->S j
 |0,i,hi,_,_=>by omega
 |m+1,i,hi,hr,h=>by
  obtain⟨o,ho,hr⟩:=hr;rw[bs,jcA ops.toList i o (by rw[QbD];exact ho)] at h;rcases Hk _ j _ 0 h with h1|⟨e,he,hb,h1⟩
  ·simp[Ui] at h1
  ·have he':e∈o.after:=Qcb.1 he;have hlt:=hlow i o ho e he' hb;rcases h1 with h1|h1
   ·rw[<-h1];exact hr e he' hb
   ·have hS:=hr e he' hb;have h2:inU ((bs ops).getD e.on 0) j=true:=by
     rw[Qan,Qbx,if_pos hlt,<-Qan] at h1;exact h1
    obtain⟨u,hu⟩:∃ u,ops[e.on]? = some u:=by
     have:i<ops.size:=(Qav.1 ho).1;exact⟨ops[e.on],by simp[Nat.lt_trans hlt this]⟩
    exact uR hlow hc j m e.on om ⟨u,hu,hc e.on u hS hu⟩ h2
structure Ctx (P:Program)(call:qF)(U N:Nat)(ops:Array Oper)(t:T AV)(ι0:Inj)(w0:World)(a0:Act)(σ:Nat->St)(V:Nat->AV)(E:Nat->TE)(ex ab:Nat->Bool):Prop where
 hcall:Jq P call
 ok:Ji P ops=true
 dst:∀ o∈ops.toList,∀ x,o.dst=some x->x<N
 tr:∀ i,i<ops.size->∃ o,TrAt P call U ops t (ab i) i (qw ops V i) (zW E i) (σ i) (ex i) (V i) (E i) (σ (i+1)) o
 rel0:Rel ι0 U N t [] [] (σ 0) a0 w0
section
variable {P:Program} {call:qF} {U N:Nat} {ops:Array Oper} {t:T AV} {ι0:Inj} {w0:World} {a0:Act} {σ:Nat->St} {V:Nat->AV} {E:Nat->TE} {ex ab:Nat->Bool}
theorem Wl (h:Ji P ops=true){i:Nat}{o:Oper}(hi:ops[i]? = some o) :
  (∀ e∈o.after,J3 e=true->e.on<i)/\gL o.op=true/\(∀ cs b,o.op≠.select cs b) /\
  ∀ j u,j<i->ops[j]? = some u->yg (bs ops) i j=true\/(u.apart ops o=true /\
   ((Qw (jV P u.op) && acts (jV P o.op)) ||(acts (jV P u.op) && Qw (jV P o.op)) ||(QW (jV P u.op) && acts (jV P o.op)))=false):=by
 unfold Ji at h;simp only[Qae,Qbp] at h;have hlt:i<ops.size:=(Qav.1 hi).1;have h1:=h i hlt;rw[hi] at h1;simp only[χ,Qae,Qbp] at h1;obtain⟨⟨h2,h3⟩,h4⟩:=h1;refine⟨λe he hb=>?_,?_,?_,λj u hj hu=>?_⟩
 ·have:=h2 e (Qcb.2 he);rw[hb] at this;simp only[cond_true] at this;rw[qg] at this;omega
 ·unfold gL;split
  ·rename_i c hc;rw[hc] at h3;cases h3
  ·rfl
 ·intro cs b hc;rw[hc] at h3;cases h3
 ·have:=h4 j hj;rw[hu] at this;simp only[QaA,χ,QaI] at this;rcases this with h5|⟨h5,h6⟩
  ·exact .inl h5
  ·exact .inr ⟨h5,h6⟩
theorem QP (b:List Nat)(i j:Nat):yg b i j=yg b j i:=by unfold yg;rw[Bool.or_comm]
structure Free (P:Program)(ops:Array Oper)(o u:Oper):Prop where
 d1:∀ d,u.dst=some d->d∉o.looksAt ops
 d2:∀ d,o.dst=some d->d∉u.looksAt ops
 d3:∀ d,u.dst=some d->o.dst≠some d
 w1:¬ (Qw (jV P u.op)=true/\acts (jV P o.op)=true)
 w2:¬ (acts (jV P u.op)=true/\Qw (jV P o.op)=true)
theorem sep (h:Ji P ops=true){i j:Nat}{o u:Oper}(hi:ops[i]? = some o)(hj:ops[j]? = some u)(hne:i≠j) :
  yg (bs ops) i j=true\/(Free P ops o u/\(j<i->¬ (QW (jV P u.op)=true/\acts (jV P o.op)=true))):=by
 rcases Qar j i with hlt|hge
 ·rcases (Wl h hi).2.2.2 j u hlt hj with h1|⟨h1,h2⟩
  ·exact .inl h1
  ·obtain⟨k1,k2,k3⟩:=Oper.apart_spec h1;simp only[QbN,Bool.and_eq_false_iff] at h2;obtain⟨⟨h3,h4⟩,h5⟩:=h2;refine .inr ⟨⟨k1,k3,k2,λ⟨x,y⟩=>?_,λ⟨x,y⟩=>?_⟩,λ_ ⟨x,y⟩=>?_⟩
   ·rcases h3 with h3|h3
    ·rw[x] at h3;cases h3
    ·rw[y] at h3;cases h3
   ·rcases h4 with h4|h4
    ·rw[x] at h4;cases h4
    ·rw[y] at h4;cases h4
   ·rcases h5 with h5|h5
    ·rw[x] at h5;cases h5
    ·rw[y] at h5;cases h5
 ·have hlt:i<j:=om
  rcases (Wl h hj).2.2.2 i o hlt hi with h1|⟨h1,h2⟩
  ·exact .inl (by rw[QP];exact h1)
  ·obtain⟨k1,k2,k3⟩:=Oper.apart_spec h1;simp only[QbN,Bool.and_eq_false_iff] at h2;obtain⟨⟨h3,h4⟩,h5⟩:=h2;refine .inr ⟨⟨k3,k1,λd h1 h2=>k2 d h2 h1,λ⟨x,y⟩=>?_,λ⟨x,y⟩=>?_⟩,λhh=>by omega⟩
   ·rcases h4 with h4|h4
    ·rw[y] at h4;cases h4
    ·rw[x] at h4;cases h4
   ·rcases h3 with h3|h3
    ·rw[y] at h3;cases h3
    ·rw[x] at h3;cases h3
theorem vL (h:Ji P ops=true):∀ i o,ops[i]? = some o->∀ e∈o.after,J3 e=true->e.on<i:=λi o hi=>(Wl h hi).1
theorem jb5 (h:Ji P ops=true){i j:Nat}{o:Oper}(hi:ops[i]? = some o)(hb:inU ((bs ops).getD i 0) j=true):j<i:=by
 refine uR (S:=λp=>p<i) (vL h) (λk u hk hu e he hbe=>?_) j (i+1) i om ⟨o,hi,vL h i o hi⟩ hb;have:=vL h k u hu e he hbe;show e.on<i;have hk:k<i:=hk;omega
theorem wO (h:Ji P ops=true){S:Nat->Prop}(hc:jcn ops S){p q:Nat}{u o:Oper}(hp:ops[p]? = some u)(hq:ops[q]? = some o)(hr:Je ops S q)(hn:¬ S q)(ho:yg (bs ops) q p=true):S p↔p<q:=by
 unfold yg at ho;rw[QaA] at ho;rcases ho with ho|ho
 ·have h1:=uR (vL h) hc p (q+1) q om hr ho;exact⟨λ_=>jb5 h hq ho,λ_=>h1⟩
 ·have hlt:=jb5 h hp ho;refine⟨λhS=>absurd (uR (vL h) hc q (p+1) p om ⟨u,hp,hc p u hS hp⟩ ho) hn,λh=>by omega⟩
theorem v8 (x:Nat):∀ q,match qI (λp=>yc ops p=some x) q with
  |some k=>∃ i,idx x (qe ops q)=some i/\(qw ops V q).getD i .bad=V k
  |none=>idx x (qe ops q)=none
 |0=>rfl
 |q+1=>by
  have ih:=v8 x q;simp only[qI];by_cases hd:yc ops q=some x
  ·rw[if_pos hd];refine⟨0,?_,?_⟩
   ·simp only[qe,hd,qv,idx,if_true]
   ·simp only[qw,hd,yM];rfl
  ·rw[if_neg hd];cases hd':yc ops q with
   |none=>
    simp only[qe,qw,hd',qv,yM];exact ih
   |some d=>
    have hne:d≠x:=λe=>hd (by rw[hd',e]);simp only[qe,qw,hd',qv,yM,idx,if_neg hne];cases hl:qI (λp=>yc ops p=some x) q with
    |none=>
     rw[hl] at ih;simp only at ih ⊢;rw[ih];rfl
    |some k=>
     rw[hl] at ih;simp only at ih ⊢;obtain⟨i,h1,h2⟩:=ih;exact⟨i+1,by rw[h1];rfl,by simpa using h2⟩
theorem jhS (x q:Nat):(jQ U (qe ops q) (.tmp x)).run ⟨t,qw ops V q⟩=match qI (λp=>yc ops p=some x) q with
  |some k=>V k
  |none=>cond (inU U x) (zw t x) .bad:=by
 have h:=v8 (ops:=ops) (V:=V) x q;simp only[jQ,gG];cases hl:qI (λp=>yc ops p=some x) q with
 |some k=>
  rw[hl] at h;simp only at h ⊢;obtain⟨i,h1,h2⟩:=h;rw[h1];simp only[Qaw,zC];exact h2
 |none=>
  rw[hl] at h;simp only at h ⊢;rw[h];simp only[QaZ];cases inU U x
  ·rfl
  ·simp only[cond_true,zw];cases (QA (jK x)).run t<;>rfl
def Chg (σ:Nat->St)(p b:Nat):Prop:=((σ p).nx<=b/\b<(σ (p+1)).nx)\/jx (σ (p+1)).h b≠jx (σ p).h b
def jk4 (σ:Nat->St)(b:Nat):Option Nat->Option AO
 |some k=>jx (σ (k+1)).h b
 |none=>jx (σ 0).h b
def cur (σ:Nat->St)(m:Nat)(S:Nat->Prop)(b:Nat):Option AO:=jk4 σ b (qI (λp=>S p/\Chg σ p b) m)
theorem ZE (b:Nat):∀ q,jk4 σ b (qI (λp=>Chg σ p b) q)=jx (σ q).h b
 |0=>rfl
 |q+1=>by
  simp only[qI];by_cases hc:Chg σ q b
  ·rw[if_pos hc];rfl
  ·rw[if_neg hc,ZE b q];have:¬ (jx (σ (q+1)).h b≠jx (σ q).h b):=λh=>hc (.inr h);exact(Classical.not_not.1 this).symm
structure StF (P:Program)(σ:Nat->St)(ex:Nat->Bool)(ops:Array Oper)(p:Nat)(o:Oper):Prop where
 nx:(σ p).nx<=(σ (p+1)).nx
 above:∀ b,(σ (p+1)).nx<=b->jx (σ (p+1)).h b=jx (σ p).h b
 fr:(σ (p+1)).fr=(σ p).fr
 watched:yK P ops p o=true->∀ b,b<(σ p).nx->jx (σ (p+1)).h b=jx (σ p).h b
 calm:acts (jV P o.op)=false->∀ b,b<(σ p).nx->jx (σ (p+1)).h b=jx (σ p).h b
 same:QW (jV P o.op)=false->acts (jV P o.op)=false->σ (p+1)=σ p
theorem US {op:Operand->OF}{wch:Bool}{o:Op}{env:Env}{st:St}{v:AV}{st':St}(hO:OpR P op wch call o env st v st')(h:jV P o=.pure) :
  st'=st/\qu o=none/\∀ st2,(jy P op o).run env st2=.ok v st2:=by
 obtain⟨st1,hd,hO⟩:=hO;have hco:qu o=none:=by
  cases hc:qu o with
  |none=>rfl
  |some x=>have:=J2 (P:=P) hc;rw[h] at this;cases this
 rw[hco] at hO;dsimp only at hO;obtain⟨h1,rfl⟩:=hO;obtain⟨h2,h3⟩:=jgN (P:=P) (op:=op) (env:=env) o h _ _ _ h1;subst h2;refine⟨?_,hco,h3⟩;cases wch<;>rfl
theorem W9 {op:Operand->OF}{o:Op}{env:Env}{st:St}{v:AV}{st':St}(hO:OpR P op false call o env st v st')(h:jV P o=.reads) :
  st'=st/\qu o=none/\∃ ty a,o=.load ty a/\(qQ P ty).run ((op a).run env) st.h=some v:=by
 obtain⟨st1,hd,hO⟩:=hO;have hco:qu o=none:=by
  cases hc:qu o with
  |none=>rfl
  |some x=>have:=J2 (P:=P) hc;rw[h] at this;cases this
 rw[hco] at hO;dsimp only at hO;obtain⟨h1,rfl⟩:=hO;cases o<;>simp only[jV] at h<;>try(cases h;done)
 case load ty a=>
  obtain⟨h2,h3⟩:=jmJ (P:=P) h1;exact⟨h2,hco,ty,a,rfl,h3⟩
 case call c=>
  exfalso;split at h
  ·split at h
   ·split at h<;>cases h
   ·cases h
  all_goals cases h
theorem GE {op:Operand->OF}{o:Op}{env:Env}{st:St}{v:AV}{st':St}(hO:OpR P op false call o env st v st')(h:jV P o=.makes) :
  qu o=none/\∃ ob,st'=⟨st.nx+1,(j1 (jK st.nx)).run ob st.h,st.dirty,st.fr⟩ /\
   ∀ st2,st2.nx=st.nx->(jy P op o).run env st2=.ok v ⟨st2.nx+1,(j1 (jK st2.nx)).run ob st2.h,st2.dirty,st2.fr⟩:=by
 obtain⟨st1,hd,hO⟩:=hO;have hco:qu o=none:=by
  cases hc:qu o with
  |none=>rfl
  |some x=>have:=J2 (P:=P) hc;rw[h] at this;cases this
 rw[hco] at hO;dsimp only at hO;obtain⟨h1,rfl⟩:=hO;obtain⟨ob,h2,h3⟩:=jgW (P:=P) (op:=op) (env:=env) o h _ _ _ h1;exact⟨hco,ob,h2,h3⟩
theorem wS {i:Nat}{o:Oper}{c:Cl}(h:jV P o.op=c)(hc:c≠.other):yK P ops i o=false:=by
 cases hw:yK P ops i o
 ·rfl
 ·exact absurd ((Uz hw).symm.trans h) (λe=>hc e.symm)
theorem U8 (c:Cl):c=.pure\/c=.reads\/c=.makes\/acts c=true:=by
 cases c
 ·exact .inl rfl
 ·exact .inr (.inl rfl)
 ·exact .inr (.inr (.inl rfl))
 ·exact .inr (.inr (.inr rfl))
 ·exact .inr (.inr (.inr rfl))
theorem Ctx.step (c:Ctx P call U N ops t ι0 w0 a0 σ V E ex ab){p:Nat}(hp:p<ops.size){o:Oper}(ho:ops[p]? = some o){ι:Inj}{a:Act}{w:World}(r:Rel ι U N t (qe ops p) (qw ops V p) (σ p) a w) :
  StF P σ ex ops p o/\∃ ι' a' w',Rel ι' U N t (qe ops (p+1)) (qw ops V (p+1)) (σ (p+1)) a' w'/\Le ι ι'/\Cleanly ι ι' (σ p) (σ (p+1)):=by
 obtain⟨o',htr⟩:=c.tr p hp;have:o'=o:=by have:=htr.hop;rw[ho] at this;cases this;rfl
 subst this;have hmem:o'∈ops.toList:=Qcb.2 (Array.mem_of_getElem? ho);have hd:yc ops p=o'.dst:=by simp[yc,ho]
 have e1:qe ops (p+1)=qv o'.dst (qe ops p):=by simp only[qe,hd]
 have e2:qw ops V (p+1)=(yM o'.dst).run (V p) (qw ops V p):=by simp only[qw,hd]
 rw[e1,e2];cases hx:ex p
 ·obtain⟨h1,h2,h3⟩:=htr.skip hx;rw[h3,h1];refine⟨⟨by rw[h3];exact μ _,λb _=>by rw[h3],by rw[h3],λ_ b _=>by rw[h3],λ_ b _=>by rw[h3],λ_ _=>h3⟩,ι,a.put o'.dst undef,w,r.put (c.dst o' hmem) (wU ι),Le.refl ι,Cleanly.refl ι _⟩
 ·obtain⟨h1,h2,h3⟩:=htr.run hx;obtain⟨x,w',ι',hl⟩:=(Wi c.hcall (Wl c.ok ho).2.1 h1 r.sim λx _=>r.opd x).ex;refine⟨⟨hl.cl.nx,hl.cl.above,hl.fr,hl.quiet,λha b hb=>?_,λhm ha=>?_⟩,ι',a.put o'.dst x,w',?_,hl.le,hl.cl⟩
  ·rcases U8 (jV P o'.op) with h4|h4|h4|h4
   ·rw[(US h1 h4).1]
   ·rw[wS h4 (by simp)] at h1;rw[(W9 h1 h4).1]
   ·rw[wS h4 (by simp)] at h1;obtain⟨_,ob,h5,_⟩:=GE h1 h4;rw[h5];show jx ((j1 (jK (σ p).nx)).run ob (σ p).h) b=_;rw[jX,if_neg om]
   ·rw[ha] at h4;cases h4
  ·rcases U8 (jV P o'.op) with h4|h4|h4|h4
   ·exact(US h1 h4).1
   ·rw[wS h4 (by simp)] at h1;exact(W9 h1 h4).1
   ·rw[h4] at hm;cases hm
   ·rw[ha] at h4;cases h4
  ·exact(r.mono hl.le hl.sim hl.fr).put (c.dst o' hmem) hl.v
theorem Ctx.can (c:Ctx P call U N ops t ι0 w0 a0 σ V E ex ab):∀ p,p<=ops.size->∃ ι a w,Rel ι U N t (qe ops p) (qw ops V p) (σ p) a w/\Le ι0 ι/\Cleanly ι0 ι (σ 0) (σ p)
 |0,_=>⟨ι0,a0,w0,c.rel0,Le.refl ι0,Cleanly.refl ι0 _⟩
 |p+1,hp=>by
  obtain⟨ι,a,w,r,hl,hc⟩:=c.can p om;obtain⟨_,ι',a',w',r',hl',hc'⟩:=c.step om (o:=ops[p]) (by simp[show p<ops.size by omega]) r;exact⟨ι',a',w',r',hl.trans hl',hc.trans hc'⟩
theorem Ctx.stf (c:Ctx P call U N ops t ι0 w0 a0 σ V E ex ab){p:Nat}{o:Oper}(ho:ops[p]? = some o):StF P σ ex ops p o:=by
 have hp:p<ops.size:=(Qav.1 ho).1;obtain⟨ι,a,w,r,_⟩:=c.can p om;exact(c.step hp ho r).1
theorem Ctx.nx_mono (c:Ctx P call U N ops t ι0 w0 a0 σ V E ex ab){p:Nat}:∀ q,p<=q->q<=ops.size->(σ p).nx<=(σ q).nx
 |0,h,_=>by
  have:p=0:=om
  subst this;exact μ _
 |q+1,h,hq=>by
  by_cases hpq:p=q+1
  ·subst hpq;exact μ _
  ·exact ψ (c.nx_mono q om om) (c.stf (p:=q) (o:=ops[q]) (by simp[show q<ops.size by omega])).nx
theorem Ctx.chg (c:Ctx P call U N ops t ι0 w0 a0 σ V E ex ab){p b:Nat}{o:Oper}(ho:ops[p]? = some o)(h:Chg σ p b)(hb:b<(σ p).nx):acts (jV P o.op)=true/\yK P ops p o=false/\jx (σ (p+1)).h b≠jx (σ p).h b:=by
 have s:=c.stf ho;rcases h with ⟨h,_⟩|h
 ·omega
 ·refine⟨?_,?_,h⟩
  ·cases ha:acts (jV P o.op)
   ·exact absurd (s.calm ha b hb) h
   ·rfl
  ·cases ha:yK P ops p o
   ·rfl
   ·exact absurd (s.watched ha b hb) h
theorem Ctx.chg_lt (c:Ctx P call U N ops t ι0 w0 a0 σ V E ex ab){p b:Nat}{o:Oper}(ho:ops[p]? = some o)(h:Chg σ p b):b<(σ (p+1)).nx:=by
 rcases h with ⟨_,h⟩|h
 ·exact h
 ·rcases Qar b (σ (p+1)).nx with h1|h1
  ·exact h1
  ·exact absurd ((c.stf ho).above b h1) h
end
structure Inv (P:Program)(call:qF)(U N:Nat)(ops:Array Oper)(t:T AV)(ι0:Inj)(w0:World)(a0:Act)(σ:Nat->St)(V:Nat->AV)(ab:Nat->Bool)(S:Nat->Prop)(ι:Inj)(a:Act)(w:World):Prop where
 size:N<=a.tmps.size
 ds:DRs ι (σ 0).fr a.defers
 le:Le ι0 ι
 grew:Grew ι0 w0 ι w
 slot:∀ x,match qI (λp=>S p/\yc ops p=some x) ops.size with
  |some k=>VR ι (V k) (a.tmps.getD x undef)
  |none=>inU U x=true->VR ι (zw t x) (a.tmps.getD x undef)
 sim:Sim ι (tab (cur σ ops.size S) (σ ops.size).nx) (σ ops.size).nx w
 birth:∀ b,ι b≠.unborn->ι0 b≠.unborn\/∃ p,p<ops.size/\S p/\(σ p).nx<=b/\b<(σ (p+1)).nx
 born:∀ p,p<ops.size->S p->∀ b,(σ p).nx<=b->b<(σ (p+1)).nx->ι b≠.unborn
 closed:jcn ops S
 live:∀ p,S p->ab p=false
section
variable {P:Program} {call:qF} {U N:Nat} {ops:Array Oper} {t:T AV} {ι0:Inj} {w0:World} {a0:Act} {σ:Nat->St} {V:Nat->AV} {E:Nat->TE} {ex ab:Nat->Bool}
variable {S:Nat->Prop} {ι:Inj} {a:Act} {w:World}
theorem QI {p:Nat}(hp:p<ops.size):ops[p]? = some ops[p]:=by simp[hp]
theorem Ctx.born0 (c:Ctx P call U N ops t ι0 w0 a0 σ V E ex ab){b:Nat}(h:ι0 b≠.unborn):b<(σ 0).nx:=c.rel0.sim.born b h
theorem Inv.canon (c:Ctx P call U N ops t ι0 w0 a0 σ V E ex ab)(I:Inv P call U N ops t ι0 w0 a0 σ V ab S ι a w){b q:Nat}(hb:ι b≠.unborn)(hq:q<=ops.size)(hbq:b<(σ q).nx){ιc:Inj}(hc:Cleanly ι0 ιc (σ 0) (σ q)):ιc b≠.unborn:=by
 rcases I.birth b hb with h|⟨p,hp,hS,h1,h2⟩
 ·exact hc.le b h
 ·exact hc.n b (ψ (c.nx_mono p (Qaa _) om) h1) hbq
theorem Inv.maker (c:Ctx P call U N ops t ι0 w0 a0 σ V E ex ab)(I:Inv P call U N ops t ι0 w0 a0 σ V ab S ι a w){b p:Nat}(hb:ι b≠.unborn)(hp:p<ops.size)(h1:(σ p).nx<=b)(h2:b<(σ (p+1)).nx):S p:=by
 rcases I.birth b hb with h|⟨p',hp',hS,h3,h4⟩
 ·have:=c.born0 h;have:=c.nx_mono (p:=0) p om om;omega
 ·rcases Qca p p' with h5|h5|h5
  ·have:=c.nx_mono (p:=p+1) p' om om;omega
  ·rw[h5];exact hS
  ·have:=c.nx_mono (p:=p'+1) p om om;omega
theorem Inv.looks (c:Ctx P call U N ops t ι0 w0 a0 σ V E ex ab)(I:Inv P call U N ops t ι0 w0 a0 σ V ab S ι a w){q:Nat}{o:Oper}(ho:ops[q]? = some o)(hr:Je ops S q)(hn:¬ S q){x:Nat}(hx:x∈o.looksAt ops) :
  VR ι ((jQ U (qe ops q) (.tmp x)).run ⟨t,qw ops V q⟩) (a.tmps.getD x undef):=by
 have hq:q<ops.size:=(Qav.1 ho).1;have e:qI (λp=>S p/\yc ops p=some x) ops.size=qI (λp=>yc ops p=some x) q:=by
  rw[<-ZA ops.size (QbE hq)];refine zc _ λp hp=>?_;refine and_congr_left λhd=>?_;by_cases hpq:p=q
  ·subst hpq;exact⟨λh=>absurd h hn,λh=>by omega⟩
  ·have hu:=QI hp;rcases sep c.ok ho hu (λe=>hpq e.symm) with h|⟨h,_⟩
   ·exact wO c.ok I.closed hu ho hr hn h
   ·have hd':(ops[p]).dst=some x:=by simpa[yc,hu] using hd
    exact absurd hx (h.d1 x hd')
 have hs:=I.slot x;rw[jhS,<-e];cases hl:qI (λp=>S p/\yc ops p=some x) ops.size with
 |some k=>rw[hl] at hs;exact hs
 |none=>
  rw[hl] at hs;simp only at hs ⊢;cases hu:inU U x
  ·simp[VR]
  ·exact hs hu
theorem Inv.opnd (c:Ctx P call U N ops t ι0 w0 a0 σ V E ex ab)(I:Inv P call U N ops t ι0 w0 a0 σ V ab S ι a w){q:Nat}{o:Oper}(ho:ops[q]? = some o)(hr:Je ops S q)(hn:¬ S q) :
  ∀ x∈o.op.operands.toList,VR ι ((jQ U (qe ops q) x).run ⟨t,qw ops V q⟩) (a.eval x):=by
 intro x hx;cases x with
 |tmp x=>
  have:x∈o.looksAt ops:=List.mem_append_left _ (List.mem_filterMap.2 ⟨.tmp x,hx,rfl⟩);exact I.looks c ho hr hn this
 |const v=>exact uS ι v
 |global g=>simp[jQ,VR]
 |func f=>simp only[jQ,VR,Act.eval];exact⟨#[],rfl,by simp[VRs]⟩
theorem Inv.want {x:Bool}(c:Ctx P call U N ops t ι0 w0 a0 σ V E ex ab)(I:Inv P call U N ops t ι0 w0 a0 σ V ab S ι a w){q:Nat}{o:Oper}(ho:ops[q]? = some o)(hr:Je ops S q)(hn:¬ S q)
  (htr:match yf (jQ U (qe ops q)) ops o with|none=>x=true|some wf=>wf.run ⟨t,qw ops V q⟩=some x) :
  Region.wanted o (yielded ops a.tmps)=x:=by
 unfold yf at htr;unfold Region.wanted;cases hg:o.guard with
 |none=>rw[hg] at htr;exact htr.symm
 |some jw=>
  obtain⟨j,want⟩:=jw;rw[hg] at htr;simp only at htr ⊢;cases hd:(ops[j]?).bind (·.dst) with
  |none=>rw[hd] at htr;simp at htr
  |some d=>
   rw[hd] at htr;simp only at htr;have hv:=I.looks c ho hr hn (x:=d) (by simp[Oper.looksAt,hg,hd]);generalize (jQ U (qe ops q) (.tmp d)).run ⟨t,qw ops V q⟩=v at htr hv;have hy:yielded ops a.tmps j=match a.tmps[d]? with|some (.bool b)=>some b|_=>none:=by
    unfold yielded;rw[hd];rfl
   rw[hy];have jx:a.tmps.getD d undef=(a.tmps[d]?).getD undef:=by simp[QbQ]
   rw[jx] at hv;split at htr
   ·rename_i b;simp only[Option.some.injEq] at htr;simp only[VR] at hv;cases hq:a.tmps[d]? with
    |none=>rw[hq] at hv;simp[undef] at hv
    |some y=>
     rw[hq] at hv;simp only[QaH] at hv;subst hv;simp only;rw[<-htr];cases b<;>cases want<;>rfl
   ·cases htr
   ·rename_i h1 h2;simp only[Option.some.injEq] at htr;rw[<-htr];have hnb:=jc8 hv (λb e=>h1 b e) (λe=>h2 e);cases hq:a.tmps[d]? with
    |none=>rfl
    |some y=>
     rw[hq] at hnb;simp only[QaH] at hnb;cases y<;>first|rfl|(exact absurd rfl (hnb _))
theorem DRs.hide {ι ι0:Inj}{n:Nat}(hn:∀ b,ι0 b≠.unborn->b<n):∀ (ps:List (FuncId×List AV)) (l0 l:List Deferred),DRs ι0 ps l0->DRs ι ps l->DRs (Ev.hide ι n) ps l
 |[],_,_,_,k=>k
 |p :: ps,l0,l,k0,k=>by
  simp only[DRs] at k0 k ⊢;obtain⟨cap,dargs,ds,rfl,h1,h2⟩:=k;obtain⟨cap0,dargs0,ds0,rfl,h10,h20⟩:=k0;exact⟨cap,dargs,ds,rfl,VRs.hide hn _ _ _ h10 h1,DRs.hide hn ps _ _ h20 h2⟩
def Add (S:Nat->Prop)(q:Nat)(p:Nat):Prop:=S p\/p=q
theorem Inv.next (c:Ctx P call U N ops t ι0 w0 a0 σ V E ex ab)(I:Inv P call U N ops t ι0 w0 a0 σ V ab S ι a w){q:Nat}{o:Oper}(ho:ops[q]? = some o)(hr:Je ops S q)(hn:¬ S q)(hab:ab q=false)
  {ι':Inj} {x:Value} {w':World} (hl:Le ι ι') (hg:Grew ι w ι' w') (hv:VR ι' (V q) x) (hs:Sim ι' (tab (cur σ ops.size (Add S q)) (σ ops.size).nx) (σ ops.size).nx w')
  (hb1:∀ b,ι' b≠.unborn->ι b≠.unborn\/((σ q).nx<=b/\b<(σ (q+1)).nx)) (hb2:∀ b,(σ q).nx<=b->b<(σ (q+1)).nx->ι' b≠.unborn) :
  Inv P call U N ops t ι0 w0 a0 σ V ab (Add S q) ι' (a.put o.dst x) w':=by
 have hq:q<ops.size:=(Qav.1 ho).1;have hmem:o∈ops.toList:=Qcb.2 (Array.mem_of_getElem? ho);have hdq:yc ops q=o.dst:=by simp[yc,ho]
 refine⟨by rw[jaY];exact I.size,by rw[kY];exact DRs.mono hl _ _ I.ds,I.le.trans hl,I.grew.trans hg,λy=>?_,hs,λb hb=>?_,λp hp hS b h1 h2=>?_,λi u hS hu e he hbe=>?_,λp hS=>hS.elim (I.live p) (λe=>e▸hab)⟩
 ·by_cases hy:o.dst=some y
  ·have e:qI (λp=>Add S q p/\yc ops p=some y) ops.size=some q:=by
    refine jbo hq ⟨.inr rfl,by rw[hdq,hy]⟩ λp h1 h2 ⟨h3,h4⟩=>?_;have hS:S p:=h3.resolve_right om;have hu:=QI h2;rcases sep c.ok ho hu om with h|⟨h,_⟩
    ·have:=(wO c.ok I.closed hu ho hr hn h).1 hS;omega
    ·have hd':(ops[p]).dst=some y:=by simpa[yc,hu] using h4
     exact h.d3 y hd' hy
   rw[e];simp only;have hlt:y<a.tmps.size:=Qat (c.dst o hmem y hy) I.size;rw[hy,VZ a y x y hlt,if_pos rfl];exact hv
  ·have e:qI (λp=>Add S q p/\yc ops p=some y) ops.size=qI (λp=>S p/\yc ops p=some y) ops.size:=by
    refine zc _ λp hp=>and_congr_left λhd=>?_;refine⟨λh=>h.resolve_right λe=>hy ?_,.inl⟩;subst e;rw[<-hdq];exact hd
   have hg:(a.put o.dst x).tmps.getD y undef=a.tmps.getD y undef:=by
    cases hd:o.dst with
    |none=>rfl
    |some d=>
     rw[VZ a d x y (Qat (c.dst o hmem d hd) I.size),if_neg (λe=>hy (by rw[hd,e]))]
   rw[e,hg];have:=I.slot y;cases hl':qI (λp=>S p/\yc ops p=some y) ops.size with
   |some k=>rw[hl'] at this;exact VR.mono hl _ _ this
   |none=>rw[hl'] at this;exact λhu=>VR.mono hl _ _ (this hu)
 ·rcases hb1 b hb with h|h
  ·rcases I.birth b h with h|⟨p,h1,h2,h3⟩
   ·exact .inl h
   ·exact .inr ⟨p,h1,.inl h2,h3⟩
  ·exact .inr ⟨q,hq,.inr rfl,h⟩
 ·rcases hS with hS|hS
  ·exact hl.born (I.born p hp hS b h1 h2)
  ·subst hS;exact hb2 b h1 h2
 ·rcases hS with hS|hS
  ·exact .inl (I.closed i u hS hu e he hbe)
  ·subst hS;obtain⟨o',ho',h⟩:=hr;rw[ho'] at hu;cases hu;exact .inl (h e he hbe)
theorem YF {q b:Nat}(h:¬ Chg σ q b):cur σ ops.size (Add S q) b=cur σ ops.size S b:=by
 unfold cur
 congr 1
 refine zc _ λp hp=>?_;refine and_congr_left λhc=>?_;exact⟨λh'=>h'.resolve_right λe=>h (by rw[<-e];exact hc),.inl⟩
theorem Inv.still (c:Ctx P call U N ops t ι0 w0 a0 σ V E ex ab)(I:Inv P call U N ops t ι0 w0 a0 σ V ab S ι a w){q:Nat}{o:Oper}(ho:ops[q]? = some o)(hr:Je ops S q)(hn:¬ S q)(hab:ab q=false)(hsame:σ (q+1)=σ q)
  {ι':Inj} {x:Value} {w':World} (hl:Le ι ι') (hg:Grew ι w ι' w') (hv:VR ι' (V q) x) (hs:Sim ι' (tab (cur σ ops.size S) (σ ops.size).nx) (σ ops.size).nx w') (hu:∀ b,b<(σ ops.size).nx->ι b=.unborn->ι' b=.unborn) :
  Inv P call U N ops t ι0 w0 a0 σ V ab (Add S q) ι' (a.put o.dst x) w':=by
 refine I.next c ho hr hn hab hl hg hv ?_ (λb hb=>.inl λh=>hb (hu b (hs.born b hb) h)) (λb h1 h2=>by rw[hsame] at h2;omega)
 refine hs.same λb _=>?_;rw[yV,yV];split
 ·refine YF λh=>?_;rcases h with h|h
  ·rw[hsame] at h;omega
  ·rw[hsame] at h;exact h rfl
 ·rfl
theorem Inv.low (c:Ctx P call U N ops t ι0 w0 a0 σ V E ex ab)(I:Inv P call U N ops t ι0 w0 a0 σ V ab S ι a w){q:Nat}{o:Oper}(ho:ops[q]? = some o)(hr:Je ops S q)(hn:¬ S q)
  (hk:QW (jV P o.op)=true\/acts (jV P o.op)=true) {b p:Nat} (hp:p<ops.size) (hb:b<(σ (q+1)).nx) (hS:S p) (hc:Chg σ p b):p<q:=by
 have hu:=QI hp;rcases Qca p q with h|h|h
 ·exact h
 ·subst h;exact absurd hS hn
 ·exfalso;have hmono:=c.nx_mono (p:=q+1) p om om;obtain⟨h1,h2,h3⟩:=c.chg hu hc om;rcases sep c.ok hu ho om with h4|⟨h4,h5⟩
  ·rw[QP] at h4;have:=(wO c.ok I.closed hu ho hr hn h4).1 hS;omega
  ·rcases hk with hk|hk
   ·exact h5 h ⟨hk,h1⟩
   ·have hw1:=h4.w1;have hw2:=h4.w2;have ho1:JW (jV P (ops[p]).op)=true:=by
     cases hcl:jV P (ops[p]).op<;>rw[hcl] at h1 hw2<;>simp_all [acts,Qw,JW]
    have ho2:JW (jV P o.op)=true:=by
     cases hcl:jV P o.op<;>rw[hcl] at hk hw1<;>simp_all [acts,Qw,JW]
    have hwt:yK P ops p ops[p]=true:=by
     unfold yK;simp only[χ,QaI,ho1,true_and];rw[List.all_eq_false];refine⟨q,by simp;omega,?_⟩;have hne:Qci p q=false:=by
      cases hbq:Qci p q
      ·rfl
      ·rw[qH] at hbq;omega
     have hno:yg (q6 ops.toList) p q=false:=by
      cases hoo:yg (q6 ops.toList) p q
      ·rfl
      ·exfalso;have hoo':yg (bs ops) q p=true:=by rw[QP];exact hoo
       have:=(wO c.ok I.closed hu ho hr hn hoo').1 hS;omega
     simp[ho,hne,ho2,hno]
    rw[hwt] at h2;cases h2
theorem Inv.ahead (c:Ctx P call U N ops t ι0 w0 a0 σ V E ex ab)(I:Inv P call U N ops t ι0 w0 a0 σ V ab S ι a w){q:Nat}{o:Oper}(ho:ops[q]? = some o)(hr:Je ops S q)(hn:¬ S q)
  (hk:acts (jV P o.op)=true) {b p:Nat} (hb:ι b≠.unborn) (hpq:p<q) (hc:Chg σ p b):S p:=by
 have hq:q<ops.size:=(Qav.1 ho).1;have hp:p<ops.size:=om
 have hu:=QI hp;rcases Qar b (σ p).nx with h|h
 ·obtain⟨h1,h2,h3⟩:=c.chg hu hc h;by_cases hoo:yg (bs ops) q p=true
  ·exact(wO c.ok I.closed hu ho hr hn hoo).2 hpq
  ·exfalso;obtain⟨h4,_⟩:=(sep c.ok ho hu om).resolve_left hoo;have hw1:=h4.w1;have hw2:=h4.w2;have ho1:JW (jV P (ops[p]).op)=true:=by
    cases hcl:jV P (ops[p]).op<;>rw[hcl] at h1 hw1<;>simp_all [acts,Qw,JW]
   have ho2:JW (jV P o.op)=true:=by
    cases hcl:jV P o.op<;>rw[hcl] at hk hw2<;>simp_all [acts,Qw,JW]
   have hwt:yK P ops p ops[p]=true:=by
    unfold yK;simp only[χ,QaI,ho1,true_and];rw[List.all_eq_false];refine⟨q,by simp;omega,?_⟩;have hne:Qci p q=false:=by
     cases hbq:Qci p q
     ·rfl
     ·rw[qH] at hbq;omega
    have hno:yg (q6 ops.toList) p q=false:=by
     cases hoo2:yg (q6 ops.toList) p q
     ·rfl
     ·exact absurd (by rw[QP];exact hoo2) hoo
    simp[ho,hne,ho2,hno]
   rw[hwt] at h2;cases h2
 ·exact I.maker c hb hp h (c.chg_lt hu hc)
end
section
variable {P:Program} {call:qF} {U N:Nat} {ops:Array Oper} {t:T AV} {ι0:Inj} {w0:World} {a0:Act} {σ:Nat->St} {V:Nat->AV} {E:Nat->TE} {ex ab:Nat->Bool}
variable {S:Nat->Prop} {ι:Inj} {a:Act} {w:World}
theorem Inv.bound (c:Ctx P call U N ops t ι0 w0 a0 σ V E ex ab)(I:Inv P call U N ops t ι0 w0 a0 σ V ab S ι a w){b k:Nat}(hk:k<=ops.size)(hbk:b<(σ k).nx){B T:Nat}(hb:ι b=.at B T)
  {o:AO} {x:Obj} (ho:jx (σ k).h b=some o) (hx:OR ι T o x):obnd (σ k).nx o:=by
 obtain⟨ιc,ac,wc,r,_,hc⟩:=c.can k hk;have hbc:=I.canon c (by rw[hb];simp) hk hbk hc;cases hι:ιc b with
 |unborn=>exact absurd hι hbc
 |dead=>
  have:=r.sim.gone b hι o ho;subst this;exact hx.elim
 |«at» B' T'=>
  obtain⟨o',x',h1,h2,h3⟩:=r.sim.obj b B' T' hι;rw[ho] at h1;cases h1;exact⟨ιc,T',x',r.sim.born,h3⟩
theorem Inv.seen (c:Ctx P call U N ops t ι0 w0 a0 σ V E ex ab)(I:Inv P call U N ops t ι0 w0 a0 σ V ab S ι a w){q:Nat}{o:Oper}(ho:ops[q]? = some o)(hr:Je ops S q)(hn:¬ S q)
  (hk:QW (jV P o.op)=true\/acts (jV P o.op)=true) {h2:T AO} (hh:∀ b,b<(σ q).nx->ι b≠.unborn->jx h2 b=cur σ ops.size S b) :
  Sim (hide ι (σ q).nx) h2 (σ q).nx w:=by
 have hq:q<ops.size:=(Qav.1 ho).1;have hM:=c.nx_mono (p:=q) ops.size om om;have hq1:=(c.stf ho).nx;refine⟨λb B T hb=>?_,λb hb o' ho'=>?_,λb b' B T T' h1 h2=>?_,λb hb=>?_,⟨⟨I.sim.glob.1.1,λb S' e=>I.sim.glob.1.2 b S' (zG e).1⟩,λB vs hB=>⟨(I.sim.glob.2 B vs hB).1,λb S' e=>(I.sim.glob.2 B vs hB).2 b S' (zG e).1⟩⟩⟩
 ·obtain⟨hb1,hb2⟩:=zG hb;obtain⟨ob,x,h1,h3,h4⟩:=I.sim.obj b B T hb1;rw[yV,if_pos om] at h1;refine⟨ob,x,by rw[hh b hb2 (by rw[hb1];simp)];exact h1,h3,?_⟩;have:obnd (σ q).nx ob:=by
   unfold cur at h1;cases hl:qI (λp=>S p/\Chg σ p b) ops.size with
   |none=>
    rw[hl] at h1;rcases Qar b (σ 0).nx with h0|h0
    ·exact(I.bound c (Qaa _) h0 hb1 h1 h4).mono (c.nx_mono q (Qaa _) om)
    ·exfalso;rcases I.birth b (by rw[hb1];simp) with h5|⟨p,h5,h6,h7⟩
     ·have:=c.born0 h5;omega
     ·exact wb _ hl p h5 ⟨h6,.inl h7⟩
   |some k=>
    rw[hl] at h1;obtain⟨h5,⟨h6,h7⟩,_⟩:=Xb _ hl;have h8:=I.low c ho hr hn hk h5 om h6 h7;exact(I.bound c (k:=k+1) om (c.chg_lt (QI h5) h7) hb1 h1 h4).mono (c.nx_mono q om om)
  exact this.hide h4
 ·unfold hide at hb;dsimp only at hb;split at hb
  ·rename_i hlt;rw[hh b hlt (by rw[hb];simp)] at ho';exact I.sim.gone b hb o' (by rw[yV,if_pos om];exact ho')
  ·cases hb
 ·exact I.sim.inj b b' B T T' (zG h1).1 (zG h2).1
 ·unfold hide at hb;dsimp only at hb;split at hb
  ·assumption
  ·exact absurd rfl hb
theorem Inv.hidden (c:Ctx P call U N ops t ι0 w0 a0 σ V E ex ab)(I:Inv P call U N ops t ι0 w0 a0 σ V ab S ι a w){q:Nat}{o:Oper}(ho:ops[q]? = some o)(hr:Je ops S q)(hn:¬ S q) :
  ∀ x∈o.op.operands.toList,VR (hide ι (σ q).nx) ((jQ U (qe ops q) x).run ⟨t,qw ops V q⟩) (a.eval x):=by
 intro x hx;have h1:=I.opnd c ho hr hn x hx;have hq:q<ops.size:=(Qav.1 ho).1;obtain⟨ιc,ac,wc,r,_,_⟩:=c.can q om;exact VR.hide r.sim.born _ _ _ (r.opd x) h1
theorem Inv.merge (c:Ctx P call U N ops t ι0 w0 a0 σ V E ex ab)(I:Inv P call U N ops t ι0 w0 a0 σ V ab S ι a w){q:Nat}{o:Oper}(ho:ops[q]? = some o)(hr:Je ops S q)(hn:¬ S q)(hab:ab q=false)
  {st2 st2':St} (hn1:st2.nx=(σ q).nx) (hn2:st2'.nx=(σ (q+1)).nx) {wch:Bool} {ι':Inj} {x:Value} {w':World} (L:Left (hide ι (σ q).nx) w wch st2 (V q) st2' ι' x w')
  (hh:∀ b,b<(σ (q+1)).nx->ι' b≠.unborn->(b<(σ q).nx->ι b≠.unborn)->jx st2'.h b=cur σ ops.size (Add S q) b) :
  ∃ ι2,Inv P call U N ops t ι0 w0 a0 σ V ab (Add S q) ι2 (a.put o.dst x) w':=by
 have hq:q<ops.size:=(Qav.1 ho).1;have hq1:=(c.stf ho).nx;have hM:=c.nx_mono (p:=q+1) ops.size om om;have hu:∀ b,b<(σ q).nx->ι b=.unborn->ι' b=.unborn:=λb hb hub=>by
  refine L.cl.u b (by rw[hn1];exact hb) ?_;unfold hide;dsimp only;rw[if_pos hb];exact hub
 have hnew:∀ b,(σ q).nx<=b->b<(σ (q+1)).nx->ι b=.unborn:=λb h1 h2=>by
  cases hb:ι b with
  |unborn=>rfl
  |dead=>exact absurd (I.maker c (by rw[hb];simp) hq h1 h2) hn
  |«at» B T=>exact absurd (I.maker c (by rw[hb];simp) hq h1 h2) hn
 have hb':∀ b,ι' b≠.unborn->b<(σ (q+1)).nx:=λb hb=>by rw[<-hn2];exact L.sim.born b hb
 have hfz:∀ B vs,ι'.g B=some vs->∀ b S,(if b<(σ (q+1)).nx then ι' b else ι b)≠.at B S:=λB vs hB b S hb=>by
  by_cases h1:b<(σ (q+1)).nx
  ·rw[if_pos h1] at hb;exact(L.sim.glob.2 B vs hB).2 b S hb
  ·rw[if_neg h1] at hb;rcases L.grew.gl B vs hB with h|⟨_,⟨d,T,h⟩|h⟩
   ·exact(I.sim.glob.2 B vs h).2 b S hb
   ·obtain⟨h2,h3⟩:=zG h;have:=I.sim.inj d b B T S h2 hb;omega
   ·have:=I.sim.lt hb;omega
 have le2:Le ι' ⟨λb=>if b<(σ (q+1)).nx then ι' b else ι b,ι'.g⟩:=⟨λb hb=>.inl (if_pos (hb' b hb)),λ_ _ h=>h⟩;have le1:Le ι ⟨λb=>if b<(σ (q+1)).nx then ι' b else ι b,ι'.g⟩:=by
  refine⟨λb hb=>?_,L.le.2⟩;by_cases h1:b<(σ (q+1)).nx
  ·simp only[if_pos h1];rcases Qar b (σ q).nx with h2|h2
   ·have e:hide ι (σ q).nx b=ι b:=by unfold hide;dsimp only;rw[if_pos h2]
    have:=L.le.1 b (by rw[e];exact hb);rwa [e] at this
   ·exact absurd (hnew b h2 h1) hb
  ·simp only[if_neg h1];exact .inl trivial
 refine⟨⟨λb=>if b<(σ (q+1)).nx then ι' b else ι b,ι'.g⟩,I.next c ho hr hn hab le1 ?_ (VR.mono le2 _ _ L.v) ?_ ?_ ?_⟩
 ·refine⟨L.grew.os,L.grew.tape,L.grew.output,L.grew.size,λk hk hno=>L.grew.keep k hk λb T hb=>hno b T (zG hb).1,λb B T hb=>?_,λB vs hB=>(L.grew.gl B vs hB).elim .inl λh=>.inr ⟨⟨h.1.1,hfz B vs hB⟩,h.2.elim (λ⟨d,T,hd⟩=>.inl ⟨d,T,(zG hd).1⟩) .inr⟩⟩;by_cases h1:b<(σ (q+1)).nx
  ·simp only[if_pos h1] at hb;rcases L.grew.new b B T hb with ⟨d,T',h2⟩|h2
   ·exact .inl ⟨d,T',(zG h2).1⟩
   ·exact .inr h2
  ·simp only[if_neg h1] at hb;exact .inl ⟨b,T,hb⟩
 ·refine⟨λb B T hb=>?_,λb hb o' ho'=>?_,λb b' B T T' h1 h2=>?_,λb hb=>?_,⟨⟨L.sim.glob.1.1,λb T hb=>by
   by_cases h1:b<(σ (q+1)).nx
   ·simp only[if_pos h1] at hb;exact L.sim.glob.1.2 b T hb
   ·simp only[if_neg h1] at hb;exact I.sim.glob.1.2 b T hb⟩,λB vs hB=>⟨(L.sim.glob.2 B vs hB).1,hfz B vs hB⟩⟩⟩
  ·by_cases h1:b<(σ (q+1)).nx
   ·simp only[if_pos h1] at hb;obtain⟨ob,y,h2,h3,h4⟩:=L.sim.obj b B T hb;refine⟨ob,y,?_,h3,OR.mono le2 _ _ h4⟩
    ·rw[yV,if_pos om,<-hh b h1 (by rw[hb];simp) λh5 h6=>by rw[hu b h5 h6] at hb;cases hb];exact h2
   ·simp only[if_neg h1] at hb;obtain⟨ob,y,h2,h3,h4⟩:=I.sim.obj b B T hb;have hbM:b<(σ ops.size).nx:=I.sim.born b (by rw[hb];simp);have hnc:¬ Chg σ q b:=λh=>h1 (c.chg_lt ho h);refine⟨ob,y,?_,?_,OR.mono le1 _ _ h4⟩
    ·rw[yV,if_pos hbM,YF hnc];rw[yV,if_pos hbM] at h2;exact h2
    ·rw[L.grew.keep B (I.sim.lt hb) λd T' hd=>?_]
     ·exact h3
     ·obtain⟨h5,h6⟩:=zG hd;have:=I.sim.inj d b B T' T h5 hb;omega
  ·by_cases h1:b<(σ (q+1)).nx
   ·simp only[if_pos h1] at hb;rw[yV,if_pos om,<-hh b h1 (by rw[hb];simp) λh5 h6=>by rw[hu b h5 h6] at hb;cases hb] at ho';exact L.sim.gone b hb o' ho'
   ·simp only[if_neg h1] at hb;have hbM:b<(σ ops.size).nx:=I.sim.born b (by rw[hb];simp);have hnc:¬ Chg σ q b:=λh=>h1 (c.chg_lt ho h);rw[yV,if_pos hbM,YF hnc] at ho';exact I.sim.gone b hb o' (by rw[yV,if_pos hbM];exact ho')
  ·have mixed:∀ b b' B T T',b<(σ (q+1)).nx->¬ b'<(σ (q+1)).nx->ι' b=.at B T->ι b'=.at B T'->False:=by
    intro b b' B T T' h3 h4 h5 h6;have h7:=I.sim.lt h6;rcases L.grew.new b B T h5 with ⟨d,T2,h8⟩|h8
    ·obtain⟨h9,h10⟩:=zG h8;have:=I.sim.inj d b' B T2 T' h9 h6;omega
    ·omega
   by_cases h3:b<(σ (q+1)).nx<;>by_cases h4:b'<(σ (q+1)).nx
   ·simp only[if_pos h3] at h1;simp only[if_pos h4] at h2;exact L.sim.inj b b' B T T' h1 h2
   ·simp only[if_pos h3] at h1;simp only[if_neg h4] at h2;exact(mixed b b' B T T' h3 h4 h1 h2).elim
   ·simp only[if_neg h3] at h1;simp only[if_pos h4] at h2;exact(mixed b' b B T' T h4 h3 h2 h1).elim
   ·simp only[if_neg h3] at h1;simp only[if_neg h4] at h2;exact I.sim.inj b b' B T T' h1 h2
  ·by_cases h1:b<(σ (q+1)).nx
   ·omega
   ·simp only[if_neg h1] at hb;exact I.sim.born b hb
 ·intro b hb;by_cases h1:b<(σ (q+1)).nx
  ·simp only[if_pos h1] at hb;rcases Qar b (σ q).nx with h2|h2
   ·exact .inl λh3=>hb (hu b h2 h3)
   ·exact .inr ⟨h2,h1⟩
  ·simp only[if_neg h1] at hb;exact .inl hb
 ·intro b h1 h2;simp only[if_pos h2];exact L.cl.n b (by rw[hn1];exact h1) (by rw[hn2];exact h2)
theorem Inv.acting (c:Ctx P call U N ops t ι0 w0 a0 σ V E ex ab)(I:Inv P call U N ops t ι0 w0 a0 σ V ab S ι a w){q:Nat}{o:Oper}(ho:ops[q]? = some o)(hr:Je ops S q)(hn:¬ S q)(hab:ab q=false)
  (hk:acts (jV P o.op)=true) {wch:Bool} (hO:OpR P (jQ U (qe ops q)) wch call o.op ⟨t,qw ops V q⟩ (σ q) (V q) (σ (q+1))) :
  Runs P o a w λx w'=>∃ ι2,Inv P call U N ops t ι0 w0 a0 σ V ab (Add S q) ι2 (a.put o.dst x) w':=by
 have hq:q<ops.size:=(Qav.1 ho).1;have hq1:=(c.stf ho).nx;have hcur:∀ b,b<(σ q).nx->ι b≠.unborn->jx (σ q).h b=cur σ ops.size S b:=λb hb hub=>by
  unfold cur;rw[<-ZE b q,<-ZA ops.size (QbE hq)]
  congr 1
  refine zc _ λp hp=>and_congr_left λhc=>?_;exact⟨λh=>I.ahead c ho hr hn hk hub h hc,λh=>I.low c ho hr hn (.inr hk) hp om h hc⟩
 have hsim:=I.seen c ho hr hn (.inr hk) hcur;have hruns:=Wi c.hcall (Wl c.ok ho).2.1 hO hsim (I.hidden c ho hr hn);have key:∀ x w',(∃ ι',Left (hide ι (σ q).nx) w wch (σ q) (V q) (σ (q+1)) ι' x w')->∃ ι2,Inv P call U N ops t ι0 w0 a0 σ V ab (Add S q) ι2 (a.put o.dst x) w':=by
  intro x w' ⟨ι',L⟩;refine I.merge c ho hr hn hab rfl rfl L λb hb hb' hold=>?_;unfold cur;rw[<-ZE b (q+1),<-ZA ops.size (show q+1<=ops.size from hq)]
  congr 1
  refine zc _ λp hp=>and_congr_left λhc=>⟨λh=>?_,λh=>?_⟩
  ·by_cases hpq:p=q
   ·exact .inr hpq
   ·have hlt:p<q:=om
    refine .inl (I.ahead c ho hr hn hk (hold ?_) hlt hc);have:=c.chg_lt (QI hp) hc;have:=c.nx_mono (p:=p+1) q om om;omega
  ·rcases h with h|h
   ·have:=I.low c ho hr hn (.inr hk) hp hb h hc;omega
   ·omega
 rcases hruns with ⟨x,w',h1,h2⟩|⟨f,vs,h1,h2⟩
 ·exact .inl ⟨x,w',h1,key x w' h2⟩
 ·exact .inr ⟨f,vs,h1,Calls.mono h2 λe w' ⟨x,h3,h4⟩=>⟨x,h3,key x w' h4⟩⟩
theorem Runs.mono {P:Program}{o:Oper}{a:Act}{w:World}{R R':Value->World->Prop}(h:Runs P o a w R)(hR:∀ x w',R x w'->R' x w'):Runs P o a w R':=by
 rcases h with ⟨x,w',h1,h2⟩|⟨f,vs,h1,h2⟩
 ·exact .inl ⟨x,w',h1,hR x w' h2⟩
 ·exact .inr ⟨f,vs,h1,Calls.mono h2 λe w' ⟨x,h3,h4⟩=>⟨x,h3,hR x w' h4⟩⟩
theorem Inv.making (c:Ctx P call U N ops t ι0 w0 a0 σ V E ex ab)(I:Inv P call U N ops t ι0 w0 a0 σ V ab S ι a w){q:Nat}{o:Oper}(ho:ops[q]? = some o)(hr:Je ops S q)(hn:¬ S q)(hab:ab q=false)
  (hk:jV P o.op=.makes) (hO:OpR P (jQ U (qe ops q)) false call o.op ⟨t,qw ops V q⟩ (σ q) (V q) (σ (q+1))) :
  Runs P o a w λx w'=>∃ ι2,Inv P call U N ops t ι0 w0 a0 σ V ab (Add S q) ι2 (a.put o.dst x) w':=by
 have hq:q<ops.size:=(Qav.1 ho).1;have hm:QW (jV P o.op)=true:=by rw[hk];rfl
 obtain⟨hco,ob,h1,h2⟩:=GE hO hk;generalize hst:(⟨(σ q).nx,tab (cur σ ops.size S) (σ q).nx,0,[]⟩:St)=st2;have hnx:st2.nx=(σ q).nx:=by rw[<-hst]
 have hnx1:(σ (q+1)).nx=(σ q).nx+1:=by rw[h1]
 have h3:=h2 st2 hnx;have hO2:OpR P (jQ U (qe ops q)) false call o.op ⟨t,qw ops V q⟩ st2 (V q) ⟨st2.nx+1,(j1 (jK st2.nx)).run ob st2.h,st2.dirty,st2.fr⟩:=by
  refine⟨⟨st2.nx+1,(j1 (jK st2.nx)).run ob st2.h,st2.dirty,st2.fr⟩,λh=>(by cases h),?_⟩;rw[hco];exact⟨h3,rfl⟩
 have hsim:Sim (hide ι (σ q).nx) st2.h st2.nx w:=by
  rw[hnx];refine I.seen c ho hr hn (.inl hm) λb hb _=>?_;rw[<-hst];show jx (tab _ _) b=_;rw[yV,if_pos hb]
 refine(Wi c.hcall (Wl c.ok ho).2.1 hO2 hsim (I.hidden c ho hr hn)).mono ?_;intro x w' ⟨ι',L⟩;refine I.merge c ho hr hn hab hnx (by rw[hnx1];show st2.nx+1=_;rw[hnx]) L λb hb hb' hold=>?_;show jx ((j1 (jK st2.nx)).run ob st2.h) b=_;rw[jX,hnx];by_cases hbq:b=(σ q).nx
 ·rw[if_pos hbq];unfold cur;have hchg:Chg σ q b:=.inl ⟨om,hb⟩;have e:qI (λp=>Add S q p/\Chg σ p b) ops.size=some q:=by
   refine jbo hq ⟨.inr rfl,hchg⟩ λp h4 h5 ⟨h6,h7⟩=>?_;have:=I.low c ho hr hn (.inl hm) h5 hb (h6.resolve_right om) h7;omega
  rw[e];show _=jx (σ (q+1)).h b;rw[h1];show _=jx ((j1 (jK (σ q).nx)).run ob (σ q).h) b;rw[jX,if_pos hbq]
 ·rw[if_neg hbq];have hlt:b<(σ q).nx:=om
  have hnc:¬ Chg σ q b:=λh=>by
   rcases h with h|h
   ·omega
   ·refine h ?_;rw[h1];show jx ((j1 (jK (σ q).nx)).run ob (σ q).h) b=_;rw[jX,if_neg hbq]
  rw[YF hnc,<-hst];show jx (tab _ _) b=_;rw[yV,if_pos hlt]
end
def ja7 (P:Program)(t:TypeId)(x:TE)(tb:List TE)(p:Nat×TypeId):Bool:=
 match x with
 |.rd a v=>(match ym .none tb p.1 with | .wr pre post=>cond (jY P t a v pre) (jY P t a v post) false | .rd _ _=>false | .none=>true)
 |.wr pre post=>(match ym .none tb p.1 with | .rd a v=>cond (jY P p.2 a v pre) (jY P p.2 a v post) false | .wr _ _=>false | .none=>true)
 |.none=>true
theorem jhn {P:Program}{t:TypeId}{x:TE}{tb:List TE}(y:Nat×TypeId)(l:List (Nat×TypeId)):held P t x tb (y :: l)=cond (ja7 P t x tb y) (held P t x tb l) false:=by
 cases x<;>rfl
theorem jdk {P:Program}{t:TypeId}{x:TE}{tb:List TE}:∀ {l:List (Nat×TypeId)},held P t x tb l=true->∀ {p:Nat×TypeId},p∈l->ja7 P t x tb p=true
 |[],_,p,hm=>by simp at hm
 |y :: l,h,p,hm=>by
  rw[jhn] at h;obtain⟨h1,h2⟩:=qL h;rcases QaU.1 hm with rfl|hm
  ·exact h1
  ·exact jdk h2 hm
theorem jhE:∀ i k,k<i->(qx i)[k]? = some (i - 1 - k)
 |0,k,h=>by omega
 |i+1,0,h=>by simp[qx]
 |i+1,k+1,h=>by
  simp only[qx,List.getElem?_cons_succ];rw[jhE i k om]
  congr 1
  omega
theorem jgs {E:Nat->TE}:∀ i k,k<i->ym .none (zW E i) k=E (i - 1 - k)
 |0,k,h=>by omega
 |i+1,0,h=>by simp[zW]
 |i+1,k+1,h=>by
  have:=jgs (E:=E) i k om;simp only[zC,zW,κ] at this ⊢;rw[this]
  congr 1
  omega
theorem vI {P:Program}{t:TypeId}{b o:Nat}{v:AV}{h:T AO}(e:jY P t (.ptr b o) v h=true):(qQ P t).run (.ptr b o) h=some v:=by
 unfold jY at e;dsimp only at e;split at e
 ·rename_i u hu;rw[hu,jmX e]
 ·cases e
section
variable {P:Program} {call:qF} {U N:Nat} {ops:Array Oper} {t:T AV} {ι0:Inj} {w0:World} {a0:Act} {σ:Nat->St} {V:Nat->AV} {E:Nat->TE} {ex ab:Nat->Bool}
variable {S:Nat->Prop} {ι:Inj} {a:Act} {w:World}
theorem Ctx.tr_at (c:Ctx P call U N ops t ι0 w0 a0 σ V E ex ab){p:Nat}{o:Oper}(ho:ops[p]? = some o):TrAt P call U ops t (ab p) p (qw ops V p) (zW E p) (σ p) (ex p) (V p) (E p) (σ (p+1)) o:=by
 obtain⟨o',htr⟩:=c.tr p (Qav.1 ho).1;have:o'=o:=by have:=htr.hop;rw[ho] at this;cases this;rfl
 rw[<-this];exact htr
theorem Ctx.te_act (c:Ctx P call U N ops t ι0 w0 a0 σ V E ex ab){p b:Nat}{o:Oper}(ho:ops[p]? = some o)(ha:acts (jV P o.op)=true)(hne:jx (σ (p+1)).h b≠jx (σ p).h b) :
  ex p=true/\E p=.wr (σ p).h (σ (p+1)).h:=by
 have htr:=c.tr_at ho;cases hx:ex p
 ·exact absurd (by rw[(htr.skip hx).2.2]) hne
 ·refine⟨rfl,?_⟩;rw[(htr.run hx).2.1];unfold Ju;cases hcl:jV P o.op<;>rw[hcl] at ha<;>first|rfl|cases ha
theorem Ctx.pair (c:Ctx P call U N ops t ι0 w0 a0 σ V E ex ab){i j:Nat}{o u:Oper}(hi:ops[i]? = some o)(hj:ops[j]? = some u)(hji:j<i)(hx:ex i=true)(hno:yg (bs ops) i j=false)
  (hk:(reads (jV P u.op)=true/\acts (jV P o.op)=true)\/(acts (jV P u.op)=true/\reads (jV P o.op)=true)) :
  (match E i with
   |.rd a v=>(match E j with | .wr pre post=>cond (jY P (Qi o.op) a v pre) (jY P (Qi o.op) a v post) false | .rd _ _=>false | .none=>true)
   |.wr pre post=>(match E j with | .rd a v=>cond (jY P (Qi u.op) a v pre) (jY P (Qi u.op) a v post) false | .wr _ _=>false | .none=>true)
   |.none=>true)=true:=by
 have htr:=c.tr_at hi;have hheld:=(htr.run hx).2.2;have hmem:(i - 1 - j,Qi u.op)∈partners P ops (qx i) i o:=by
  unfold partners;rw[List.mem_filterMap];refine⟨(j,i - 1 - j),?_,?_⟩
  ·rw[List.mem_zipIdx_iff_getElem?];show(qx i)[i - 1 - j]? = some j;rw[jhE i _ om]
   congr 1
   omega
  ·simp only[hj];have hb:(((reads (jV P u.op) && acts (jV P o.op)) ||(acts (jV P u.op) && reads (jV P o.op))) && !yg (q6 ops.toList) i j)=true:=by
    have:yg (q6 ops.toList) i j=false:=hno;rw[this];rcases hk with ⟨h1,h2⟩|⟨h1,h2⟩<;>simp[h1,h2]
   rw[hb];simp only[cond_true,Qi]
 have h:=jdk hheld hmem;unfold ja7 at h;simp only at h;rw[jgs i _ om] at h;have e:i - 1 - (i - 1 - j)=j:=om
 rw[e] at h;exact h
theorem Inv.loading (c:Ctx P call U N ops t ι0 w0 a0 σ V E ex ab)(I:Inv P call U N ops t ι0 w0 a0 σ V ab S ι a w){q:Nat}{o:Oper}(ho:ops[q]? = some o)(hr:Je ops S q)(hn:¬ S q)
  (hx:ex q=true) {ty:TypeId} {ad:Operand} (hop:o.op=.load ty ad) (hv:(qQ P ty).run ((jQ U (qe ops q) ad).run ⟨t,qw ops V q⟩) (σ q).h=some (V q)) :
  (qQ P ty).run ((jQ U (qe ops q) ad).run ⟨t,qw ops V q⟩) (tab (cur σ ops.size S) (σ ops.size).nx)=some (V q):=by
 have hq:q<ops.size:=(Qav.1 ho).1;have hvr:=I.opnd c ho hr hn ad (by rw[hop];simp[Op.operands]);have hE:E q=.rd ((jQ U (qe ops q) ad).run ⟨t,qw ops V q⟩) (V q):=by
  rw[((c.tr_at ho).run hx).2.1,hop];rfl
 obtain⟨ιc,ac,wc,r,_,_⟩:=c.can q om;have hvc:=r.opd ad;generalize (jQ U (qe ops q) ad).run ⟨t,qw ops V q⟩=addr at hv hvr hE hvc ⊢;obtain⟨b,off,rfl⟩|⟨cs,off,rfl⟩:=jg2 (P:=P) hv;rotate_left
 ·rw[jeM (h2:=(σ q).h)];exact hv
 have hb:ι b≠.unborn:=by simp only[VR] at hvr;exact hvr.1
 have hbq:b<(σ q).nx:=r.sim.born b (by simp only[VR] at hvc;exact hvc.1);have hM:=c.nx_mono (p:=q) ops.size om om;have hrd:reads (jV P o.op)=true:=by rw[hop];rfl
 have hty:Qi o.op=ty:=by rw[hop];rfl
 have ZP:∀ p,p<ops.size->p≠q->(S p↔¬ p<q)->Chg σ p b->(qQ P ty).run (.ptr b off) (σ p).h=some (V q)/\(qQ P ty).run (.ptr b off) (σ (p+1)).h=some (V q):=by
  intro p hp hpq hS hc;have hu:=QI hp;have hbp:b<(σ p).nx:=by
   rcases Qar b (σ p).nx with h|h
   ·exact h
   ·exfalso;have hlt:=c.chg_lt hu hc;have h1:=I.maker c hb hp h hlt;have h2:=hS.1 h1;have:=c.nx_mono (p:=q) p om om;omega
  obtain⟨h1,h2,h3⟩:=c.chg hu hc hbp;obtain⟨hxp,hEp⟩:=c.te_act hu h1 h3;have hno:yg (bs ops) q p=false:=by
   cases hoo:yg (bs ops) q p
   ·rfl
   ·have:=wO c.ok I.closed hu ho hr hn hoo;exfalso;by_cases hlt:p<q
    ·exact hS.1 (this.2 hlt) hlt
    ·exact hlt (this.1 (hS.2 hlt))
  by_cases hlt:p<q
  ·have h:=c.pair ho hu hlt hx hno (.inr ⟨h1,hrd⟩);rw[hE,hEp] at h;simp only[hty] at h;obtain⟨h4,h5⟩:=qL h;exact⟨vI h4,vI h5⟩
  ·have h:=c.pair hu ho om hxp (by rw[QP];exact hno) (.inl ⟨hrd,h1⟩);rw[hE,hEp] at h;simp only[hty] at h;obtain⟨h4,h5⟩:=qL h;exact⟨vI h4,vI h5⟩
 have stay:∀ p,¬ Chg σ p b->(qQ P ty).run (.ptr b off) (σ (p+1)).h=(qQ P ty).run (.ptr b off) (σ p).h:=λp h=>by
  refine Vf ?_;exact Classical.not_not.1 λh2=>h (.inr h2)
 have down:∀ d k,k+d=q->(∀ p,k<=p->p<q->Chg σ p b->¬ S p)->(qQ P ty).run (.ptr b off) (σ k).h=some (V q):=by
  intro d;induction d with
  |zero=>
   intro k hk _;have:k=q:=om
   rw[this];exact hv
  |succ d ih=>
   intro k hk hno;by_cases hc:Chg σ k b
   ·have hns:=hno k (μ _) om hc;exact(ZP k om om ⟨λh=>absurd h hns,λh=>absurd (by omega:k<q) h⟩ hc).1
   ·rw[<-stay k hc];exact ih (k+1) om λp h1 h2=>hno p om h2
 have goal:∀ h2:T AO,jx h2 b=cur σ ops.size S b->(qQ P ty).run (.ptr b off) h2=some (V q):=by
  intro h2 hh;unfold cur at hh;cases hl:qI (λp=>S p/\Chg σ p b) ops.size with
  |none=>
   rw[hl] at hh;rw[Vf (h2:=(σ 0).h) hh];exact down q 0 om λp _ h1 h3 h4=>wb _ hl p om ⟨h4,h3⟩
  |some k=>
   rw[hl] at hh;obtain⟨h3,⟨h4,h5⟩,h6⟩:=Xb _ hl;rw[Vf (h2:=(σ (k+1)).h) hh];rcases Qca k q with h7|h7|h7
   ·exact down (q - (k+1)) (k+1) om λp h8 h9 h10 h11=>h6 p om om ⟨h11,h10⟩
   ·subst h7;exact absurd h4 hn
   ·exact(ZP k h3 om ⟨λ_=>by omega,λ_=>h4⟩ h5).2
 refine goal _ ?_;rw[yV,if_pos om]
theorem Inv.step (c:Ctx P call U N ops t ι0 w0 a0 σ V E ex ab)(I:Inv P call U N ops t ι0 w0 a0 σ V ab S ι a w){q:Nat}{o:Oper}(ho:ops[q]? = some o)(hr:Je ops S q)(hn:¬ S q)(hab:ab q=false){K:Act->World->Prop}{Q:Exit->Act->World->Prop}
  (hk:∀ ι' a' w',Inv P call U N ops t ι0 w0 a0 σ V ab (Add S q) ι' a' w'->K a' w'):wpOp P ops Q q K a w:=by
 have htr:=c.tr_at ho;have hw:=I.want c ho hr hn (htr.want hab);have still:∀ ι' x w',V q=qd->σ (q+1)=σ q->x=undef->w'=w->ι'=ι->Inv P call U N ops t ι0 w0 a0 σ V ab (Add S q) ι' (a.put o.dst x) w':=by
  intro ι' x w' h1 h2 h3 h4 h5;subst h3;subst h4;subst h5;exact I.still c ho hr hn hab h2 (Le.refl _) (Grew.refl _ _) (by rw[h1];exact wU _) I.sim λ_ _ h=>h
 unfold wpOp;simp only[ho];cases hx:ex q
 ·rw[hw,hx];simp only[QaK,if_false];obtain⟨h1,h2,h3⟩:=htr.skip hx;exact hk ι _ _ (still ι undef w h1 h3 rfl rfl rfl)
 ·rw[hw,hx];simp only[if_true];left;obtain⟨hO,hE,_⟩:=htr.run hx;have done:Runs P o a w (λx w'=>∃ ι2,Inv P call U N ops t ι0 w0 a0 σ V ab (Add S q) ι2 (a.put o.dst x) w')->o.wp P a w K Q:=λh=>
   h.wp λx w' ⟨ι2,h2⟩=>hk ι2 _ _ h2
  have quiet:σ (q+1)=σ q->qu o.op=none->(jy P (jQ U (qe ops q)) o.op).run ⟨t,qw ops V q⟩ ⟨(σ ops.size).nx,tab (cur σ ops.size S) (σ ops.size).nx,0,[]⟩=.ok (V q) ⟨(σ ops.size).nx,tab (cur σ ops.size S) (σ ops.size).nx,0,[]⟩->
    Runs P o a w (λx w'=>∃ ι2,Inv P call U N ops t ι0 w0 a0 σ V ab (Add S q) ι2 (a.put o.dst x) w'):=by
   intro hs hco he;have hO2:OpR P (jQ U (qe ops q)) false call o.op ⟨t,qw ops V q⟩ ⟨(σ ops.size).nx,tab (cur σ ops.size S) (σ ops.size).nx,0,[]⟩ (V q) ⟨(σ ops.size).nx,tab (cur σ ops.size S) (σ ops.size).nx,0,[]⟩:=by
    refine⟨⟨(σ ops.size).nx,tab (cur σ ops.size S) (σ ops.size).nx,0,[]⟩,λh=>(by cases h),?_⟩;rw[hco];exact⟨he,rfl⟩
   refine(Wi c.hcall (Wl c.ok ho).2.1 hO2 I.sim (I.opnd c ho hr hn)).mono ?_;intro x w' ⟨ι',L⟩;exact⟨ι',I.still c ho hr hn hab hs L.le L.grew L.v L.sim L.cl.u⟩
  rcases U8 (jV P o.op) with h4|h4|h4|h4
  ·obtain⟨h1,h2,h3⟩:=US hO h4;exact done (quiet h1 h2 (h3 _))
  ·rw[wS h4 (by simp)] at hO;obtain⟨h1,h2,ty,ad,h3,h5⟩:=W9 hO h4;refine done (quiet h1 h2 ?_);have:=I.loading c ho hr hn hx h3 h5;rw[h3];show(Yy P ty (jQ U (qe ops q) ad)).run _ _=_;unfold Yy;dsimp only;rw[this]
  ·rw[wS h4 (by simp)] at hO;exact done (I.making c ho hr hn hab h4 hO)
  ·exact done (I.acting c ho hr hn hab h4 hO)
theorem Inv.last (c:Ctx P call U N ops t ι0 w0 a0 σ V E ex ab)(I:Inv P call U N ops t ι0 w0 a0 σ V ab S ι a w)(hall:∀ p,p<ops.size->S p) :
  Rel ι U N ((zP U (qe ops ops.size)).run (qw ops V ops.size) t) [] [] (σ ops.size) a w/\Cleanly ι0 ι (σ 0) (σ ops.size):=by
 obtain⟨ιc,ac,wc,r,_,hc⟩:=c.can ops.size (μ _);have hslot:=I.slot;have e:∀ x,qI (λp=>S p/\yc ops p=some x) ops.size=qI (λp=>yc ops p=some x) ops.size:=λx=>
  zc _ λp hp=>⟨λh=>h.2,λh=>⟨hall p hp,h⟩⟩
 have hfr:∀ q,q<=ops.size->(σ q).fr=(σ 0).fr:=by
  intro q;induction q with
  |zero=>intro _;rfl
  |succ q ih=>intro hq;rw[(c.stf (QI (by omega:q<ops.size))).fr];exact ih om
 have r2:Rel ι U N t (qe ops ops.size) (qw ops V ops.size) (σ ops.size) a w:=by
  refine⟨?_,I.size,λx hu hi=>?_,λx i hi=>?_,r.len,by rw[hfr _ (μ _)];exact I.ds⟩
  ·refine I.sim.same λb hb=>?_;rw[yV,if_pos (I.sim.born b hb)];unfold cur;rw[<-ZE b ops.size]
   congr 1
   exact zc _ λp hp=>⟨λh=>⟨hall p hp,h⟩,λh=>h.2⟩
  ·have h1:=v8 (ops:=ops) (V:=V) x ops.size;have h2:=hslot x;rw[e x] at h2;cases hl:qI (λp=>yc ops p=some x) ops.size with
   |none=>rw[hl] at h2;exact h2 hu
   |some k=>
    rw[hl] at h1;obtain⟨i,h3,_⟩:=h1;rw[hi] at h3;cases h3
  ·have h1:=v8 (ops:=ops) (V:=V) x ops.size;have h2:=hslot x;rw[e x] at h2;cases hl:qI (λp=>yc ops p=some x) ops.size with
   |none=>rw[hl] at h1;simp only at h1;rw[h1] at hi;cases hi
   |some k=>
    rw[hl] at h1 h2;obtain⟨i',h3,h4⟩:=h1;rw[hi] at h3;cases h3;rw[h4];exact h2
 refine⟨r2.flush,hc.nx,hc.dirty,hc.keep,hc.above,λb hb hu=>?_,λb hb=>I.le.born hb,λb h1 h2=>?_⟩
 ·cases hι:ι b with
  |unborn=>rfl
  |dead|«at»=>
   rcases I.birth b (by rw[hι];simp) with h|⟨p,hp,_,h3,_⟩
   ·exact absurd hu h
   ·have:=c.nx_mono (p:=0) p om om;omega
 ·have find:∀ q,q<=ops.size->b<(σ q).nx->∃ p,p<q/\(σ p).nx<=b/\b<(σ (p+1)).nx:=by
   intro q;induction q with
   |zero=>intro _ h;omega
   |succ q ih=>
    intro hq h;rcases Qar b (σ q).nx with h3|h3
    ·obtain⟨p,h4,h5⟩:=ih om h3;exact⟨p,om,h5⟩
    ·exact⟨q,om,h3,h⟩
  obtain⟨p,h3,h4,h5⟩:=find ops.size (μ _) h2;exact I.born p h3 (hall p h3) b h4 h5
end
theorem jb6 (e:Edge):Region.binds .any e=J3 e:=by
 unfold Region.binds J3;cases e.ground<;>rfl
def In (listed:Array Bool)(p:Nat):Prop:=listed.getD p false=true
theorem jqQ {listed:Array Bool}{q:Nat}(hq:q<listed.size):In (listed.setIfInBounds q true)=Add (In listed) q:=by
 funext p
 unfold In Add;refine propext ?_;by_cases h:p=q
 ·subst h;simp[hq]
 ·rw[getD_set_ne false (λe=>h e.symm)];simp[In,h]
def left (listed:Array Bool):Nat:=(Qab listed.size).countP λp=>!listed.getD p false
theorem Gj {P:Program}{call:qF}{U N:Nat}{ops:Array Oper}{t:T AV}{ι0:Inj}{w0:World}{a0:Act}{σ:Nat->St}{V:Nat->AV}{E:Nat->TE}{ex ab:Nat->Bool}
  (c:Ctx P call U N ops t ι0 w0 a0 σ V E ex ab) {Q:Exit->Act->World->Prop}
  (hQ:∀ ι a w,Inv P call U N ops t ι0 w0 a0 σ V ab (λp=>p<ops.size) ι a w->Q .normal a w)
  (hP:∀ q S ι a w K,q<ops.size->Inv P call U N ops t ι0 w0 a0 σ V ab S ι a w->¬ S q->Je ops S q->ab q=true->wpOp P ops Q q K a w) :
  ∀ (fuel:Nat) (listed:Array Bool) (a:Act) (w:World),listed.size=ops.size->left listed<=fuel->
   (∃ ι,Inv P call U N ops t ι0 w0 a0 σ V ab (In listed) ι a w)->wpAny P .any ops Q fuel listed a w:=by
 have hready:∀ (listed:Array Bool),listed.size=ops.size->∀ j∈Region.ready .any ops listed,j<ops.size/\¬ In listed j/\Je ops (In listed) j:=by
  intro listed hs j hj;obtain⟨h0,o,ho,h1⟩:=mem_ready.1 hj;have hlt:j<ops.size:=(Qav.1 ho).1;refine⟨hlt,?_,o,ho,λe he hb=>h1 e he (by rw[jb6];exact hb)⟩;unfold In;have hls:j<listed.size:=om
  simp[hls] at h0 ⊢;exact h0
 have hend:∀ (listed:Array Bool),listed.size=ops.size->Region.ready .any ops listed=[]->∀ p,p<ops.size->In listed p:=by
  intro listed hs hr p;induction p using Nat.strongRecOn with
  |ind p ih=>
   intro hp;cases hin:listed.getD p false
   ·exfalso;have hmem:p∈Region.ready .any ops listed:=by
     rw[mem_ready];have ho:=QI hp;refine⟨?_,ops[p],ho,λe he hb=>?_⟩
     ·have hls:p<listed.size:=om
      simp[hls] at hin ⊢;exact hin
     ·have hlt:=vL c.ok p _ ho e he (by rw[<-jb6];exact hb);exact ih e.on hlt om
    rw[hr] at hmem;cases hmem
   ·exact hin
 have hfin:∀ (listed:Array Bool),listed.size=ops.size->(∀ p,p<ops.size->In listed p)->∀ a w,(∃ ι,Inv P call U N ops t ι0 w0 a0 σ V ab (In listed) ι a w)->Q .normal a w:=by
  intro listed hs hall a w ⟨ι,I⟩;have:In listed=λp=>p<ops.size:=by
   funext p
   refine propext ⟨λh=>?_,hall p⟩;unfold In at h;rcases Qar p listed.size with h1|h1
   ·omega
   ·simp[Array.getElem?_eq_none h1] at h
  rw[this] at I;exact hQ ι a w I
 intro fuel;induction fuel with
 |zero=>
  intro listed a w hs hl hI;have hall:∀ p,p<ops.size->In listed p:=by
   intro p hp;unfold left at hl;have:(Qab listed.size).countP (λp=>!listed.getD p false)=0:=om
   rw[List.countP_eq_zero] at this;have:=this p (by simp;omega);unfold In;simpa using this
  refine⟨?_,hfin listed hs hall a w hI⟩;cases hr:Region.ready .any ops listed with
  |nil=>rfl
  |cons j l=>
   have:=hready listed hs j (by rw[hr];simp);exact absurd (hall j this.1) this.2.1
 |succ fuel ih=>
  intro listed a w hs hl hI;refine⟨λhr=>hfin listed hs (hend listed hs hr) a w hI,λj hj=>?_⟩;obtain⟨h1,h2,h3⟩:=hready listed hs j hj;obtain⟨ι,I⟩:=hI;cases hab:ab j;case true=>exact hP j _ ι a w _ h1 I h2 h3 hab
  refine I.step c (QI h1) h3 h2 hab λι' a' w' I'=>?_;refine ih (listed.setIfInBounds j true) a' w' (by simp[hs]) ?_ ⟨ι',by rw[jqQ om];exact I'⟩;unfold left at hl ⊢;have hlt:(Qab (listed.setIfInBounds j true).size).countP (λp=>!(listed.setIfInBounds j true).getD p false)<(Qab listed.size).countP (λp=>!listed.getD p false):=by
   have hsz:(listed.setIfInBounds j true).size=listed.size:=by simp
   rw[hsz];have hjs:j<listed.size:=om
   have key:∀ n,(Qab n).countP (λp=>!(listed.setIfInBounds j true).getD p false)+(if j<n then 1 else 0)=(Qab n).countP (λp=>!listed.getD p false):=by
    intro n;induction n with
    |zero=>simp
    |succ n ihn=>
     rw[List.range_succ,List.countP_append,List.countP_append];by_cases hjn:j=n
     ·subst hjn;have e1:(listed.setIfInBounds j true).getD j false=true:=by simp[hjs]
      have e2:listed.getD j false=false:=by
       cases hg:listed.getD j false
       ·rfl
       ·exact absurd hg h2
      rw[if_neg (Qbk _)] at ihn;rw[if_pos (Qbb _)];rw[Qcc,Qcc,e1,e2];simp only[Bool.not_true,Bool.not_false,if_true,QaK,if_false];omega
     ·rw[Qcc,Qcc,getD_set_ne false hjn];have:(if j<n+1 then 1 else 0)=(if j<n then 1 else 0):=by
       by_cases h:j<n
       ·rw[if_pos h,if_pos om]
       ·rw[if_neg h,if_neg om]
      rw[this];omega
   have:=key listed.size;rw[if_pos hjs] at this;omega
  omega
theorem Uy {n:Nat}(p:Nat):¬ In (QaF n false) p:=by
 unfold In;by_cases h:p<n<;>simp[h]
theorem Inv.first {P:Program}{call:qF}{U N:Nat}{ops:Array Oper}{t:T AV}{ι0:Inj}{w0:World}{a0:Act}{σ:Nat->St}{V:Nat->AV}{E:Nat->TE}{ex ab:Nat->Bool}
  (c:Ctx P call U N ops t ι0 w0 a0 σ V E ex ab):Inv P call U N ops t ι0 w0 a0 σ V ab (In (QaF ops.size false)) ι0 a0 w0:=by
 have hr0:=c.rel0;have hnone:∀ (A:Nat->Prop) m,qI (λp=>In (QaF ops.size false) p/\A p) m=none:=by
  intro A m;cases hl:qI (λp=>In (QaF ops.size false) p/\A p) m with
  |none=>rfl
  |some k=>exact absurd (Xb _ hl).2.1.1 (Uy k)
 refine⟨hr0.size,hr0.ds,Le.refl _,Grew.refl _ _,λx=>?_,?_,λb hb=>.inl hb,λp _ h=>absurd h (Uy p),λi o h=>absurd h (Uy i),λp h=>absurd h (Uy p)⟩
 ·rw[hnone];exact λhu=>hr0.env x hu rfl
 ·have hmono:=c.nx_mono (p:=0) ops.size (Qaa _) (μ _);have:Sim ι0 (tab (cur σ ops.size (In (QaF ops.size false))) (σ ops.size).nx) (σ 0).nx w0:=by
   refine hr0.sim.same λb hb=>?_;have:=hr0.sim.born b hb;rw[yV,if_pos om];unfold cur;rw[hnone];rfl
  exact⟨this.obj,this.gone,this.inj,λb hb=>Qat (this.born b hb) hmono,this.glob⟩
theorem jdf (n:Nat):left (QaF n false)<=n:=by
 unfold left;refine ψ List.countP_le_length ?_;simp
theorem Inv.panics {P:Program}{call:qF}{U N:Nat}{ops:Array Oper}{t:T AV}{ι0:Inj}{w0:World}{a0:Act}{σ:Nat->St}{V:Nat->AV}{E:Nat->TE}{ex ab:Nat->Bool}
  {S:Nat->Prop} {ι:Inj} {a:Act} {w:World}
  (c:Ctx P call U N ops t ι0 w0 a0 σ V E ex ab) (I:Inv P call U N ops t ι0 w0 a0 σ V ab S ι a w) {q:Nat} {o:Oper} (ho:ops[q]? = some o) (hr:Je ops S q) (hn:¬ S q) (hexq:ex q=false)
  (hout:∀ p,p<ops.size->ab p=false->jbP U ops p=true)
  (hahead:∀ p,p<q->∀ u,ops[p]? = some u->(QW (jV P u.op) ||acts (jV P u.op))=true->inU ((q6 ops.toList).getD q 0) p=true)
  (hwant:match yf (jQ U (qe ops q)) ops o with|none=>True|some wf=>wf.run ⟨t,qw ops V q⟩=some true)
  {v:AV} {st':St} (hO:OpP (jQ U (qe ops q)) call o.op ⟨t,qw ops V q⟩ (σ q) v st') {K:Act->World->Prop} {Q:Exit->Act->World->Prop}
  (hQ:Post ι0 U N w0 (σ 0) (.pn v t st') Q):wpOp P ops Q q K a w:=by
 have hq:q<ops.size:=(Qav.1 ho).1;obtain⟨f,args,fid,caps,st1,hco,hfv,he,rfl⟩:=hO;have hcl:=J2 (P:=P) hco;have hact:acts (jV P o.op)=true:=by rw[hcl];rfl
 have hcur:∀ b,b<(σ q).nx->ι b≠.unborn->jx (σ q).h b=cur σ ops.size S b:=λb hb hub=>by
  unfold cur;rw[<-ZE b q,<-ZA ops.size (QbE hq)]
  congr 1
  refine zc _ λp hp=>and_congr_left λhc=>?_;exact⟨λh=>I.ahead c ho hr hn hact hub h hc,λh=>I.low c ho hr hn (.inr hact) hp (by have:=(c.stf ho).nx;omega) h hc⟩
 have hsim:=I.seen c ho hr hn (.inr hact) hcur;have hx:=I.hidden c ho hr hn;have hw:Region.wanted o (yielded ops a.tmps)=true:=by
  have:match yf (jQ U (qe ops q)) ops o with|none=>true=true|some wf=>wf.run ⟨t,qw ops V q⟩=some true:=by
   split at hwant
   ·rfl
   ·exact hwant
  exact I.want c ho hr hn this
 unfold wpOp;simp only[ho];rw[hw];simp only[if_true];left;have hcs:∃ c,o.op=.call c/\c.callee=.value f/\args=c.args.toList:=by
  unfold qu at hco;split at hco
  ·rename_i c hoc;split at hco
   ·rename_i f' hf';cases hco;exact⟨c,hoc,hf',rfl⟩
   ·cases hco
  ·cases hco
 obtain⟨cl,hoc,hcf,rfl⟩:=hcs;rw[hoc] at hx;have hvf:=hx f (by simp[Op.operands,Call.operands,hcf]);rw[hfv] at hvf;simp only[VR] at hvf;obtain⟨cv,hcv,hcaps⟩:=hvf;simp only[yv,yE] at he;have hargs:VRs (hide ι (σ q).nx) (cl.args.toList.map (λx=>(jQ U (qe ops q) x).run ⟨t,qw ops V q⟩) ++ caps) ((cl.args.map a.eval) ++ cv).toList:=by
  rw[QbZ,Qbn];exact(VRs.map_of _ λx hxm=>hx x (by simp[Op.operands,Call.operands];right;simpa using hxm)).append hcaps
 have hC:=c.hcall fid _ (σ q) (hide ι (σ q).nx) w ((cl.args.map a.eval) ++ cv) hsim hargs;rw[he] at hC;obtain⟨hen,hcs⟩:=hC;unfold Oper.wp;rw[WJ hoc hcf hcv hen];simp only[Oper.upon];refine Calls.mono hcs λe w' he=>?_;obtain⟨x,rfl,ι',hl,hv,hs,hg,hcl'⟩:=he;obtain⟨ιc,ac,wc,r,_,hcc⟩:=c.can q om;have hle0:Le ι0 (hide ι (σ q).nx):=⟨λb hb=>by
  have h1:=c.born0 hb;have h2:=c.nx_mono (p:=0) q (Qaa _) om;unfold hide;dsimp only;rw[if_pos om];exact I.le.1 b hb,I.le.2⟩
 have hgrew:Grew ι0 w0 ι' w':=by
  refine⟨hg.os.trans I.grew.os,hg.tape.trans I.grew.tape,hg.output.trans I.grew.output,ψ I.grew.size hg.size,λk hk hno=>?_,λb B T hb=>?_,λB vs hB=>?_⟩
  ·rw[hg.keep k (Qat hk I.grew.size) λb T hb=>?_]
   ·exact I.grew.keep k hk hno
   ·rcases I.grew.new b k T (zG hb).1 with ⟨d,T',h3⟩|h3
    ·exact hno d T' h3
    ·omega
  ·rcases hg.new b B T hb with ⟨d,T',h3⟩|h3
   ·exact I.grew.new d B T' (zG h3).1
   ·exact .inr (ψ I.grew.size h3)
  ·rcases hg.gl B vs hB with h3|⟨h3,h4⟩
   ·rcases I.grew.gl B vs h3 with h5|⟨h5,h6⟩
    ·exact .inl h5
    ·have h7:Froz (hide ι (σ q).nx) w B vs:=⟨h5.1,λb S e=>h5.2 b S (zG e).1⟩;exact .inr ⟨h7.grew hg,h6⟩
   ·refine .inr ⟨h3,?_⟩;rcases h4 with ⟨d,T,h4⟩|h4
    ·exact I.grew.new d B T (zG h4).1
    ·exact .inr (ψ I.grew.size h4)
 have hbornq:∀ b,(σ 0).nx<=b->b<(σ q).nx->ι b≠.unborn:=by
  intro b h1 h2;have find:∀ k,k<=q->b<(σ k).nx->∃ p,p<k/\(σ p).nx<=b/\b<(σ (p+1)).nx:=by
   intro k;induction k with
   |zero=>intro _ h;omega
   |succ k ih=>
    intro hk h;rcases Qar b (σ k).nx with h3|h3
    ·obtain⟨p,h4,h5⟩:=ih om h3;exact⟨p,om,h5⟩
    ·exact⟨k,om,h3,h⟩
  obtain⟨p,h3,h4,h5⟩:=find q (μ _) h2;have hu:=QI (show p<ops.size by omega);have hma:(QW (jV P (ops[p]).op) ||acts (jV P (ops[p]).op))=true:=by
   cases hm:QW (jV P (ops[p]).op)
   ·cases ha:acts (jV P (ops[p]).op)
    ·have:=(c.stf hu).same hm ha;rw[this] at h5;omega
    ·rfl
   ·rfl
  have hbit:=hahead p h3 _ hu hma;have hS:S p:=uR (vL c.ok) I.closed p (q+1) q om hr hbit;exact I.born p om hS b h4 h5
 have hnxq:=c.nx_mono (p:=0) q (Qaa _) om;have hclean:Cleanly ι0 ι' (σ 0) (back (σ q) st1):=by
  have hmid:Cleanly ι0 (hide ι (σ q).nx) (σ 0) (σ q):=by
   refine⟨hcc.nx,hcc.dirty,hcc.keep,hcc.above,λb hb hu=>?_,λb hb=>?_,λb h1 h2=>?_⟩
   ·unfold hide;dsimp only;split
    ·cases hι:ι b with
     |unborn=>rfl
     |dead|«at»=>
      rcases I.birth b (by rw[hι];simp) with h|⟨p,hp,_,h3,_⟩
      ·exact absurd hu h
      ·have:=c.nx_mono (p:=0) p om om;omega
    ·rfl
   ·exact hle0.born hb
   ·unfold hide;dsimp only;rw[if_pos h2];exact hbornq b h1 h2
  have:=hmid.trans hcl';exact⟨this.nx,this.dirty,this.keep,this.above,this.u,this.le,this.n⟩
 refine hQ ι' a w' x (hle0.trans hl) ?_ hgrew hclean hv;have hfr:(back (σ q) st1).fr=(σ 0).fr:=by
  have key:∀ k,k<=ops.size->(σ k).fr=(σ 0).fr:=by
   intro k;induction k with
   |zero=>intro _;rfl
   |succ k ih=>intro hk;rw[(c.stf (QI (by omega:k<ops.size))).fr];exact ih om
  exact key q om
 refine⟨hs,I.size,λy hy _=>?_,λy i hi=>(by simp[idx] at hi),rfl,?_⟩
 ·have hsl:=I.slot y;have:qI (λp=>S p/\yc ops p=some y) ops.size=none:=by
   cases hl':qI (λp=>S p/\yc ops p=some y) ops.size with
   |none=>rfl
   |some k=>
    exfalso;obtain⟨h1,⟨h2,h3⟩,_⟩:=Xb _ hl';have h4:=hout k h1 (I.live k h2);have hu:=QI h1;unfold jbP at h4;rw[hu] at h4;have h5:(ops[k]).dst=some y:=by simpa[yc,hu] using h3
    simp only[h5] at h4;rw[hy] at h4;cases h4
  rw[this] at hsl;have h6:=hsl hy;have h7:VR ι0 (zw t y) (a0.tmps.getD y undef):=c.rel0.env y hy rfl;have h8:VR (hide ι (σ q).nx) (zw t y) (a.tmps.getD y undef):=VR.hide (λb hb=>Qat (c.born0 hb) hnxq) _ _ _ h7 h6;exact VR.mono hl _ _ h8
 ·rw[hfr];exact DRs.mono hl _ _ (DRs.hide (λb hb=>Qat (c.born0 hb) hnxq) _ _ _ c.rel0.ds I.ds)
theorem jdx {P:Program}(hm:P.follows .mixedOrders=true):YM P:=by
 intro call hcall n U N ops hok hdst ι t st a w Q id r hp;have hne:(wj P U ops).run call n t [] [] st≠.no:=by
  intro h;rw[h] at hp;exact hp
 unfold wj at hne hp;rw[List.range_eq_range'] at hne hp;have htr:=W3 (P:=P) (call:=call) (n:=n) (U:=U) (ops:=ops) (t:=t) (Xm U) (XR P U ops) (λ_=>false) ops.size 0 om (λ_=>.bad) (λ_=>.none) st hne;have hr0:∀ s:St,s=st->Rel ι U N t [] [] s a { w with drawn:=w.drawn+1 }:=λs hs=>by
  rw[hs];exact⟨r.sim.drew,r.size,r.env,r.recs,r.len,r.ds⟩
 obtain⟨σ,V,E,ex,m,_,_,h3,_,h4,h5⟩:=htr;have e0:(yl P U ops (Xm U) (XR P U ops) (λ_=>false) (Qac 0 ops.size) (qx 0) (qe ops 0)).run call n t (qw ops (λ_=>.bad) 0) (zW (λ_=>.none) 0) st
   = (yl P U ops (Xm U) (XR P U ops) (λ_=>false) (Qac 0 ops.size) [] []).run call n t [] [] st:=rfl
 rw[e0] at h5;rcases h5 with ⟨rfl,h5⟩|⟨hmlt,o,v,st',ho,_,hwant,hO,h5⟩
 ·rw[h5] at hp;have c:Ctx P call U N ops t ι { w with drawn:=w.drawn+1 } a σ V E ex (λ_=>false):=⟨hcall,hok,hdst,λi hi=>h4 i (Qaa _) hi,hr0 _ h3⟩;refine wp_region_any hm (Gj c ?_ ?_ ops.size _ a _ (by simp) (jdf _) ⟨ι,Inv.first c⟩)
  ·intro ι' a' w' I;obtain⟨hr,hc⟩:=I.last c λp hp=>hp;rw[h3] at hc;exact hp ι' a' w' I.le hr ((Grew.drew ι w).trans I.grew) hc
  ·intro q S ι' a' w' K _ _ _ _ h;cases h
 ·
  rw[h5] at hp;unfold XR at hp;generalize hpo:HQ P U ops m=po at hp;cases po
  ·exact hp.elim
  simp only[cond_true] at hp;have e1:Qcn ops.size m=ops.size - m:=rfl;rw[e1] at hp;generalize hrr:(yl P U ops (Xm U) (λ_ _ _ _ _=>ZR) (Jt ops m) (Qac m (ops.size - m)) (qx m) (qe ops m)).run call n t (qw ops V m) (zW E m) (σ m)=rr at hp;have hgo:∃ t2 s2,rr=.go t2 s2:=by
   cases rr<;>first|exact⟨_,_,rfl⟩|exact hp.elim
  obtain⟨t2,s2,rfl⟩:=hgo;simp only at hp;have htr2:=W3 (P:=P) (call:=call) (n:=n) (U:=U) (ops:=ops) (t:=t) (Xm U) (λ_ _ _ _ _=>ZR) (Jt ops m) (ops.size - m) m om V E (σ m) (by rw[hrr];simp);rw[hrr] at htr2;obtain⟨σ2,V2,E2,ex2,m2,g1,g2,g3,g4,g5,g6⟩:=htr2;have hm2:m2=ops.size:=by
   rcases g6 with ⟨h,_⟩|⟨_,o2,v2,s3,_,_,_,_,h⟩
   ·exact h
   ·cases h
  subst hm2;have habs:Jt ops m m=true:=by
   unfold Jt;have:Qci m m=true:=by rw[qH]
   rw[this];rfl
  have hlow:∀ k,k<m->Jt ops m k=false:=by
   intro k hk;unfold Jt;rw[QbN];refine⟨?_,?_⟩
   ·cases hb:Qci k m
    ·rfl
    ·rw[qH] at hb;omega
   ·cases hb:inU ((q6 ops.toList).getD k 0) m
    ·rfl
    ·have:=jb5 hok (QI (show k<ops.size by omega)) hb;omega
  have c:Ctx P call U N ops t ι { w with drawn:=w.drawn+1 } a (λi=>if i<=m then σ i else σ2 i) V2 E2 (λi=>if i<m then ex i else ex2 i) (Jt ops m):=by
   refine⟨hcall,hok,hdst,λi hi=>?_,?_⟩
   ·by_cases him:i<m
    ·obtain⟨o1,k1⟩:=h4 i (Qaa _) him;refine⟨o1,?_⟩;rw[hlow i him];simp only[if_pos him,if_pos (QbE him),if_pos (show i+1<=m from him)];rw[Q7 i λj hj=>g1 j om,ZW i λj hj=>g2 j om,g1 i him,g2 i him];exact k1
    ·obtain⟨o1,k1⟩:=g5 i om hi;refine⟨o1,?_⟩;simp only[if_neg him,if_neg (show ¬ i+1<=m by omega)];have:(if i<=m then σ i else σ2 i)=σ2 i:=by
      by_cases h:i<=m
      ·have:i=m:=om
       rw[if_pos h,this,g3]
      ·rw[if_neg h]
     rw[this];exact k1
   ·have:(if 0<=m then σ 0 else σ2 0)=st:=by rw[if_pos (Qaa _),h3]
    exact hr0 _ this
  have hV:∀ j,j<m->V2 j=V j:=g1;refine wp_region_any hm (Gj c ?_ ?_ ops.size _ a _ (by simp) (jdf _) ⟨ι,Inv.first c⟩)
  ·intro ι' a' w' I;have:=I.live m hmlt;rw[habs] at this;cases this
  ·intro q S ι' a' w' K hq I hn hr habq;have hqm:q=m:=by
    unfold Jt at habq;rw[QaA] at habq;rcases habq with h|h
    ·rw[qH] at h;exact h
    ·exfalso;have hS:S m:=uR (vL hok) I.closed m (q+1) q om hr h;have:=I.live m hS;rw[habs] at this;cases this
   subst hqm;unfold HQ at hpo;rw[χ,Qae,Qae] at hpo;obtain⟨hpo1,hpo2⟩:=hpo;have hex:(if q<q then ex q else ex2 q)=false:=by
    rw[if_neg (Qbk _)];obtain⟨o1,k1⟩:=g5 q (μ _) hmlt;exact k1.out habs
   refine I.panics c ho hr hn (by simpa using hex) (λp hp1 hp2=>?_) (λp hp1 u hu hma=>?_) ?_ (v:=v) (st':=st') ?_ ?_
   ·have:=hpo1 p (by simp;exact hp1);rw[hp2] at this;simpa using this
   ·have:=hpo2 p (by simp;exact hp1);rw[hu] at this;simp only[QaA,QaI] at this;rcases this with h|h
    ·exact h
    ·rw[hma] at h;cases h
   ·rw[Q7 q hV];exact hwant
   ·rw[Q7 q hV];simp only[μ,if_true];exact hO
   ·have e2:(if 0<=q then σ 0 else σ2 0)=st:=by rw[if_pos (Qaa _),h3]
    show Post ι U N _ (if 0<=q then σ 0 else σ2 0) _ Q;rw[e2];exact Post.step (Le.refl ι) (Grew.drew ι w) (Cleanly.refl ι st) hp
end Go.Ev
end
noncomputable section
namespace Go.Ev
open Go.ChangeShapes Go.WideShapes Go.ChangeAt Go.RowKit
theorem jkb {W W':World}(h1:W'.os=W.os)(h2:W'.output=W.output)(h3:∀ k,k<W.heap.size->W'.heap[k]? = W.heap[k]?)(may:MemPlace->Prop):W.keptBut W' may:=by
 refine⟨h1,h2,λi hi=>?_⟩;rw[h3 i hi];cases h:W.heap[i]? with
 |none=>rfl
 |some o=>
  cases o<;>first|exact⟨rfl,rfl,rfl,λ_ _=>rfl⟩|exact .inr ⟨rfl,rfl⟩|rfl
theorem jeW {W W':World}(h3:∀ k,k<W.heap.size->W'.heap[k]? = W.heap[k]?){a:Addr}(ha:a.block<W.heap.size):W'.frozen? a=W.frozen? a:=by
 unfold World.frozen?;rw[h3 a.block ha]
theorem post_kept {H:Type}{enc:TypeId×Value->H}{P:Program}{f:Func}{s:ChangeSpec}{apart fresh handsOn again:Bool}{W W':World}{args:Array Value}{v:Value}{ds gs:List (DataW H)}{before pa pv:List MemPlace}
  (hW:DataW.Whole enc P f.params.toList s.vars apart W args.toList ds gs before)
  (hres:∀ (b:Nat) (sp:Nat->Bool) (hd:Bool),DataW.TrodAll enc P W' b sp hd f.resultTypes.toList (v.resultList f.resultTypes.size) (s.fn H (ds ++ gs)).results [])
  (hargs:∀ sp:Nat->Bool,(∀ p∈before,sp p.block=true)->DataW.TrodAll enc P W' 0 sp true f.params.toList args.toList (s.fn H (ds ++ gs)).args pa)
  (hvars:∀ sp:Nat->Bool,(∀ p∈before,sp p.block=true)->DataW.TrodVars enc P W' sp s.vars (s.fn H (ds ++ gs)).vars pv)
  (hps:before=pa ++ pv) (hos:W'.os=W.os) (hout:W'.output=W.output) (hk:∀ k,k<W.heap.size->W'.heap[k]? = W.heap[k]?)
  (hok:∀ (j:Nat) (t:TypeId) (r:Value),f.resultTypes[j]? = some t->(v.resultList f.resultTypes.size)[j]? = some r->Value.okWide P W' .any 0 t r) :
  s.post enc P f apart fresh handsOn again W args v W':=by
 have hlt:∀ p∈before,p.block<W.heap.size:=λp hp=>hW.lt p hp;have hold:∀ p∈before,(λb=>decide (b<W.heap.size)) p.block=true:=λp hp=>by simpa using hlt p hp
 refine⟨ds,gs,before,[],pa,pv,hW,hres _ _ _,hargs _ hold,hvars _ hold,jkb hos hout hk _,λ_=>?_⟩;obtain⟨_,_,_,_,_,hz,hn⟩:=hW;refine⟨hok,_,_,([] ++ pa) ++ pv,⟨[] ++ pa,pv,trodAll_append (hargs _ (λ_ _=>rfl)) (hres _ _ _),hvars _ (λ_ _=>rfl),rfl,?_,?_⟩,?_⟩
 ·intro b off hp;have hp':MemPlace.cell b off∈before:=by rw[hps];simpa using hp
  rw[jeW hk (hlt _ hp')];exact hz b off hp'
 ·intro ha;have:=hn ha;rw[hps] at this;simpa using this
 ·intro p hp _;rw[hps];simpa using hp
end Go.Ev
end
noncomputable section
namespace Go.Ev
open Go.RowKit
section
def fzs (f:AV->Option (AV×List Nat)):List AV->Option (List AV×List Nat)
 |[]=>some ([],[])
 |x :: l=>match f x,fzs f l with
  |some (y,ks),some (l',js)=>some (y :: l',ks ++ js)
  |_,_=>none
def fz:Nat->T AO->AV->Option (AV×List Nat)
 |0,_,_=>none
 |d+1,h,v=>match v with
  |.agg cs=>(fzs (fz d h) cs).map λp=>(.agg p.1,p.2)
  |.tup cs=>(fzs (fz d h) cs).map λp=>(.tup p.1,p.2)
  |.iface t x=>(fz d h x).map λp=>(.iface t p.1,p.2)
  |.slice b o len _ sz _=>match jx h b with
   |some (.row n zl z cs)=>cond (Qck (Qcl o (Qcm len sz)) n) ((fzs (fz d h) (jT zl z cs (Qcm len sz) o)).map λp=>(.lst len p.1,b :: p.2)) none
   |_=>none
  |.nils=>some (.lst 0 [],[])
  |.xlst n cs=>some (.lst n cs,[])
  |.fn f caps=>(fzs (fz d h) caps).map λp=>(.fn f p.1,p.2)
  |.ptr _ _=>none
  |.map _=>none
  |.bad=>none
  |v=>some (v,[])
def kills (ks:List Nat)(st:St):St:=
 ⟨st.nx,ks.foldr (λb h=>(j1 (jK b)).run .dead h) st.h,ks.foldr min st.dirty,st.fr⟩
theorem QU (ks:List Nat)(h:T AO)(c:Nat):jx (ks.foldr (λb h=>(j1 (jK b)).run .dead h) h) c=if c∈ks then some .dead else jx h c:=by
 induction ks with
 |nil=>simp
 |cons b ks ih=>
  rw[QbM,jX];by_cases hb:c=b
  ·subst hb;simp
  ·rw[if_neg hb,ih];simp[hb]
theorem jcu (ks:List Nat)(n c:Nat)(h:c<ks.foldr min n):c<n/\c∉ks:=by
 induction ks with
 |nil=>exact⟨h,by simp⟩
 |cons b ks ih=>
  rw[QbM] at h;obtain⟨h1,h2⟩:=ih om;exact⟨h1,by simp only[QaU,not_or];exact⟨om,h2⟩⟩
theorem jj9 (ks:List Nat)(n:Nat):ks.foldr min n<=n:=by
 induction ks with
 |nil=>exact μ _
 |cons b ks ih=>rw[QbM];omega
def YG (w:World)(B:Nat):Option (List Value):=match w.heap[B]? with|some (.cells c _ _)=>some c.toList|_=>none
theorem ZB {w:World}{ι ι':Inj}{f:AV->Option (AV×List Nat)}(hf:∀ v x v' ks,VR ι v x->f v=some (v',ks)->(∀ b∈ks,∀ B S,ι b=.at B S->ι'.g B=YG w B)->VR ι'.gone v' x/\(v.cell=true->v'.cell=true)) :
  ∀ (l:List AV) (vs:List Value) (l':List AV) (ks:List Nat),VRs ι l vs->fzs f l=some (l',ks)->(∀ b∈ks,∀ B S,ι b=.at B S->ι'.g B=YG w B)->VRs ι'.gone l' vs/\(l.all AV.cell=true->l'.all AV.cell=true)/\l'.length=l.length
 |[],vs,l',ks,hv,he,_=>by
  simp only[fzs,Option.some.injEq,Prod.mk.injEq] at he;obtain⟨rfl,rfl⟩:=he;exact⟨hv,λh=>h,rfl⟩
 |x :: l,vs,l',ks,hv,he,hg=>by
  simp only[VRs] at hv;obtain⟨v,vs,rfl,h1,h2⟩:=hv;simp only[fzs] at he;split at he<;>try(cases he;done)
  rename_i y k1 l1 k2 e1 e2;simp only[Option.some.injEq,Prod.mk.injEq] at he;obtain⟨rfl,rfl⟩:=he;obtain⟨q1,q2⟩:=hf x v y k1 h1 e1 λb hb=>hg b (List.mem_append_left _ hb);obtain⟨q3,q4,q5⟩:=ZB hf l vs l1 k2 h2 e2 λb hb=>hg b (List.mem_append_right _ hb);refine⟨by simp only[VRs];exact⟨v,vs,rfl,q1,q3⟩,λhc=>?_,by simp[q5]⟩;simp only[Qaz,χ] at hc ⊢;exact⟨q2 hc.1,q4 hc.2⟩
theorem yq {α β:Type}{x:Option α}{f:α->β}{b:β}(h:x.map f=some b):∃ a,x=some a/\f a=b:=by
 cases x with
 |none=>cases h
 |some a=>cases h;exact⟨a,rfl,rfl⟩
theorem Hg {w:World}{B:Nat}{c:Array Value}{e:TypeId}{f:Nat×Nat}(h:w.heap[B]? = some (.cells c e f)):YG w B=some c.toList:=by
 unfold YG;rw[h]
theorem uB {ι:Inj}{h:T AO}{nx:Nat}{w:World}(k:Sim ι h nx w){b n zl:Nat}{z:List AV}{cs:T AV}{o m:Nat}(hb:ι b≠.unborn)(hrow:jx h b=some (.row n zl z cs))(hle:o+m<=n) :
  ∃ B S c e f,ι b=.at B S/\w.heap[B]? = some (.cells c e f)/\o+m<=c.size/\VRs ι (jT zl z cs m o) ((c.toList.drop o).take m):=by
 obtain⟨B,S,c,elem,lo,hi,e1,hw,hcs,hnS,_,hcell⟩:=k.row hb hrow;refine⟨B,S,c,elem,_,e1,hw,om,VRs.of_get ?_ λi hi=>?_⟩
 ·rw[qy];simp only[Qam,Qau,Qak,Qaq,List.length_range];omega
 ·rw[qy] at hi ⊢;simp only[Qaq,List.length_range] at hi;obtain⟨_,v,hv,hr⟩:=hcell (o+i) om;have e2:(List.map (λj=>qA zl z cs (o+j)) (Qab m)).getD i .bad=qA zl z cs (o+i):=by
   simp only[ω,Qbj,QbS hi,Qaw,QaH]
  have e3:((c.toList.drop o).take m).getD i undef=v:=by
   rw[Wg hi (by rw[Qak];omega)];rw[ω,QbD,hv];rfl
  rw[e2,e3];exact hr
theorem vR {h:T AO}{nx:Nat}{w:World}{ι ι':Inj}(k:Sim ι h nx w)(hg:∀ B vs,ι.g B=some vs->ι'.g B=some vs):∀ (d:Nat) (v:AV) (x:Value) (v':AV) (ks:List Nat),VR ι v x->fz d h v=some (v',ks)->
  (∀ b∈ks,∀ B S,ι b=.at B S->ι'.g B=YG w B)->VR ι'.gone v' x/\(v.cell=true->v'.cell=true)
 |0,v,x,v',ks,_,he,_=>by cases he
 |d+1,v,x,v',ks,hv,he,hc=>by
  have ih:=vR k hg d;cases v<;>simp only[fz] at he;case ptr=>cases he
  case map=>cases he
  case bad=>cases he
  case bool=>cases he;exact⟨hv,λh=>h⟩
  case int=>cases he;exact⟨hv,λh=>h⟩
  case str=>cases he;exact⟨hv,λh=>h⟩
  case zstr=>cases he;exact⟨hv,λh=>h⟩
  case nilp=>cases he;exact⟨hv,λh=>h⟩
  case nilm=>cases he;exact⟨hv,λh=>h⟩
  case nilf=>cases he;exact⟨hv,λh=>h⟩
  case nilif=>cases he;exact⟨hv,λh=>h⟩
  case nils=>
   cases he;simp only[VR] at hv ⊢;subst hv;exact⟨⟨none,0,rfl,μ _,rfl,λh=>absurd h (Qbk _)⟩,λ_=>rfl⟩
  case lst n cs=>cases he;exact⟨VR.gmono hg (.lst n cs) x hv,λh=>h⟩
  case lptr cs o=>cases he;exact⟨VR.gmono hg (.lptr cs o) x hv,λh=>h⟩
  case xlst n cs=>
   cases he;have:=VR.gmono hg (.xlst n cs) x hv;simp only[VR] at this ⊢;obtain⟨p,rfl,h1,h2⟩:=this;exact⟨⟨p,n,rfl,μ _,h1,h2⟩,λ_=>rfl⟩
  case agg cs=>
   obtain⟨⟨l,js⟩,h1,h2⟩:=yq he;cases h2;simp only[VR] at hv ⊢;obtain⟨a,rfl,hv⟩:=hv;exact⟨⟨a,rfl,(ZB ih cs _ l js hv h1 hc).1⟩,λh=>by cases h⟩
  case tup cs=>
   obtain⟨⟨l,js⟩,h1,h2⟩:=yq he;cases h2;simp only[VR] at hv ⊢;obtain⟨a,rfl,hv⟩:=hv;exact⟨⟨a,rfl,(ZB ih cs _ l js hv h1 hc).1⟩,λh=>by cases h⟩
  case fn f caps=>
   obtain⟨⟨l,js⟩,h1,h2⟩:=yq he;cases h2;simp only[VR] at hv ⊢;obtain⟨a,rfl,hv⟩:=hv;exact⟨⟨a,rfl,(ZB ih caps _ l js hv h1 hc).1⟩,λ_=>rfl⟩
  case iface t y=>
   obtain⟨⟨l,js⟩,h1,h2⟩:=yq he;cases h2;simp only[VR] at hv ⊢;obtain⟨u,rfl,hv⟩:=hv;exact⟨⟨u,rfl,(ih y u l js hv h1 hc).1⟩,λ_=>rfl⟩
  case slice b o len cap sz ex=>
   split at he<;>try(cases he;done)
   rename_i n zl z cs hrow;cases hle:Qck (Qcl o (Qcm len sz)) n
   ·rw[hle] at he;cases he
   rw[hle] at he;simp only[cond] at he;rw[qg] at hle;have hle':o+len * sz<=n:=hle;obtain⟨⟨l,js⟩,h1,h2⟩:=yq he;cases h2;simp only[VR] at hv;obtain⟨hb,hlc,a,C,rfl,hC,_,ha⟩:=hv;obtain⟨B,S,c,e,f,e1,hw,hsz,hcells⟩:=uB k hb hrow hle';have hB:=hc b (by simp) B S e1;rw[Hg hw] at hB;have hall:(jT zl z cs (Qcm len sz) o).all AV.cell=true:=(Qr (st:=⟨nx,h,0,[]⟩) k hb hrow hle).1;obtain⟨q1,q2,q3⟩:=ZB ih (jT zl z cs (Qcm len sz) o) _ l js hcells h1 λb' hb'=>hc b' (QbT _ hb');have hll:l.length=len * sz:=by
    rw[q3,qy];simp
   refine⟨?_,λ_=>rfl⟩;simp only[VR];refine⟨some a,C,rfl,om,q2 hall,λh0=>⟨B,o,c.toList,?_,hB,by rw[hll,Qak];omega,by rw[hll];exact q1⟩⟩;rcases (ha B S e1).1 with h4|h4
   ·omega
   ·rw[h4]
theorem Vj {h:T AO}{f:AV->Option (AV×List Nat)}{p:Nat->Prop}(hf:∀ v v' ks,f v=some (v',ks)->∀ b∈ks,p b):∀ (l l':List AV) (ks:List Nat),fzs f l=some (l',ks)->∀ b∈ks,p b
 |[],l',ks,he,b,hb=>by
  simp only[fzs,Option.some.injEq,Prod.mk.injEq] at he;obtain⟨rfl,rfl⟩:=he;cases hb
 |x :: l,l',ks,he,b,hb=>by
  simp only[fzs] at he;split at he<;>try(cases he;done)
  rename_i y k1 l1 k2 e1 e2;simp only[Option.some.injEq,Prod.mk.injEq] at he;obtain⟨rfl,rfl⟩:=he;rcases QaQ.1 hb with hb|hb
  ·exact hf x y k1 e1 b hb
  ·exact Vj (h:=h) hf l l1 k2 e2 b hb
theorem jlS {h:T AO}:∀ (d:Nat) (v v':AV) (ks:List Nat),fz d h v=some (v',ks)->∀ b∈ks,∃ n zl z cs,jx h b=some (.row n zl z cs)
 |0,v,v',ks,he,_,_=>by cases he
 |d+1,v,v',ks,he,b,hb=>by
  have ih:=jlS (h:=h) d;cases v<;>simp only[fz] at he<;>first|(cases he;cases hb;done)|(cases he;done)|skip
  case agg cs=>obtain⟨⟨l,js⟩,h1,h2⟩:=yq he;cases h2;exact Vj (h:=h) ih _ _ _ h1 b hb
  case tup cs=>obtain⟨⟨l,js⟩,h1,h2⟩:=yq he;cases h2;exact Vj (h:=h) ih _ _ _ h1 b hb
  case fn f cs=>obtain⟨⟨l,js⟩,h1,h2⟩:=yq he;cases h2;exact Vj (h:=h) ih _ _ _ h1 b hb
  case iface t x=>obtain⟨⟨l,js⟩,h1,h2⟩:=yq he;cases h2;exact ih _ _ _ h1 b hb
  case slice b' o len cap sz ex=>
   split at he<;>try(cases he;done)
   rename_i n zl z cs hrow;cases hle:Qck (Qcl o (Qcm len sz)) n
   ·rw[hle] at he;cases he
   rw[hle] at he;simp only[cond] at he;obtain⟨⟨l,js⟩,h1,h2⟩:=yq he;cases h2;rcases QaU.1 hb with hb|hb
   ·subst hb;exact⟨n,zl,z,cs,hrow⟩
   ·exact Vj (h:=h) ih _ _ _ h1 b hb
open Classical in
def Inj.ice (ι:Inj)(p:Nat->Prop)(w:World):Nat->Option (List Value):=λB=>match ι.g B with
 |some vs=>some vs
 |none=>if ∃ b S,p b/\ι b=.at B S then YG w B else none
theorem Yc {ι:Inj}{p:Nat->Prop}{w:World}{B:Nat}{vs:List Value}(h:ι.g B=some vs):ι.ice p w B=some vs:=by
 unfold Inj.ice;rw[h]
theorem wL {ι:Inj}{p:Nat->Prop}{w:World}{b B S:Nat}(hgl:Gl ι w)(hb:p b)(e:ι b=.at B S):ι.ice p w B=YG w B:=by
 unfold Inj.ice;cases hg:ι.g B with
 |some vs=>exact absurd e ((hgl.2 B vs hg).2 b S)
 |none=>exact if_pos ⟨b,S,hb,e⟩
theorem QX {ι:Inj}{p:Nat->Prop}{w:World}{B:Nat}{vs:List Value}(h:ι.ice p w B=some vs):ι.g B=some vs\/∃ b S,p b/\ι b=.at B S/\YG w B=some vs:=by
 unfold Inj.ice at h;cases hg:ι.g B with
 |some us=>rw[hg] at h;exact .inl h
 |none=>
  rw[hg] at h;dsimp only at h;split at h
  ·rename_i hh;obtain⟨b,S,h1,h2⟩:=hh;exact .inr ⟨b,S,h1,h2,h⟩
  ·cases h
theorem WM {ι:Inj}{h:T AO}{nx:Nat}{w:World}(k:Sim ι h nx w){b B S:Nat}{vs:List Value}(e:ι b=.at B S)(hc:YG w B=some vs) :
  ∃ c elem lo hi,w.heap[B]? = some (.cells c elem (lo,hi))/\c.toList=vs/\True:=by
 obtain⟨o,x,_,hx,hr⟩:=k.obj b B S e;unfold YG at hc;rw[hx] at hc;cases o with
 |row n zl z cs=>
  simp only[OR] at hr;obtain⟨c,elem,lo,hi,rfl,h1,h2,h3,_⟩:=hr;simp only[Option.some.injEq] at hc;exact⟨c,elem,lo,hi,hx,hc,trivial⟩
 |map es=>simp only[OR] at hr;obtain⟨_,_,rfl,_⟩:=hr;cases hc
 |iter s pos=>simp only[OR] at hr;obtain⟨_,rfl,_⟩:=hr;cases hc
 |dead=>exact hr.elim
def Inj.killed (ι:Inj)(ks:List Nat)(w:World):Inj:=⟨λc=>if c∈ks then .dead else ι c,ι.ice (·∈ks) w⟩
theorem QV {ι:Inj}{ks:List Nat}{w:World}{c B S:Nat}(h:(ι.killed ks w) c=.at B S):ι c=.at B S/\c∉ks:=by
 simp only[Inj.killed] at h;split at h
 ·cases h
 ·exact⟨h,by assumption⟩
theorem jhs {ι:Inj}{w:World}{st:St}(k:Sim ι st.h st.nx w){ks:List Nat}(hks:∀ b∈ks,ι b≠.unborn->∃ B S,ι b=.at B S)(hb0:∀ b∈ks,ι b≠.unborn) :
  Le ι (ι.killed ks w)/\Sim (ι.killed ks w) (kills ks st).h (kills ks st).nx w/\Grew ι w (ι.killed ks w) w/\Cleanly ι (ι.killed ks w) st (kills ks st):=by
 have le:Le ι (ι.killed ks w):=⟨λc hc=>by
  simp only[Inj.killed];split
  ·exact .inr rfl
  ·exact .inl rfl,λB vs h=>Yc h⟩
 have froz:∀ B vs,(ι.killed ks w).g B=some vs->Froz (ι.killed ks w) w B vs:=λB vs h=>by
  rcases QX h with h1|⟨b,S,h1,h2,h3⟩
  ·have:=k.glob.2 B vs h1;exact⟨this.1,λb S e=>this.2 b S (QV e).1⟩
  ·refine⟨?_,λc T e=>?_⟩
   ·exact WM k h2 h3
   ·obtain⟨e1,e2⟩:=QV e;have:=k.inj b c B S T h2 e1;exact e2 (this▸h1)
 have gr:Grew ι w (ι.killed ks w) w:=⟨rfl,rfl,rfl,μ _,λ_ _ _=>rfl,λb B S e=>.inl ⟨b,S,(QV e).1⟩,λB vs h=>by
  rcases QX h with h1|⟨b,S,h1,h2,h3⟩
  ·exact .inl h1
  ·exact .inr ⟨froz B vs h,.inl ⟨b,S,h2⟩⟩⟩
 refine⟨le,⟨λb B S e=>?_,λb e o ho=>?_,λb c B S T e1 e2=>k.inj b c B S T (QV e1).1 (QV e2).1,λb hb=>k.born b λh=>hb ?_,⟨⟨k.glob.1.1,λb S e=>k.glob.1.2 b S (QV e).1⟩,froz⟩⟩,gr,?_⟩
 ·obtain⟨e1,e2⟩:=QV e;obtain⟨o,x,h1,h2,h3⟩:=k.obj b B S e1;exact⟨o,x,by simp only[kills];rw[QU,if_neg e2];exact h1,h2,OR.mono le _ _ h3⟩
 ·simp only[kills] at ho;rw[QU] at ho;split at ho
  ·cases ho;rfl
  ·rename_i hn;simp only[Inj.killed,if_neg hn] at e;exact k.gone b e o ho
 ·simp only[Inj.killed];split
  ·rename_i hm;exact absurd h (hb0 b hm)
  ·exact h
 ·refine⟨μ _,jj9 ks _,λb _ hd=>?_,λb hb=>?_,λb _ hu=>?_,λb hb=>?_,λb h1 h2=>absurd h2 (Nat.not_lt.2 h1)⟩
  ·simp only[kills];rw[QU,if_neg (jcu ks _ b hd).2]
  ·simp only[kills];rw[QU,if_neg];intro hm;have:=k.born b (hb0 b hm);have hb':st.nx<=b:=hb;omega
  ·simp only[Inj.killed];rw[if_neg λhm=>hb0 b hm hu];exact hu
  ·simp only[Inj.killed];split
   ·simp
   ·exact hb
theorem jdm {ι:Inj}{h:T AO}{nx:Nat}{w:World}(k:Sim ι h nx w):∀ (d:Nat) (v:AV) (x:Value) (v':AV) (ks:List Nat),VR ι v x->fz d h v=some (v',ks)->∀ b∈ks,ι b≠.unborn
 |0,v,x,v',ks,_,he,_,_=>by cases he
 |d+1,v,x,v',ks,hv,he,b,hb=>by
  have ih:=jdm k d;have ihs:∀ (l:List AV) (vs:List Value) (l':List AV) (ks:List Nat),VRs ι l vs->fzs (fz d h) l=some (l',ks)->∀ b∈ks,ι b≠.unborn:=by
   intro l;induction l with
   |nil=>
    intro vs l' ks _ he b hb;simp only[fzs,Option.some.injEq,Prod.mk.injEq] at he;obtain⟨rfl,rfl⟩:=he;cases hb
   |cons y l ihl=>
    intro vs l' ks hv he b hb;simp only[VRs] at hv;obtain⟨v,vs,rfl,h1,h2⟩:=hv;simp only[fzs] at he;split at he<;>try(cases he;done)
    rename_i y' k1 l1 k2 e1 e2;simp only[Option.some.injEq,Prod.mk.injEq] at he;obtain⟨rfl,rfl⟩:=he;rcases QaQ.1 hb with hb|hb
    ·exact ih _ _ _ _ h1 e1 b hb
    ·exact ihl vs l1 k2 h2 e2 b hb
  cases v<;>simp only[fz] at he<;>first|(cases he;cases hb;done)|(cases he;done)|skip
  case agg cs=>obtain⟨⟨l,js⟩,h1,h2⟩:=yq he;cases h2;simp only[VR] at hv;obtain⟨a,rfl,hv⟩:=hv;exact ihs _ _ _ _ hv h1 b hb
  case tup cs=>obtain⟨⟨l,js⟩,h1,h2⟩:=yq he;cases h2;simp only[VR] at hv;obtain⟨a,rfl,hv⟩:=hv;exact ihs _ _ _ _ hv h1 b hb
  case fn f cs=>obtain⟨⟨l,js⟩,h1,h2⟩:=yq he;cases h2;simp only[VR] at hv;obtain⟨a,rfl,hv⟩:=hv;exact ihs _ _ _ _ hv h1 b hb
  case iface t y=>obtain⟨⟨l,js⟩,h1,h2⟩:=yq he;cases h2;simp only[VR] at hv;obtain⟨u,rfl,hv⟩:=hv;exact ih _ _ _ _ hv h1 b hb
  case slice b' o len cap sz ex=>
   split at he<;>try(cases he;done)
   rename_i n zl z cs hrow;cases hle:Qck (Qcl o (Qcm len sz)) n
   ·rw[hle] at he;cases he
   rw[hle] at he;simp only[cond] at he;rw[qg] at hle;have hle':o+len * sz<=n:=hle;obtain⟨⟨l,js⟩,h1,h2⟩:=yq he;cases h2;simp only[VR] at hv;obtain⟨hb',_⟩:=hv;rcases QaU.1 hb with hb|hb
   ·subst hb;exact hb'
   ·obtain⟨B,S,c,e,f,e1,hw,hsz,hcells⟩:=uB k hb' hrow hle';exact ihs (jT zl z cs (Qcm len sz) o) _ _ _ hcells h1 b hb
end
section
def HN (run:List AV->St->ER)(args:List AV)(st:St):ER:=
 match fzs (fz 9 st.h) args with
 |some (aZ,ks)=>(match run aZ st0 with
  |.ok v s=>(match fz 9 s.h v with|some (v',_)=>.ok v' (kills ks st)|none=>.no)
  |.pn v s=>(match fz 9 s.h v with|some (v',_)=>.pn v' (kills ks st)|none=>.no)
  |.no=>.no)
 |none=>.no
def jeS (run:List AV->St->ER)(args:List AV)(st:St):ER:=
 match run args st with
 |.ok v s=>(match fz 9 s.h v with|some (v',ks)=>.ok v' (kills ks s)|none=>.no)
 |r=>r
def Xk (P:Program)(f:FuncId)(run:List AV->St->ER):Prop:=
 ∀ (args:List AV) (st:St) (ι:Inj) (w:World) (vs:Array Value),Sim ι st.h st.nx w->VRs ι args vs.toList->
  match run args st with
  |.no=>True
  |.ok v st'=>Enters P f/\Calls P f vs w λe w'=>∃ x,e=.returned x/\Jf ι w st st' v x w'
  |.pn v st'=>Enters P f/\Calls P f vs w λe w'=>∃ x,e=.panicked [{ v:=x,recovered:=false }]/\Jf ι w st st' v x w'
theorem U2 {ι:Inj}{w:World}{st:St}(k:Sim ι st.h st.nx w){d:Nat}{v v':AV}{x:Value}{ks:List Nat}(hv:VR ι v x)(he:fz d st.h v=some (v',ks)) :
  ∃ ι1,Le ι ι1/\Sim ι1 (kills ks st).h (kills ks st).nx w/\Grew ι w ι1 w/\Cleanly ι ι1 st (kills ks st)/\VR ι1.gone v' x:=by
 have hb0:=jdm k d v x v' ks hv he;have hks:∀ b∈ks,ι b≠.unborn->∃ B S,ι b=.at B S:=λb hb h0=>by
  obtain⟨n,zl,z,cs,hrow⟩:=jlS d v v' ks he b hb;obtain⟨B,S,_,_,_,_,e,_⟩:=k.row h0 hrow;exact⟨B,S,e⟩
 obtain⟨h1,h2,h3,h4⟩:=jhs k hks hb0;exact⟨_,h1,h2,h3,h4,(vR k (λB vs h=>Yc h) d v x v' ks hv he λb hb B S e=>wL (p:=(·∈ks)) k.glob hb e).1⟩
theorem jpI {P:Program}{f:FuncId}{run:List AV->St->ER}(h:Xk P f run):Xk P f (jeS run):=by
 intro args st ι w vs k hv;have h1:=h args st ι w vs k hv;unfold jeS;cases hr:run args st with
 |no=>trivial
 |pn v s=>rw[hr] at h1;exact h1
 |ok v s=>
  rw[hr] at h1;dsimp only at h1 ⊢;cases he:fz 9 s.h v with
  |none=>trivial
  |some p=>
   obtain⟨v',ks⟩:=p;refine⟨h1.1,Calls.mono h1.2 λe w' ⟨x,e1,ι',q1,q2,q3,q4,q5⟩=>⟨x,e1,?_⟩⟩;obtain⟨ι1,r1,r2,r3,r4,r5⟩:=U2 q3 q2 he;exact⟨ι1,q1.trans r1,VR.mono (Le.gone ι1) _ _ r5,r2,q4.trans r3,q5.trans r4⟩
theorem Gw {ι1:Inj}{w w':World}{st1:St}(k:Sim ι1 st1.h st1.nx w){s:St}{v v':AV}{x:Value}{js:List Nat}(h:Jf ι1.gone w st0 s v x w')(he:fz 9 s.h v=some (v',js)):Jf ι1 w st1 st1 v' x w':=by
 obtain⟨ι0',le0,hv',sim',gr',cl'⟩:=h
 let ι2:Inj:=⟨ι1.f,ι0'.ice (λ_=>True) w'⟩
 have noat:∀ B vs,ι2.g B=some vs->ι1.g B=some vs\/w.heap.size<=B:=λB vs h=>by
  rcases QX h with h|⟨b,S,_,h,_⟩
  ·rcases gr'.gl B vs h with h|⟨_,⟨c,S,h⟩|h⟩
   ·exact .inl h
   ·cases h
   ·exact .inr h
  ·rcases gr'.new b B S h with ⟨c,S',h⟩|h
   ·cases h
   ·exact .inr h
 have froz:∀ B vs,ι2.g B=some vs->Froz ι2 w' B vs:=λB vs h=>by
  refine⟨?_,λb S e=>?_⟩
  ·rcases QX h with h|⟨b,S,_,h,h2⟩
   ·exact(sim'.glob.2 B vs h).1
   ·exact WM sim' h h2
  ·have e:ι1 b=.at B S:=e;rcases noat B vs h with h1|h1
   ·exact(k.glob.2 B vs h1).2 b S e
   ·have:=k.lt e;omega
 have keep:∀ j,j<w.heap.size->w'.heap[j]? = w.heap[j]?:=λj hj=>gr'.keep j hj λb S e=>by cases e
 have le:Le ι1 ι2:=⟨λ_ _=>.inl rfl,λB vs h=>Yc (le0.2 B vs h)⟩;have gr:Grew ι1 w ι2 w':=⟨gr'.os,gr'.tape,gr'.output,gr'.size,λj hj _=>keep j hj,λb B S e=>.inl ⟨b,S,e⟩,λB vs h=>(noat B vs h).elim .inl λh1=>.inr ⟨froz B vs h,.inr h1⟩⟩;have hv2:=(vR (ι':=ι2) sim' (λB vs h=>Yc h) 9 v x v' js hv' he λb hb B S e=>wL sim'.glob trivial e).1;refine⟨ι2,le,VR.mono (Le.gone ι2) _ _ hv2,⟨λb B S e=>?_,k.gone,k.inj,k.born,⟨⟨sim'.glob.1.1,k.glob.1.2⟩,froz⟩⟩,gr,?_⟩
 ·have e:ι1 b=.at B S:=e;obtain⟨o,y,h1,h2,h3⟩:=k.obj b B S e;exact⟨o,y,h1,(keep B (k.lt e)).trans h2,OR.mono le _ _ h3⟩
 ·have:=Cleanly.refl ι1 st1;exact⟨this.nx,this.dirty,this.keep,this.above,this.u,this.le,this.n⟩
theorem jmx {P:Program}{f:FuncId}{run:List AV->St->ER}(h:Xk P f run):Xk P f (HN run):=by
 intro args st ι w vs k hv;unfold HN;cases he:fzs (fz 9 st.h) args with
 |none=>trivial
 |some p=>
  obtain⟨aZ,ks⟩:=p;dsimp only;have hvt:VR ι (.tup args) (.tuple vs):=by simp only[VR];exact⟨vs,rfl,hv⟩
  have het:fz 10 st.h (.tup args)=some (.tup aZ,ks):=by
   show((fzs (fz 9 st.h) args).map λp=>(AV.tup p.1,p.2))=_;rw[he];rfl
  obtain⟨ι1,r1,r2,r3,r4,r5⟩:=U2 k hvt het;have hva:VRs ι1.gone aZ vs.toList:=by
   simp only[VR] at r5;obtain⟨a,e,r5⟩:=r5;cases e;exact r5
  have sim0:Sim ι1.gone st0.h st0.nx w:=⟨λb B S e=>(by cases e),λb e=>(by cases e),λb b' B S S' e=>(by cases e),λb e=>absurd rfl e,
   ⟨⟨r2.glob.1.1,λb S e=>(by cases e)⟩,λB vs h=>⟨(r2.glob.2 B vs h).1,λb S e=>(by cases e)⟩⟩⟩
  have h1:=h aZ st0 ι1.gone w vs sim0 hva;cases hr:run aZ st0 with
  |no=>trivial
  |ok v s=>
   rw[hr] at h1;dsimp only at h1 ⊢;cases hz:fz 9 s.h v with
   |none=>trivial
   |some p=>
    refine⟨h1.1,Calls.mono h1.2 λe w' ⟨x,e1,hd⟩=>⟨x,e1,?_⟩⟩;obtain⟨ι2,q1,q2,q3,q4,q5⟩:=Gw r2 hd hz;exact⟨ι2,r1.trans q1,q2,q3,r3.trans q4,r4.trans q5⟩
  |pn v s=>
   rw[hr] at h1;dsimp only at h1 ⊢;cases hz:fz 9 s.h v with
   |none=>trivial
   |some p=>
    refine⟨h1.1,Calls.mono h1.2 λe w' ⟨x,e1,hd⟩=>⟨x,e1,?_⟩⟩;obtain⟨ι2,q1,q2,q3,q4,q5⟩:=Gw r2 hd hz;exact⟨ι2,r1.trans q1,q2,q3,r3.trans q4,r4.trans q5⟩
end
section
def Y3 (cs:List AV):St:=⟨1,(j1 (jK 0)).run (.row (jP cs) (jP cs) cs .e) .e,0,[]⟩
def Zp (n:Nat)(v:AV)(s:St):Option (AV×List AV):=
 match fz 9 s.h v,jx s.h 0 with
 |some (v',ks),some (.row m zl z cs)=>(match fzs (fz 9 s.h) (jT zl z cs m 0) with
  |some (cs',js)=>cond (Qci m n) (cond (ks.all λb=>Qck 1 b) (cond (js.all λb=>Qck 1 b) (some (v',cs')) none) none) none
  |none=>none)
 |_,_=>none
def Kj (run:List AV->St->ER)(args:List AV)(st:St):ER:=
 match args with
 |.ptr p 0 :: rest=>(match jx st.h p with
  |some (.row n zl z cs)=>(match fzs (fz 9 st.h) (jT zl z cs n 0),fzs (fz 9 st.h) rest with
   |some (cells,[]),some (aZ,[])=>(match run (.ptr 0 0 :: aZ) (Y3 cells) with
    |.ok v s=>(match Zp n v s with|some (v',cs')=>.ok v' ⟨st.nx,(j1 (jK p)).run (.row n zl z (qj cs' cs 0)) st.h,min st.dirty p,st.fr⟩|none=>.no)
    |.pn v s=>(match Zp n v s with|some (v',cs')=>.pn v' ⟨st.nx,(j1 (jK p)).run (.row n zl z (qj cs' cs 0)) st.h,min st.dirty p,st.fr⟩|none=>.no)
    |.no=>.no)
   |_,_=>.no)
  |_=>.no)
 |_=>.no
theorem GL {ι:Inj}{w w':World}{st:St}(k:Sim ι st.h st.nx w){p n zl:Nat}{z:List AV}{cs:T AV}(hp:ι p≠.unborn)(hrow:jx st.h p=some (.row n zl z cs)){cells:List AV}{s:St}{v v':AV}{x:Value}{cs':List AV}
  (h:Jf ⟨λc=>if c=0 then ι p else .unborn,ι.g⟩ w (Y3 cells) s v x w') (he:Zp n v s=some (v',cs')) :
  Jf ι w st ⟨st.nx,(j1 (jK p)).run (.row n zl z (qj cs' cs 0)) st.h,min st.dirty p,st.fr⟩ v' x w':=by
 obtain⟨ι0',le0,hv',sim',gr',cl'⟩:=h;obtain⟨B,S,c0,elem0,lo0,hi0,eB,hw0,hc0,hnS0,hfr0,hcell0⟩:=k.row hp hrow;unfold Zp at he;split at he<;>try(cases he;done)
 rename_i w1 ks m zl' z' cs1 hz hrow';split at he<;>try(cases he;done)
 rename_i l js hzs;cases hm:Qci m n
 ·rw[hm] at he;cases he
 rw[hm] at he;cases hk1:ks.all λb=>Qck 1 b
 ·rw[hk1] at he;cases he
 rw[hk1] at he;cases hk2:js.all λb=>Qck 1 b
 ·rw[hk2] at he;cases he
 rw[hk2] at he;simp only[cond,Option.some.injEq,Prod.mk.injEq] at he;obtain⟨rfl,rfl⟩:=he;rw[qH] at hm;subst hm;have h00:(⟨λc=>if c=0 then ι p else .unborn,ι.g⟩:Inj) 0=.at B S:=eB;have hb0:ι0' 0≠.unborn:=le0.born (by rw[h00];simp);have e0:ι0' 0=.at B S:=by
  rcases le0.1 0 (by rw[h00];simp) with h|h
  ·exact h.trans h00
  ·have:=sim'.gone 0 h _ hrow';cases this
 have only:∀ c B' S',(⟨λc=>if c=0 then ι p else .unborn,ι.g⟩:Inj) c=.at B' S'->B'=B:=λc B' S' e=>by
  dsimp only at e;split at e
  ·rw[eB] at e;cases e;rfl
  ·cases e
 let ι2:Inj:=⟨ι.f,ι0'.ice (λb=>1<=b) w'⟩
 have noat:∀ B' vs,ι2.g B'=some vs->ι.g B'=some vs\/w.heap.size<=B':=λB' vs h=>by
  rcases QX h with h|⟨b,S',hb,h,_⟩
  ·rcases gr'.gl B' vs h with h|⟨hF,⟨c,S',h⟩|h⟩
   ·exact .inl h
   ·have:=only c B' S' h;subst this;exact absurd e0 (hF.2 0 S)
   ·exact .inr h
  ·rcases gr'.new b B' S' h with ⟨c,S2,h2⟩|h2
   ·have:=only c B' S2 h2;subst this;have:=sim'.inj b 0 B' S' S h e0;omega
   ·exact .inr h2
 have froz:∀ B' vs,ι2.g B'=some vs->Froz ι2 w' B' vs:=λB' vs h=>by
  refine⟨?_,λb S' e=>?_⟩
  ·rcases QX h with h|⟨b,S',_,h,h2⟩
   ·exact(sim'.glob.2 B' vs h).1
   ·exact WM sim' h h2
  ·have e:ι b=.at B' S':=e;rcases noat B' vs h with h1|h1
   ·exact(k.glob.2 B' vs h1).2 b S' e
   ·have:=k.lt e;omega
 have keep:∀ j,j<w.heap.size->j≠B->w'.heap[j]? = w.heap[j]?:=λj hj hn=>gr'.keep j hj λb S' e=>hn (only b j S' e);have le:Le ι ι2:=⟨λ_ _=>.inl rfl,λB' vs h=>Yc (le0.2 B' vs h)⟩;have gr:Grew ι w ι2 w':=⟨gr'.os,gr'.tape,gr'.output,gr'.size,λj hj hn=>keep j hj λe=>hn p S (by rw[e];exact eB),λb B' S' e=>.inl ⟨b,S',e⟩,λB' vs h=>(noat B' vs h).elim .inl λh1=>.inr ⟨froz B' vs h,.inr h1⟩⟩;have hv2:=(vR (ι':=ι2) sim' (λB' vs h=>Yc h) 9 v x w1 ks hv' hz λb hb B' S' e=>wL (p:=λb=>1<=b) sim'.glob (by have:=Qae.1 hk1 b hb;rwa [qg] at this) e).1;obtain⟨B2,S2,c,e,f,e2,hw',hsz,hcells⟩:=uB (o:=0) (m:=m) sim' hb0 hrow' om;rw[e0] at e2;cases e2;obtain⟨B3,S3,c3,elem,lo,hi,e3,hw3,hc3,hnS,hfr,_⟩:=sim'.row hb0 hrow';rw[e0] at e3;cases e3;rw[hw'] at hw3;cases hw3;have hall:(jT zl' z' cs1 m 0).all AV.cell=true:=(Qr (st:=s) (o:=0) sim' hb0 hrow' om).1;obtain⟨q1,q2,q3⟩:=ZB (ι':=ι2) (w:=w') (λv x v' ks hv he hc=>vR sim' (λB' vs h=>Yc h) 9 v x v' ks hv he hc) (jT zl' z' cs1 m 0) _ l js hcells hzs λb hb B' S' e=>wL (p:=λb=>1<=b) sim'.glob (by have:=Qae.1 hk2 b hb;rwa [qg] at this) e;have hlen:l.length=m:=by rw[q3,qy];simp
 have hor:OR ι2 S (.row m zl z (qj l cs 0)) (.cells c e (lo,hi)):=by
  simp only[OR];refine⟨c,e,lo,hi,rfl,hc3,hnS,hfr,λi hi'=>?_⟩;rw[yQ,if_pos ⟨Qaa _,om⟩,QaG];refine⟨vt (q2 hall) om,c.toList.getD i undef,?_,?_⟩
  ·have:i<c.size:=om
   simp[ω,this]
  ·have:=q1.get i om;rw[Wg om (by rw[Qak];omega),Qag] at this;exact VR.mono (Le.gone ι2) _ _ this
 refine⟨ι2,le,VR.mono (Le.gone ι2) _ _ hv2,⟨λb B' S' e'=>?_,λb e' o ho=>?_,k.inj,k.born,⟨⟨sim'.glob.1.1,k.glob.1.2⟩,froz⟩⟩,gr,?_⟩
 ·have e':ι b=.at B' S':=e';by_cases hb:b=p
  ·subst hb;rw[eB] at e';cases e';exact⟨_,_,by rw[jX,if_pos rfl],hw',hor⟩
  ·obtain⟨o,y,h1,h2,h3⟩:=k.obj b B' S' e';have hB:B'≠B:=λh=>hb (k.inj b p B S' S (h▸e') eB);exact⟨o,y,by rw[jX,if_neg hb];exact h1,(keep B' (k.lt e') hB).trans h2,OR.mono le _ _ h3⟩
 ·have e':ι b=.dead:=e';by_cases hb:b=p
  ·subst hb;rw[eB] at e';cases e'
  ·rw[jX,if_neg hb] at ho;exact k.gone b e' o ho
 ·have:=Cleanly.put ι st p (.row m zl z (qj l cs 0)) (k.born p hp);exact⟨this.nx,this.dirty,this.keep,this.above,this.u,this.le,this.n⟩
theorem Ho {ι:Inj}{w:World}{st:St}(k:Sim ι st.h st.nx w){aZ l:List AV}{vs:List Value}(hv:VRs ι aZ vs)(he:fzs (fz 9 st.h) aZ=some (l,[])):VRs ι.gone l vs:=
 (ZB (ι':=ι) (w:=w) (λv x v' ks hv he hc=>vR k (λB' vs h=>h) 9 v x v' ks hv he hc) aZ vs l [] hv he (λb hb=>by cases hb)).1
theorem jmG {P:Program}{f:FuncId}{run:List AV->St->ER}(h:Xk P f run):Xk P f (Kj run):=by
 intro args st ι w vs k hv;unfold Kj;cases args with
 |nil=>trivial
 |cons a rest=>
 cases a<;>try trivial
 rename_i p o;cases o with
 |succ o=>trivial
 |zero=>
 show match (match jx st.h p with
  |some (.row n zl z cs)=>(match fzs (fz 9 st.h) (jT zl z cs n 0),fzs (fz 9 st.h) rest with
   |some (cells,[]),some (aZ,[])=>(match run (.ptr 0 0 :: aZ) (Y3 cells) with
    |.ok v s=>(match Zp n v s with|some (v',cs')=>ER.ok v' ⟨st.nx,(j1 (jK p)).run (.row n zl z (qj cs' cs 0)) st.h,min st.dirty p,st.fr⟩|none=>.no)
    |.pn v s=>(match Zp n v s with|some (v',cs')=>.pn v' ⟨st.nx,(j1 (jK p)).run (.row n zl z (qj cs' cs 0)) st.h,min st.dirty p,st.fr⟩|none=>.no)
    |.no=>.no)
   |_,_=>.no)
  |_=>.no) with
  |.no=>True
  |.ok v st'=>Enters P f/\Calls P f vs w λe w'=>∃ x,e=.returned x/\Jf ι w st st' v x w'
  |.pn v st'=>Enters P f/\Calls P f vs w λe w'=>∃ x,e=.panicked [{ v:=x,recovered:=false }]/\Jf ι w st st' v x w'
 cases hrow:jx st.h p with
 |none=>trivial
 |some ob=>
 cases ob<;>try trivial
 rename_i n zl z cs;dsimp only;cases hcells:fzs (fz 9 st.h) (jT zl z cs n 0) with
 |none=>trivial
 |some q=>
 cases has:fzs (fz 9 st.h) rest with
 |none=>obtain⟨cells,ks⟩:=q;cases ks<;>trivial
 |some q2=>
 obtain⟨cells,ks⟩:=q;obtain⟨aZ,ks2⟩:=q2;cases ks with
 |cons b ks=>trivial
 |nil=>
 cases ks2 with
 |cons b ks=>trivial
 |nil=>
 dsimp only;simp only[VRs] at hv;obtain⟨pv,vs',hvs,hpv,hrest⟩:=hv;simp only[VR] at hpv;obtain⟨hp,ad,rfl,hat⟩:=hpv;obtain⟨B,S,c,elem,lo,hi,eB,hw,hc,hnS,hfr,hcell⟩:=k.row hp hrow;obtain⟨B2,S2,c2,e2,f2,eB2,hw2,hsz,hvc⟩:=uB (o:=0) (m:=n) k hp hrow om;rw[eB] at eB2;cases eB2;rw[hw] at hw2;cases hw2;have hgc:=Ho k hvc hcells;have hga:=Ho k hrest has;have hall:(jT zl z cs n 0).all AV.cell=true:=(Qr (st:=st) (o:=0) k hp hrow om).1;obtain⟨_,q2,q3⟩:=ZB (ι':=ι) (w:=w) (λv x v' ks hv he hc=>vR k (λB' vs h=>h) 9 v x v' ks hv he hc) _ _ cells [] hvc hcells (λb hb=>by cases hb);have hlen:cells.length=n:=by rw[q3,qy];simp
 let ι0:Inj:=⟨λc=>if c=0 then ι p else .unborn,ι.g⟩
 have only:∀ c B' S',ι0 c=.at B' S'->c=0/\B'=B/\S'=S:=λc B' S' e=>by
  dsimp only[ι0] at e;split at e
  ·rw[eB] at e;cases e;exact⟨by assumption,rfl,rfl⟩
  ·cases e
 have leg:Le ι.gone ι0:=⟨λb hb=>absurd rfl hb,λ_ _ h=>h⟩;have sim0:Sim ι0 (Y3 cells).h (Y3 cells).nx w:=by
  refine⟨λb B' S' e=>?_,λb e=>?_,λb b' B' S1 S2 e1 e2=>(only b _ _ e1).1.trans (only b' _ _ e2).1.symm,λb hb=>?_,⟨⟨k.glob.1.1,λb S' e=>?_⟩,λB' vs h=>⟨(k.glob.2 B' vs h).1,λb S' e=>?_⟩⟩⟩
  ·obtain⟨rfl,rfl,rfl⟩:=only b B' S' e;refine⟨_,_,by simp only[Y3];rw[jX,if_pos rfl],hw,?_⟩;simp only[OR,jO];refine⟨c,elem,lo,hi,rfl,hc,om,hfr,λi hi'=>?_⟩;have e1:qA cells.length cells .e i=cells.getD i .bad:=by rw[yL,Xe,Qbm hi'];rfl
   rw[e1];refine⟨vt (q2 hall) hi',c.toList.getD i undef,?_,?_⟩
   ·have:i<c.size:=om
    simp[ω,this]
   ·have:=hgc.get i hi';rw[Wg om (by rw[Qak];omega),Qag] at this;exact VR.mono leg _ _ this
  ·dsimp only[ι0] at e;split at e
   ·rw[eB] at e;cases e
   ·cases e
  ·dsimp only[ι0] at hb;split at hb
   ·rename_i h0;rw[h0];exact Nat.zero_lt_one
   ·exact absurd rfl hb
  ·obtain⟨_,h,h2⟩:=only b 1 S' e;subst h;exact k.glob.1.2 p S eB
  ·obtain⟨_,h,h2⟩:=only b B' S' e;subst h;exact(k.glob.2 B' vs h).2 p S eB
 have hvs0:VRs ι0 (.ptr 0 0 :: aZ) vs.toList:=by
  rw[hvs];simp only[VRs];refine⟨_,vs',rfl,?_,VRs.mono leg _ _ hga⟩;simp only[VR];refine⟨by dsimp only[ι0];rw[if_pos rfl,eB];simp,ad,rfl,λB' S' e=>?_⟩;obtain⟨_,rfl,rfl⟩:=only 0 B' S' e;exact hat B' S' eB
 have h1:=h (.ptr 0 0 :: aZ) (Y3 cells) ι0 w vs sim0 hvs0;cases hr:run (.ptr 0 0 :: aZ) (Y3 cells) with
 |no=>trivial
 |ok v s=>
  rw[hr] at h1;dsimp only at h1 ⊢;cases hz:Zp n v s with
  |none=>trivial
  |some q=>
   obtain⟨v',cs'⟩:=q;exact⟨h1.1,Calls.mono h1.2 λe w' ⟨x,e1,hd⟩=>⟨x,e1,GL k hp hrow hd hz⟩⟩
 |pn v s=>
  rw[hr] at h1;dsimp only at h1 ⊢;cases hz:Zp n v s with
  |none=>trivial
  |some q=>
   obtain⟨v',cs'⟩:=q;exact⟨h1.1,Calls.mono h1.2 λe w' ⟨x,e1,hd⟩=>⟨x,e1,GL k hp hrow hd hz⟩⟩
def HW (run:List AV->St->ER)(args:List AV)(st:St):ER:=
 match args with
 |p :: rest=>(match fzs (fz 9 st.h) rest with|some (aZ,ks)=>Kj run (p :: aZ) (kills ks st)|none=>.no)
 |[]=>.no
theorem jj1 {P:Program}{f:FuncId}{run:List AV->St->ER}(h:Xk P f run):Xk P f (HW run):=by
 intro args st ι w vs k hv;unfold HW;cases args with
 |nil=>trivial
 |cons a rest=>
 dsimp only;cases he:fzs (fz 9 st.h) rest with
 |none=>trivial
 |some p=>
 obtain⟨aZ,ks⟩:=p;dsimp only;simp only[VRs] at hv;obtain⟨pv,vs',hvs,hpv,hrest⟩:=hv;have hvt:VR ι (.tup rest) (.tuple vs'.toArray):=by simp only[VR];exact⟨vs'.toArray,rfl,hrest⟩
 have het:fz 10 st.h (.tup rest)=some (.tup aZ,ks):=by
  show((fzs (fz 9 st.h) rest).map λp=>(AV.tup p.1,p.2))=_;rw[he];rfl
 obtain⟨ι1,r1,r2,r3,r4,r5⟩:=U2 k hvt het;have hva:VRs ι1 aZ vs':=by
  simp only[VR] at r5;obtain⟨a,e,r5⟩:=r5;cases e;exact VRs.mono (Le.gone ι1) _ _ r5
 have h1:=jmG h (a :: aZ) (kills ks st) ι1 w vs r2 (by
  rw[hvs];simp only[VRs];exact⟨pv,vs',rfl,VR.mono r1 _ _ hpv,hva⟩)
 have fin:∀ {st':St} {v:AV} {x:Value} {w':World},Jf ι1 w (kills ks st) st' v x w'->Jf ι w st st' v x w':=λ⟨ι2,q1,q2,q3,q4,q5⟩=>⟨ι2,r1.trans q1,q2,q3,r3.trans q4,r4.trans q5⟩;cases hr:Kj run (a :: aZ) (kills ks st) with
 |no=>trivial
 |ok v s=>
  rw[hr] at h1;exact⟨h1.1,Calls.mono h1.2 λe w' ⟨x,e1,hd⟩=>⟨x,e1,fin hd⟩⟩
 |pn v s=>
  rw[hr] at h1;exact⟨h1.1,Calls.mono h1.2 λe w' ⟨x,e1,hd⟩=>⟨x,e1,fin hd⟩⟩
end
section
def jac:AV->Bool
 |.bool _=>true | .int _ _=>true | .str _=>true | .zstr _=>true | .nilp=>true | .nilm=>true | .nilf=>true | .nilif=>true | .nils=>true
 |.lst 0 []=>true
 |_=>false
def KL:AV->Bool
 |.agg cs=>cs.all jac
 |v=>jac v
def wg:AV->Bool
 |.tup vs=>vs.all KL
 |.iface _ v=>KL v
 |v=>KL v
theorem jbE {ι ι':Inj}:∀ {v:AV} {x:Value},jac v=true->VR ι v x->VR ι' v x:=by
 intro v x h k;cases v<;>first|(cases h;done)|(simp only[VR] at k ⊢;exact k)|skip
 case lst n cs=>
  cases n with
  |zero=>
   cases cs with
   |nil=>
    simp only[VR] at k ⊢;obtain⟨p,C,rfl,hC,hc,_⟩:=k;exact⟨p,C,rfl,hC,hc,λh=>absurd h (Qbk 0)⟩
   |cons c cs=>cases h
  |succ n=>cases h
theorem G3 {ι ι':Inj}:∀ {l:List AV} {xs:List Value},l.all jac=true->VRs ι l xs->VRs ι' l xs
 |[],_,_,k=>k
 |v :: l,xs,h,k=>by
  simp only[Qaz,χ] at h;simp only[VRs] at k ⊢;obtain⟨y,ys,rfl,h1,h2⟩:=k;exact⟨y,ys,rfl,jbE h.1 h1,G3 h.2 h2⟩
theorem U3 {ι ι':Inj}{v:AV}{x:Value}(h:KL v=true)(k:VR ι v x):VR ι' v x:=by
 cases v<;>first|exact jbE (by exact h) k|skip
 case agg cs=>
  simp only[VR] at k ⊢;obtain⟨a,rfl,hc⟩:=k;exact⟨a,rfl,G3 h hc⟩
theorem G4 {ι ι':Inj}:∀ {l:List AV} {xs:List Value},l.all KL=true->VRs ι l xs->VRs ι' l xs
 |[],_,_,k=>k
 |v :: l,xs,h,k=>by
  simp only[Qaz,χ] at h;simp only[VRs] at k ⊢;obtain⟨y,ys,rfl,h1,h2⟩:=k;exact⟨y,ys,rfl,U3 h.1 h1,G4 h.2 h2⟩
theorem jkh {ι ι':Inj}{v:AV}{x:Value}(h:wg v=true)(k:VR ι v x):VR ι' v x:=by
 cases v<;>first|exact U3 (by exact h) k|skip
 case tup vs=>
  simp only[VR] at k ⊢;obtain⟨a,rfl,hc⟩:=k;exact⟨a,rfl,G4 h hc⟩
 case iface t y=>
  simp only[VR] at k ⊢;obtain⟨z,rfl,hc⟩:=k;exact⟨z,rfl,U3 h hc⟩
def Xg (f:AV->Option (AV×List Nat)):List AV->List AV
 |[]=>[]
 |x :: l=>match f x with
  |some (y,_)=>cond y.cell (y :: Xg f l) []
  |none=>[]
def Zm (h:T AO)(v:AV):Option AV:=
 match v with
 |.ptr b o=>match jx h b with
  |some (.row n zl z cs)=>some (.lptr (Xg (fz 9 h) (jT zl z cs n 0)) o)
  |_=>none
 |v=>(fz 9 h v).map (·.1)
def JV (h:T AO):List AV->Option (List AV)
 |[]=>some []
 |x :: l=>match Zm h x,JV h l with
  |some y,some l'=>some (y :: l')
  |_,_=>none
def lend (h:T AO)(v:AV):Option AV:=
 match v with
 |.fn f caps=>(JV h caps).map (AV.fn f)
 |v=>Zm h v
def JO (h:T AO):List AV->Option (List AV)
 |[]=>some []
 |x :: l=>match lend h x,JO h l with
  |some y,some l'=>some (y :: l')
  |_,_=>none
def H6 (run:List AV->St->ER)(args:List AV)(st:St):ER:=
 match JO st.h args with
 |some aZ=>(match run aZ st0 with
  |.ok v s=>(match fz 9 s.h v with|some (v',_)=>cond (wg v') (.ok v' st) .no|none=>.no)
  |.pn v s=>(match fz 9 s.h v with|some (v',_)=>cond (wg v') (.pn v' st) .no|none=>.no)
  |.no=>.no)
 |none=>.no
def Inj.lent (ι:Inj)(w:World):Inj:=⟨λ_=>.unborn,ι.ice (λ_=>True) w⟩
section
variable {h:T AO} {nx:Nat} {w:World} {ι:Inj}
theorem gU (k:Sim ι h nx w){d:Nat}{v v':AV}{x:Value}{ks:List Nat}(hv:VR ι v x)(he:fz d h v=some (v',ks)):VR (ι.lent w) v' x/\(v.cell=true->v'.cell=true):=
 vR (ι':=ι.lent w) k (λB vs hB=>Yc hB) d v x v' ks hv he λb hb B S e=>wL (p:=λ_=>True) k.glob trivial e
theorem jbC (k:Sim ι h nx w):∀ (l:List AV) (xs:List Value),VRs ι l xs->∃ m,(Xg (fz 9 h) l).length=m/\m<=xs.length/\VRs (ι.lent w) (Xg (fz 9 h) l) (xs.take m)/\(Xg (fz 9 h) l).all AV.cell=true
 |[],xs,hv=>⟨0,rfl,Qaa _,by rw[QaC];rfl,rfl⟩
 |x :: l,xs,hv=>by
  simp only[VRs] at hv;obtain⟨y,ys,rfl,h1,h2⟩:=hv;unfold Xg;cases he:fz 9 h x with
  |none=>exact⟨0,rfl,Qaa _,by rw[QaC];rfl,rfl⟩
  |some p=>
   obtain⟨z,ks⟩:=p;dsimp only;cases hz:z.cell with
   |false=>exact⟨0,rfl,Qaa _,by rw[QaC];rfl,rfl⟩
   |true=>
    obtain⟨m,e1,e2,e3,e4⟩:=jbC k l ys h2;refine⟨m+1,by simp[e1],by simp;omega,?_,by simp[hz,e4]⟩;rw[Qcd];exact⟨y,_,rfl,(gU k h1 he).1,e3⟩
theorem jbj (k:Sim ι h nx w){v v':AV}{x:Value}(hv:VR ι v x)(he:Zm h v=some v'):VR (ι.lent w) v' x:=by
 have other:∀ v,VR ι v x->(fz 9 h v).map (·.1)=some v'->VR (ι.lent w) v' x:=λv hv he=>by
  cases hz:fz 9 h v with
  |none=>rw[hz] at he;cases he
  |some p=>
   rw[hz] at he;cases he;exact(gU k hv hz).1
 cases v;case ptr b o=>
  unfold Zm at he;dsimp only at he;split at he
  ·rename_i n zl z cs hrow;cases he;simp only[VR] at hv;obtain⟨hb,a,rfl,ha⟩:=hv;obtain⟨B,S,c,e,f,e1,hw,hle,hvr⟩:=uB k hb hrow (o:=0) (m:=n) om;have:=ha B S e1;subst this;obtain⟨m,f1,f2,f3,f4⟩:=jbC k _ _ hvr;have hg:(ι.lent w).g B=some c.toList:=by
    have:ι.ice (λ_=>True) w B=YG w B:=wL (p:=λ_=>True) k.glob trivial e1;show ι.ice (λ_=>True) w B=_;rw[this,Hg hw]
   rw[Qba] at f3 f2;have hl:(c.toList.take n).length=min n c.toList.length:=Qam;have hcs:c.toList.length=c.size:=Qak;simp only[VR];refine⟨B,0,c.toList,by rw[Qag],f4,hg,om,?_⟩;rw[Qba,f1];rw[QbK,Qby om] at f3;exact f3
  ·cases he
 all_goals exact other _ hv he
theorem GS (k:Sim ι h nx w):∀ {l l':List AV} {xs:List Value},VRs ι l xs->JV h l=some l'->VRs (ι.lent w) l' xs
 |[],l',xs,hv,he=>by cases he;exact hv
 |v :: l,l',xs,hv,he=>by
  unfold JV at he;split at he
  ·rename_i y l2 h1 h2;cases he;simp only[VRs] at hv ⊢;obtain⟨u,us,rfl,g1,g2⟩:=hv;exact⟨u,us,rfl,jbj k g1 h1,GS k g2 h2⟩
  ·cases he
theorem jmN (k:Sim ι h nx w){v v':AV}{x:Value}(hv:VR ι v x)(he:lend h v=some v'):VR (ι.lent w) v' x:=by
 cases v;case fn f caps=>
  unfold lend at he;dsimp only at he;cases hz:JV h caps with
  |none=>rw[hz] at he;cases he
  |some p=>
   rw[hz] at he;cases he;simp only[VR] at hv ⊢;obtain⟨cv,rfl,hc⟩:=hv;exact⟨cv,rfl,GS k hc hz⟩
 all_goals exact jbj k hv he
theorem jbh (k:Sim ι h nx w):∀ {l l':List AV} {xs:List Value},VRs ι l xs->JO h l=some l'->VRs (ι.lent w) l' xs
 |[],l',xs,hv,he=>by cases he;exact hv
 |v :: l,l',xs,hv,he=>by
  unfold JO at he;split at he
  ·rename_i y l2 h1 h2;cases he;simp only[VRs] at hv ⊢;obtain⟨u,us,rfl,g1,g2⟩:=hv;exact⟨u,us,rfl,jmN k g1 h1,jbh k g2 h2⟩
  ·cases he
end
theorem GQ {ι:Inj}{w w':World}{st:St}(k:Sim ι st.h st.nx w){s:St}{v v':AV}{x:Value}{js:List Nat}(h:Jf (ι.lent w) w st0 s v x w')(he:fz 9 s.h v=some (v',js))(hf:wg v'=true):Jf ι w st st v' x w':=by
 obtain⟨ι0,le0,hv,sim',gr',cl'⟩:=h;have keep:∀ j,j<w.heap.size->w'.heap[j]? = w.heap[j]?:=λj hj=>gr'.keep j hj λb S e=>by cases e
 have hv2:=(gU sim' hv he).1;have froz:∀ B vs,ι.g B=some vs->Froz ι w' B vs:=λB vs hB=>by
  have h1:=k.glob.2 B vs hB;obtain⟨⟨c,e,lo,hi,h2,h3⟩,h4⟩:=h1;exact⟨⟨c,e,lo,hi,(keep B (Qav.1 h2).1).trans h2,h3⟩,h4⟩
 refine⟨ι,Le.refl ι,jkh hf hv2,⟨λb B S e=>?_,k.gone,k.inj,k.born,⟨⟨sim'.glob.1.1,k.glob.1.2⟩,froz⟩⟩,⟨gr'.os,gr'.tape,gr'.output,gr'.size,λj hj _=>keep j hj,λb B S e=>.inl ⟨b,S,e⟩,λB vs h=>.inl h⟩,Cleanly.refl ι st⟩;obtain⟨o,y,h1,h2,h3⟩:=k.obj b B S e;exact⟨o,y,h1,(keep B (k.lt e)).trans h2,h3⟩
theorem jmL {P:Program}{f:FuncId}{run:List AV->St->ER}(h:Xk P f run):Xk P f (H6 run):=by
 intro args st ι w vs k hv;unfold H6;cases he:JO st.h args with
 |none=>trivial
 |some aZ=>
  dsimp only;have hva:=jbh k hv he;have sim0:Sim (ι.lent w) st0.h st0.nx w:=⟨λb B S e=>(by cases e),λb e=>(by cases e),λb b' B S S' e=>(by cases e),λb e=>absurd rfl e,
   ⟨⟨k.glob.1.1,λb S e=>(by cases e)⟩,λB vs hB=>by
    refine⟨?_,λb S e=>(by cases e)⟩;rcases QX hB with h1|⟨b,S,_,h1,h2⟩
    ·exact(k.glob.2 B vs h1).1
    ·exact WM k h1 h2⟩⟩
  have h1:=h aZ st0 (ι.lent w) w vs sim0 hva;cases hr:run aZ st0 with
  |no=>trivial
  |ok v s=>
   rw[hr] at h1;dsimp only at h1 ⊢;cases hz:fz 9 s.h v with
   |none=>trivial
   |some p=>
    dsimp only;cases hf:wg p.1 with
    |false=>trivial
    |true=>exact⟨h1.1,Calls.mono h1.2 λe w' ⟨x,e1,hd⟩=>⟨x,e1,GQ k hd hz hf⟩⟩
  |pn v s=>
   rw[hr] at h1;dsimp only at h1 ⊢;cases hz:fz 9 s.h v with
   |none=>trivial
   |some p=>
    dsimp only;cases hf:wg p.1 with
    |false=>trivial
    |true=>exact⟨h1.1,Calls.mono h1.2 λe w' ⟨x,e1,hd⟩=>⟨x,e1,GQ k hd hz hf⟩⟩
end
end Go.Ev
end
noncomputable section
namespace Go.Sy
open Go.Ev Go.RowKit
inductive A where
 |t (x:Nat)
 |c (v:AV)
inductive Ins where
 |mv (x:A)
 |pick (c a b:A)
 |alloc (z:List AV)
 |box (x:A)
 |build (z:List AV) (ps:List ((Nat×Nat)×A))
 |buildS (len s:Nat) (z:List AV) (ps:List ((Nat×Nat)×A))
 |ld1 (a:A)
 |ldA (k:Nat) (a:A)
 |st (k:Nat) (a x:A)
 |nilc (x:A)
 |bin (op:BinOp) (x y:A)
 |shf (op:BinOp) (x y:A)
 |strb (op:BinOp) (x y:A)
 |gen (op:BinOp) (t:TypeId) (c:Bool) (x y:A)
 |un (op:UnOp) (x:A)
 |cvt (k:IntKind) (x:A)
 |conv (s d:TypeId) (x:A)
 |iface (t:TypeId) (x:A)
 |fn (f:FuncId) (caps:List A)
 |mkMap
 |mkS (size bytes:Nat) (z:List AV) (l c:A)
 |slStr (x:A) (lo hi:Option A)
 |slS (sz:Nat) (x:A) (lo hi:Option A)
 |slA (n sz:Nat) (x:A) (lo hi:Option A)
 |sl3 (t:TypeId) (x:A) (lo hi mx:Option A)
 |fad (off:Nat) (x:A)
 |fld1 (off:Nat) (x:A)
 |fldA (off s:Nat) (x:A)
 |idxA (n s:Nat) (x i:A)
 |idxS (s:Nat) (x i:A)
 |ixA1 (n s:Nat) (x i:A)
 |ixAA (n s:Nat) (x i:A)
 |ixStr (x i:A)
 |look (t:TypeId) (m k:A) (ok:Bool)
 |upd (t:TypeId) (m k v:A)
 |range (x:A)
 |next (x:A)
 |assert (x:A) (t:TypeId)
 |ext (x:A) (i:Nat)
 |len (x:A)
 |lenS (x:A)
 |lenM (x:A)
 |app (size bytes:Nat) (s x:A)
 |bi (b:Builtin) (ts:Array TypeId) (l:List A)
 |pan (x:A)
def O (v:AV):OF:=⟨λ_=>v⟩
def E0:Env:=⟨.e,[]⟩
def XN (cells:List AV):List ((Nat×Nat)×AV)->Option (List AV)
 |[]=>some cells
 |((off,size),v) :: rest=>
  cond v.plain (cond (Qci (jP v.cells) size) (cond (Qck (Qcl off size) (jP cells))
   (XN (yS (yi cells off) (yS v.cells (zj cells (Qcl off size)))) rest) none) none) none
def optA (x:Option AV)(d:Nat)(k:Nat->ER):ER:=
 match x with
 |none=>k d
 |some v=>qp v k
section
variable (P:Program) (ρ:A->AV)
def jU (i:Ins)(st:St):ER:=
 match i with
 |.mv x=>.ok (ρ x) st
 |.pick c a b=>Zz (ρ c) λq=>.ok (cond q (ρ a) (ρ b)) st
 |.alloc z=>Ev.newRow st z
 |.box x=>cond (lall AV.cell (ρ x).cells) (Ev.newRow st (ρ x).cells) .no
 |.build z ps=>jR (XN z (ps.map λp=>(p.1,ρ p.2))) λcs=>.ok (.agg cs) st
 |.buildS len s z ps=>jR (XN (qM z len) (ps.map λp=>(p.1,ρ p.2))) λcells=>
  cond (lall AV.cell cells) (force (jP cells) λn=>st.alloc (.row n n cells .e) λb st=>.ok (.slice b 0 len len s true) st) .no
 |.ld1 a=>match ρ a with | .lptr cs o=>cond (Qck (Qcj o) (jP cs)) (.ok (ym .bad cs o) st) .no|a=>q7 a λb o=>yh (jx st.h b) λn zl z cs=>cond (Qck (Qcj o) n) (.ok (qA zl z cs o) st) .no
 |.ldA k a=>match ρ a with | .lptr cs o=>cond (Qck (Qcl o k) (jP cs)) (.ok (.agg (yi (zj cs o) k)) st) .no|a=>q7 a λb o=>yh (jx st.h b) λn zl z cs=>cond (Qck (Qcl o k) n) (.ok (.agg (jT zl z cs k o)) st) .no
 |.st k a x=>q7 (ρ a) λb o=>yh (jx st.h b) λn zl z cs=>
  cond (Qci (jP (ρ x).cells) k) (cond (Qck (Qcl o k) n) (cond (lall AV.cell (ρ x).cells)
   (st.put b (.row n zl z (qj (ρ x).cells cs o)) λst=>.ok qd st) .no) .no) .no
 |.nilc x=>(J7 (O (ρ x))).run E0 st
 |.bin op x y=>match ρ x,ρ y with
  |.int k a,.int k' b=>cond (eqK k k') (jR ((Q4 op).run k a b) λv=>.ok v st) .no
  |_,_=>.no
 |.shf op x y=>match ρ x,ρ y with | .int k a,.int _ b=>jR (Zw op k a b) λv=>.ok v st|_,_=>.no
 |.strb op x y=>match ρ x,ρ y with | .str a,.str b=>jR (vE op a b) λv=>.ok v st|_,_=>.no
 |.gen op t c x y=>(J4 P op t c (O (ρ x)) (O (ρ y))).run E0 st
 |.un op x=>(Yn op (O (ρ x))).run E0 st
 |.cvt k x=>match ρ x with | .int _ n=>.ok (.int k (qY k n)) st|_=>.no
 |.conv s d x=>(JJ P s d (O (ρ x))).run E0 st
 |.iface t x=>.ok (.iface t (ρ x)) st
 |.fn f caps=>.ok (.fn f (caps.map ρ)) st
 |.mkMap=>st.alloc (.map []) λb st=>.ok (.map b) st
 |.mkS size bytes z l c=>qp (ρ l) λl=>qp (ρ c) λc=>
   cond (Qck l c) (cond (Qck (Qcm bytes c) 140737488355328) (cond (Qck c 9223372036854775807)
    (force (Qcm c size) λn=>st.alloc (.row n size z .e) λb st=>.ok (.slice b 0 l c size true) st) .no) .no) .no
 |.slStr x lo hi=>zM (ρ x) λs=>force (jP s) λn=>optA (lo.map ρ) 0 λl=>optA (hi.map ρ) n λh=>
   cond (Qck l h) (cond (Qck h n) (.ok (.str (yi (zj s l) (Qcn h l))) st) .no) .no
 |.slS sz x lo hi=>match ρ x with
  |.nils=>optA (lo.map ρ) 0 λl=>optA (hi.map ρ) 0 λh=>cond (Qci l 0) (cond (Qci h 0) (.ok .nils st) .no) .no
  |.slice b o len cap sz' ex=>optA (lo.map ρ) 0 λl=>optA (hi.map ρ) len λh=>
    cond (Qci sz' sz) (cond (Qck l h) (cond (Qck h cap) (force (Qcn h l) λk=>force (Qcl o (Qcm l sz)) λo=>force (Qcn cap l) λc=>.ok (.slice b o k c sz ex) st) .no) .no) .no
  |.lst n cs=>optA (lo.map ρ) 0 λl=>optA (hi.map ρ) n λh=>
    cond (Qck l h) (cond (Qck h n) (cond (Qck (Qcm h sz) (jP cs)) (.ok (.lst (Qcn h l) (yi (zj cs (Qcm l sz)) (Qcm (Qcn h l) sz))) st) .no) .no) .no
  |_=>.no
 |.slA n sz x lo hi=>q7 (ρ x) λb o=>optA (lo.map ρ) 0 λl=>optA (hi.map ρ) n λh=>
   cond (Qck l h) (cond (Qck h n)
    (force (Qcn h l) λk=>force (Qcl o (Qcm l sz)) λo=>force (Qcn n l) λc=>.ok (.slice b o k c sz true) st) .no) .no
 |.sl3 t x lo hi mx=>(QL P t (O (ρ x)) (lo.map λa=>O (ρ a)) (hi.map λa=>O (ρ a)) (mx.map λa=>O (ρ a))).run E0 st
 |.fad off x=>match ρ x with | .lptr cs o=>.ok (.lptr cs (Qcl o off)) st|a=>q7 a λb o=>force (Qcl o off) λo=>.ok (.ptr b o) st
 |.fld1 off x=>Qh (ρ x) λcs=>cond (Qck (Qcj off) (jP cs)) (.ok (ym .bad cs off) st) .no
 |.fldA off s x=>Qh (ρ x) λcs=>.ok (.agg (yi (zj cs off) s)) st
 |.idxA n s x i=>q7 (ρ x) λb o=>qp (ρ i) λi=>cond (Qck (Qcj i) n) (force (Qcl o (Qcm i s)) λo=>.ok (.ptr b o) st) .no
 |.idxS s x i=>match ρ x with
  |.slice b o len _ _ _=>qp (ρ i) λi=>cond (Qck (Qcj i) len) (force (Qcl o (Qcm i s)) λo=>.ok (.ptr b o) st) .no
  |.lst n cs=>qp (ρ i) λi=>cond (Qck (Qcj i) n) (.ok (.lptr cs (Qcm i s)) st) .no
  |_=>.no
 |.ixA1 n s x i=>Qh (ρ x) λcs=>qp (ρ i) λi=>cond (Qck (Qcj i) n) (cond (Qck (Qcj (Qcm i s)) (jP cs)) (.ok (ym .bad cs (Qcm i s)) st) .no) .no
 |.ixAA n s x i=>Qh (ρ x) λcs=>qp (ρ i) λi=>cond (Qck (Qcj i) n) (.ok (.agg (yi (zj cs (Qcm i s)) s)) st) .no
 |.ixStr x i=>zM (ρ x) λs=>qp (ρ i) λi=>cond (Qck (Qcj i) (jP s)) (.ok (.int .u8 (.ofNat (ym 0 s i))) st) .no
 |.look t m k ok=>(Q9 P t (O (ρ m)) (O (ρ k)) ok).run E0 st
 |.upd t m k v=>(Jb P t (O (ρ m)) (O (ρ k)) (O (ρ v))).run E0 st
 |.range x=>zM (ρ x) λs=>st.alloc (.iter s 0) λb st=>.ok (.ptr b 0) st
 |.next x=>(V6 (O (ρ x))).run E0 st
 |.assert x t=>(Yg P (O (ρ x)) t).run E0 st
 |.ext x i=>match ρ x with | .tup vs=>cond (Qck (Qcj i) (jP vs)) (.ok (ym .bad vs i) st) .no|_=>.no
 |.lenS x=>match ρ x with
  |.str s=>force (jP s) λn=>.ok (.int .i64 (.ofNat n)) st
  |.zstr n=>.ok (.int .i64 (.ofNat n)) st
  |_=>.no
 |.len x=>match ρ x with
  |.nils=>.ok (.int .i64 (.ofNat 0)) st
  |.slice _ _ n _ _ _=>.ok (.int .i64 (.ofNat n)) st
  |.lst n _=>.ok (.int .i64 (.ofNat n)) st
  |_=>.no
 |.lenM x=>match ρ x with | .nilm=>.ok (.int .i64 (.ofNat 0)) st | .map r=>Zh (jx st.h r) λes=>force (jP es) λn=>.ok (.int .i64 (.ofNat n)) st|_=>.no
 |.app size bytes s x=>JN (ρ x) λn=>firstCells st size n (ρ x) λnews=>qS st size bytes (ρ s) n news
 |.bi b ts l=>(qE P b ts (l.map λa=>O (ρ a))).run E0 st
 |.pan x=>match ρ x with | .iface t v=>.pn (.iface t v) st|_=>.no
end
def qP:Operand->Option A
 |.tmp x=>some (.t x)
 |.const v=>some (.c (ofV v))
 |.func f=>some (.c (.fn f []))
 |.global _=>none
def A.val (op:Operand->OF)(env:Env):A->AV
 |.t x=>(op (.tmp x)).run env
 |.c v=>v
structure Fair (op:Operand->OF)(env:Env):Prop where
 const:∀ v,(op (.const v)).run env=ofV v
 func:∀ f,(op (.func f)).run env=.fn f []
theorem jL {op:Operand->OF}{env:Env}(hf:Fair op env){x:Operand}{a:A}(h:qP x=some a):(op x).run env=a.val op env:=by
 cases x with
 |tmp x=>cases h;rfl
 |const v=>cases h;exact hf.const v
 |func f=>cases h;exact hf.func f
 |global g=>cases h
def Z8:List Operand->Option (List A)
 |[]=>some []
 |x :: l=>match qP x,Z8 l with|some a,some ays=>some (a :: ays)|_,_=>none
theorem Wr {op:Operand->OF}{env:Env}(hf:Fair op env):∀ {l:List Operand} {ays:List A},Z8 l=some ays->l.map (λx=>(op x).run env)=ays.map (A.val op env)
 |[],ays,h=>by cases h;rfl
 |x :: l,ays,h=>by
  unfold Z8 at h;cases h1:qP x with
  |none=>rw[h1] at h;cases h
  |some a=>
   cases h2:Z8 l with
   |none=>rw[h1,h2] at h;cases h
   |some bs=>
    rw[h1,h2] at h;cases h;simp only[ζ];rw[jL hf h1,Wr hf h2]
def Wq (place:Nat->Option (Nat×Nat)):List (Nat×Operand)->Option (List ((Nat×Nat)×A))
 |[]=>some []
 |(i,x) :: l=>match place i,qP x,Wq place l with|some p,some a,some ays=>some ((p,a) :: ays)|_,_,_=>none
theorem Wp {op:Operand->OF}{env:Env}(hf:Fair op env){place:Nat->Option (Nat×Nat)}:∀ {l:List (Nat×Operand)} {ays:List ((Nat×Nat)×A)} (cells:List AV),Wq place l=some ays->
  wh cells place (Yv env (ye (λp=>(p.1,op p.2)) l))=XN cells (ays.map λp=>(p.1,p.2.val op env))
 |[],ays,cells,h=>by cases h;rfl
 |(i,x) :: l,ays,cells,h=>by
  unfold Wq at h;cases h0:place i with
  |none=>rw[h0] at h;cases h
  |some p=>
   cases h1:qP x with
   |none=>rw[h0,h1] at h;cases h
   |some a=>
    cases h2:Wq place l with
    |none=>rw[h0,h1,h2] at h;cases h
    |some bs=>
     rw[h0,h1,h2] at h;cases h;have e:Yv env (ye (λp=>(p.1,op p.2)) ((i,x) :: l))=(i,(op x).run env) :: Yv env (ye (λp=>(p.1,op p.2)) l):=rfl;rw[e];simp only[wh,h0,ζ,XN];rw[jL hf h1];simp only[Wp hf _ h2]
def jbf:Option Operand->Option (Option A)
 |none=>some none
 |some x=>(qP x).map some
theorem gN {op:Operand->OF}{env:Env}(hf:Fair op env){x:Option Operand}{a:Option A}(h:jbf x=some a):(x.map λx=>(op x).run env)=a.map (A.val op env):=by
 cases x with
 |none=>cases h;rfl
 |some x=>
  simp only[jbf,QbA] at h;obtain⟨b,h1,rfl⟩:=h;simp[jL hf h1]
theorem yu {op:Operand->OF}{env:Env}(hf:Fair op env){x:Option Operand}{a:Option A}(h:jbf x=some a)(d:Nat)(k:Nat->ER) :
  optF (x.map op) d env k=optA (a.map (A.val op env)) d k:=by
 rw[<-gN hf h];cases x<;>rfl
def XL (P:Program)(o:Op):Option Ins:=
 match o with
 |.move x=>(qP x).map .mv
 |.assign x=>(qP x).map .mv
 |.pick c a b=>(qP c).bind λc=>(qP a).bind λa=>(qP b).map λb=>.pick c a b
 |.alloc t=>(zeroCells P t).bind λz=>cond (lall AV.cell z) (some (.alloc z)) none
 |.box _ x=>(qP x).map .box
 |.build t ps=>(zeroCells P t).bind λz=>(match P.underlying t with
  |some (.struct fields)=>cond (fields.toList.all λf=>(Ev.sizeOf P f.type).isSome) ((Wq (k9 P fields) ps.toList).map λps=>.build z ps) none
  |some (.array _ e)=>(Ev.sizeOf P e).bind λs=>(Wq (λi=>some (Qcm i s,s)) ps.toList).map λps=>.build z ps
  |_=>none)
 |.buildSlice t n ps=>(Ev.elemOf P t).bind λe=>(Ev.sizeOf P e).bind λs=>(zeroCells P e).bind λz=>
  cond (cond (Qck (Qcm n s) 16777216) (Qci (jP z) s) false) ((Wq (λi=>some (Qcm i s,s)) ps.toList).map λps=>.buildS n s z ps) none
 |.load t a=>(qP a).bind λa=>(match Ev.isAgg P t,Ev.sizeOf P t with
  |some true,some k=>some (.ldA k a)
  |some false,some _=>some (.ld1 a)
  |_,_=>none)
 |.store t a x=>(qP a).bind λa=>(qP x).bind λx=>(Ev.sizeOf P t).map λk=>.st k a x
 |.nilCheck x=>(qP x).map .nilc
 |.binOp b t x y _=>(qP x).bind λa=>(qP y).map λa'=>(match P.underlying t with
  |some (.int _)=>(match b with | .shl=>.shf b a a' | .shr=>.shf b a a'|_=>.bin b a a')
  |some .string=>.strb b a a'
  |_=>.gen b t (Region.isConst x ||Region.isConst y) a a')
 |.unOp b _ x=>(qP x).map λx=>.un b x
 |.convert s d x=>(qP x).map λx=>(match P.underlying s,P.underlying d with
  |some (.int _),some (.int k)=>.cvt k x
  |_,_=>.conv s d x)
 |.makeInterface t x=>(qP x).bind λx=>(match P.underlying t with|some (.interface _)=>none|some _=>some (.iface t x)|none=>none)
 |.makeFunc (.func f) first caps=>(match first.toList with|[]=>(Z8 caps.toList).map λl=>.fn f l|_=>none)
 |.makeMap _ none=>some .mkMap
 |.makeSlice t l c=>(qP l).bind λl=>(qP c).bind λc=>(Ev.elemOf P t).bind λe=>(P.info? e).bind λi=>(zeroCells P e).bind λz=>
  cond (cond (lall AV.cell z) (Qci (jP z) i.size) false) (some (.mkS i.size i.bytes z l c)) none
 |.slice t x lo hi mx=>(qP x).bind λx=>(jbf lo).bind λlo=>(jbf hi).bind λhi=>(match mx with
  |some mx=>(qP mx).map λmx=>.sl3 t x lo hi (some mx)
  |none=>(match P.underlying t with
   |some .string=>some (.slStr x lo hi)
   |some (.slice e)=>(Ev.sizeOf P e).map λsz=>.slS sz x lo hi
   |some (.array n e)=>(Ev.sizeOf P e).map λsz=>.slA n sz x lo hi
   |_=>none))
 |.fieldAddr s x f=>(qP x).bind λx=>(match P.underlying s with
  |some (.struct fields)=>(fields[f]?).bind λf=>(match Ev.sizeOf P f.type with|some (_+1)=>some (.fad f.offset x)|_=>none)
  |_=>none)
 |.field s x f=>(qP x).bind λx=>(match P.underlying s with
  |some (.struct fields)=>(fields[f]?).bind λf=>(match Ev.isAgg P f.type,Ev.sizeOf P f.type with
   |some true,some s=>some (.fldA f.offset s x)
   |some false,_=>some (.fld1 f.offset x)
   |_,_=>none)
  |_=>none)
 |.indexAddr t x i=>(qP x).bind λx=>(qP i).bind λi=>(match P.underlying t with
  |some (.array n e)=>(Ev.sizeOf P e).map λs=>.idxA n s x i
  |some (.slice e)=>(Ev.sizeOf P e).map λs=>.idxS s x i
  |_=>none)
 |.index t x i=>(qP x).bind λx=>(qP i).bind λi=>(match P.underlying t with
  |some (.array n e)=>(match Ev.isAgg P e,Ev.sizeOf P e with
   |some true,some s=>some (.ixAA n s x i)
   |some false,some s=>some (.ixA1 n s x i)
   |_,_=>none)
  |some .string=>some (.ixStr x i)
  |_=>none)
 |.lookup t m k ok=>(qP m).bind λm=>(qP k).map λk=>.look t m k ok
 |.mapUpdate t m k v=>(qP m).bind λm=>(qP k).bind λk=>(qP v).map λv=>.upd t m k v
 |.range t x=>(qP x).bind λx=>(match P.underlying t with|some .string=>some (.range x)|_=>none)
 |.next it true=>(qP it).map .next
 |.typeAssert x _ t true=>(qP x).map λx=>.assert x t
 |.extract x i=>(qP x).map λx=>.ext x i
 |.call c=>(match c.callee with
  |.builtin b=>(Z8 c.args.toList).bind λl=>(match b,l,c.argTypes.toList with
   |.len,[x],t :: _=>(match P.underlying t with
    |some .string=>some (.lenS x)
    |some (.slice _)=>some (.len x)
    |some (.map _ _)=>some (.lenM x)
    |_=>some (.bi b c.argTypes l))
   |.append,[s,x],t :: u :: _=>(Ev.elemOf P t).bind λe=>(P.info? e).bind λi=>(zeroCells P e).bind λz=>
     cond (cond (lall AV.cell z) (Qci (jP z) i.size) false) (match P.underlying u with
      |some (.slice _)=>some (.app i.size i.bytes s x)
      |some .string=>some (.app i.size i.bytes s x)
      |_=>some (.bi b c.argTypes l)) none
   |_,_,_=>some (.bi b c.argTypes l))
  |_=>none)
 |.panic x=>(qP x).map .pan
 |_=>none
section
variable {P:Program} {op:Operand->OF} {env:Env} {st:St}
theorem bind_some {α β:Type}{x:Option α}{f:α->Option β}{b:β}(h:x.bind f=some b):∃ a,x=some a/\f a=some b:=by
 cases x with
 |none=>cases h
 |some a=>exact⟨a,rfl,h⟩
theorem map_some {α β:Type}{x:Option α}{f:α->β}{b:β}(h:x.map f=some b):∃ a,x=some a/\f a=b:=by
 cases x with
 |none=>cases h
 |some a=>cases h;exact⟨a,rfl,rfl⟩
theorem JF {b:Bool}{α:Type}{x:Option α}{y:α}(h:cond b x none=some y):b=true/\x=some y:=by
 cases b
 ·cases h
 ·exact⟨rfl,h⟩
theorem GN {t:TypeId}{k:Nat}{a:OF}(h1:Ev.isAgg P t=some true)(h2:Ev.sizeOf P t=some k) :
  (Yy P t a).run env st=(match a.run env with | .lptr cs o=>cond (Qck (Qcl o k) (jP cs)) (.ok (.agg (yi (zj cs o) k)) st) .no|a=>q7 a λb o=>yh (jx st.h b) λn zl z cs=>cond (Qck (Qcl o k) n) (.ok (.agg (jT zl z cs k o)) st) .no):=by
 unfold Yy qQ;rw[h1,h2];dsimp only;generalize a.run env=v;cases v<;>try rfl
 rotate_left
 ·rename_i cs o;dsimp only;cases Qck (Qcl o k) (jP cs)<;>rfl
 rename_i b o;simp only[q7,yh];cases jx st.h b with
 |none=>rfl
 |some ob=>
  cases ob<;>try rfl
  rename_i n zl z cs;dsimp only;cases Qck (Qcl o k) n<;>rfl
theorem GM {t:TypeId}{k:Nat}{a:OF}(h1:Ev.isAgg P t=some false)(h2:Ev.sizeOf P t=some k) :
  (Yy P t a).run env st=(match a.run env with | .lptr cs o=>cond (Qck (Qcj o) (jP cs)) (.ok (ym .bad cs o) st) .no|a=>q7 a λb o=>yh (jx st.h b) λn zl z cs=>cond (Qck (Qcj o) n) (.ok (qA zl z cs o) st) .no):=by
 unfold Yy qQ;rw[h1,h2];dsimp only;generalize a.run env=v;cases v<;>try rfl
 rotate_left
 ·rename_i cs o;dsimp only;cases Qck (Qcj o) (jP cs)<;>rfl
 rename_i b o;simp only[q7,yh];cases jx st.h b with
 |none=>rfl
 |some ob=>
  cases ob<;>try rfl
  rename_i n zl z cs;dsimp only;cases Qck (Qcj o) n<;>rfl
theorem jg1 (t:TypeId)(m k:OF)(ok:Bool):(Q9 P t m k ok).run env st=(Q9 P t (O (m.run env)) (O (k.run env)) ok).run E0 st:=by
 unfold Q9;split
 ·split<;>rfl
 ·rfl
theorem jbc (t:TypeId)(m k v:OF):(Jb P t m k v).run env st=(Jb P t (O (m.run env)) (O (k.run env)) (O (v.run env))).run E0 st:=by
 unfold Jb;split<;>rfl
theorem jmz (x:OF):(V6 x).run env st=(V6 (O (x.run env))).run E0 st:=rfl
theorem jcr (x:OF):(J7 x).run env st=(J7 (O (x.run env))).run E0 st:=rfl
theorem jhY (x:OF)(t:TypeId):(Yg P x t).run env st=(Yg P (O (x.run env)) t).run E0 st:=by
 unfold Yg;split
 ·rfl
 ·split<;>rfl
theorem jmh (b:UnOp)(x:OF):(Yn b x).run env st=(Yn b (O (x.run env))).run E0 st:=by
 unfold Yn;cases b<;>rfl
theorem jfp (s d:TypeId)(x:OF):(JJ P s d x).run env st=(JJ P s d (O (x.run env))).run E0 st:=by
 unfold JJ;split
 ·rfl
 ·rfl
 ·split<;>rfl
 ·split<;>rfl
 ·rfl
theorem jkx (b:BinOp)(t:TypeId)(c:Bool)(x y:OF):(J4 P b t c x y).run env st=(J4 P b t c (O (x.run env)) (O (y.run env))).run E0 st:=by
 unfold J4;split
 ·split<;>rfl
 ·split<;>rfl
 ·rfl
 ·cases P.eqGuardType P.depth t
  ·simp only[cond_false];split<;>rfl
  ·rfl
theorem jjI (t:TypeId)(x:OF)(lo hi mx:Option OF) :
  (QL P t x lo hi mx).run env st=(QL P t (O (x.run env)) (lo.map λa=>O (a.run env)) (hi.map λa=>O (a.run env)) (mx.map λa=>O (a.run env))).run E0 st:=by
 unfold QL;cases mx<;>cases hi<;>cases lo<;>simp only[Qaw,QaZ];all_goals
  split
  ·rfl
  ·split<;>rfl
  ·split<;>rfl
  ·rfl
theorem jpD (t:TypeId)(x:OF):(ZI P t x).run env st=(ZI P t (O (x.run env))).run E0 st:=by
 unfold ZI;split<;>rfl
theorem jqr (t:TypeId)(x:OF):(Vz P t x).run env st=(Vz P t (O (x.run env))).run E0 st:=by
 unfold Vz;split<;>rfl
theorem jhZ (t u:TypeId)(s x:OF):(Qx P t u s x).run env st=(Qx P t u (O (s.run env)) (O (x.run env))).run E0 st:=by
 unfold Qx;split
 ·split
  ·generalize cond _ _ false=cc;cases cc
   ·rfl
   ·simp only[cond_true];split<;>rfl
  ·rfl
 ·rfl
theorem jm0 (t:TypeId)(s x:OF):(WE P t s x).run env st=(WE P t (O (s.run env)) (O (x.run env))).run E0 st:=by
 unfold WE;split
 ·split<;>rfl
 ·rfl
theorem jg3 (l:List OF):ye (λx:OF=>x.run E0) (l.map λa=>O (a.run env))=ye (λx:OF=>x.run env) l:=by
 rw[yE,yE,QaW];rfl
theorem jfv (b:Builtin)(ts:Array TypeId)(l:List OF):(qE P b ts l).run env st=(qE P b ts (l.map λa=>O (a.run env))).run E0 st:=by
 unfold qE;cases b;case len=>rcases l with _|⟨x,_|⟨y,l⟩⟩<;>cases ts.toList<;>first|rfl|exact jpD _ _
 case cap=>rcases l with _|⟨x,_|⟨y,l⟩⟩<;>cases ts.toList<;>first|rfl|exact jqr _ _
 case append=>rcases l with _|⟨x,_|⟨y,_|⟨z,l⟩⟩⟩<;>rcases ts.toList with _|⟨t,_|⟨u,r⟩⟩<;>first|rfl|exact jhZ _ _ _ _
 case copy=>rcases l with _|⟨x,_|⟨y,_|⟨z,l⟩⟩⟩<;>cases ts.toList<;>first|rfl|exact jm0 _ _ _
 case min=>
  cases l with
  |nil=>rfl
  |cons x l=>
   show(jR (QH min2 (x.run env) (ye (λx:OF=>x.run env) l)) λv=>ER.ok v st)=jR (QH min2 (x.run env) (ye (λx:OF=>x.run E0) (l.map λa=>O (a.run env)))) λv=>ER.ok v st;rw[jg3]
 case max=>
  cases l with
  |nil=>rfl
  |cons x l=>
   show(jR (QH max2 (x.run env) (ye (λx:OF=>x.run env) l)) λv=>ER.ok v st)=jR (QH max2 (x.run env) (ye (λx:OF=>x.run E0) (l.map λa=>O (a.run env)))) λv=>ER.ok v st;rw[jg3]
 all_goals(rcases l with _|⟨x,_|⟨y,_|⟨z,l⟩⟩⟩<;>rfl)
theorem jj5 (hf:Fair op env){o:Op}{i:Ins}(h:XL P o=some i):(jy P op o).run env st=jU P (A.val op env) i st:=by
 cases o<;>simp only[XL] at h<;>try(cases h;done)
 case move x=>obtain⟨a,h1,rfl⟩:=map_some h;simp only[jy,jU,jL hf h1]
 case assign x=>obtain⟨a,h1,rfl⟩:=map_some h;simp only[jy,jU,jL hf h1]
 case pick c a b=>
  obtain⟨c',h1,h⟩:=bind_some h;obtain⟨a',h2,h⟩:=bind_some h;obtain⟨b',h3,rfl⟩:=map_some h;simp only[jy,jU,jL hf h1,jL hf h2,jL hf h3];try rfl
 case alloc t=>
  obtain⟨z,h1,h⟩:=bind_some h;obtain⟨h2,h⟩:=JF h;cases h;simp only[jy,jU,h1,h2,cond_true];try rfl
 case box t x=>obtain⟨a,h1,rfl⟩:=map_some h;simp only[jy,jU,jL hf h1]
 case build t ps=>
  obtain⟨z,h1,h⟩:=bind_some h;simp only[jy,VB,h1];split at h
  ·rename_i fields hu;obtain⟨h2,h⟩:=JF h;obtain⟨l,h3,rfl⟩:=map_some h;simp only[hu,h2,cond_true,jU];rw[Wp hf z h3]
  ·rename_i n e hu;obtain⟨s,h2,h⟩:=bind_some h;obtain⟨l,h3,rfl⟩:=map_some h;simp only[hu,h2,jU];rw[Wp hf z h3]
  ·cases h
 case buildSlice t n ps=>
  obtain⟨e,h1,h⟩:=bind_some h;obtain⟨s,h2,h⟩:=bind_some h;obtain⟨z,h3,h⟩:=bind_some h;obtain⟨h4,h⟩:=JF h;obtain⟨l,h5,rfl⟩:=map_some h;simp only[jy,Zs,h1,h2,h3,h4,cond_true,jU];try rfl
  rw[Wp hf _ h5]
 case load t a=>
  obtain⟨a',h1,h⟩:=bind_some h;simp only[jy];split at h
  ·rename_i k h2 h3;cases h;rw[GN h2 h3,jL hf h1];rfl
  ·rename_i k h2 h3;cases h;rw[GM h2 h3,jL hf h1];rfl
  ·cases h
 case store t a x=>
  obtain⟨a',h1,h⟩:=bind_some h;obtain⟨x',h2,h⟩:=bind_some h;obtain⟨k,h3,rfl⟩:=map_some h;simp only[jy,jaJ,h3,jU,jL hf h1,jL hf h2];try rfl
 case nilCheck x=>
  obtain⟨a,h1,rfl⟩:=map_some h;simp only[jy,jU];try rfl
  rw[jcr,jL hf h1]
 case binOp b t x y c=>
  obtain⟨a,h1,h⟩:=bind_some h;obtain⟨a',h2,rfl⟩:=map_some h;simp only[jy];split
  ·rename_i k hu;split
   ·simp only[J4,hu,jU,jL hf h1,jL hf h2];try rfl
   ·simp only[J4,hu,jU,jL hf h1,jL hf h2];try rfl
   ·rename_i hn1 hn2;unfold J4;rw[hu];dsimp only;cases b<;>first|(exact absurd rfl hn1)|(exact absurd rfl hn2)|(simp only[jU,jL hf h1,jL hf h2];try rfl)
  ·rename_i hu;simp only[J4,hu,jU,jL hf h1,jL hf h2];try rfl
   try rfl
  ·simp only[jU];rw[jkx,jL hf h1,jL hf h2]
 case unOp b t x=>
  obtain⟨a,h1,rfl⟩:=map_some h;simp only[jy,jU];try rfl
  rw[jmh,jL hf h1]
 case convert s d x=>
  obtain⟨a,h1,rfl⟩:=map_some h;simp only[jy];split
  ·rename_i k1 k2 hu1 hu2;simp only[JJ,hu1,hu2,jU,jL hf h1];try rfl
  ·simp only[jU];rw[jfp,jL hf h1]
 case makeInterface t x=>
  obtain⟨a,h1,h⟩:=bind_some h;simp only[jy];split at h
  ·cases h
  ·rename_i hu hn;cases h;split
   ·rename_i hu2;rw[hu2] at hn;cases hn;exact absurd rfl (hu _)
   ·simp only[jU,jL hf h1]
   ·rename_i hu2;rw[hu2] at hn;cases hn
  ·cases h
 case makeFunc f first caps=>
  cases f<;>simp only[XL] at h<;>try(cases h;done)
  split at h
  ·rename_i hfst;obtain⟨l,h1,rfl⟩:=map_some h;simp only[jy,hfst,jU,yE,Wr hf h1];try rfl
  ·cases h
 case makeMap t r=>
  cases r<;>simp only[XL] at h<;>try(cases h;done)
  cases h;rfl
 case makeSlice t l c=>
  obtain⟨l',h1,h⟩:=bind_some h;obtain⟨c',h2,h⟩:=bind_some h;obtain⟨e,h3,h⟩:=bind_some h;obtain⟨i,h4,h⟩:=bind_some h;obtain⟨z,h5,h⟩:=bind_some h;obtain⟨h6,h⟩:=JF h;cases h;simp only[jy,Z7,h3,h4,h5,h6,cond_true,jU,jL hf h1,jL hf h2];try rfl
 case slice t x lo hi mx=>
  obtain⟨x',h1,h⟩:=bind_some h;obtain⟨lo',h2,h⟩:=bind_some h;obtain⟨hi',h3,h⟩:=bind_some h;simp only[jy];cases mx with
  |some mx=>
   obtain⟨mx',h4,rfl⟩:=map_some h;rw[jjI];simp only[jU,jL hf h1,Option.map_map,Qaw,jL hf h4];have e1:(lo.map ((λa=>O (a.run env)) ∘ op))=lo'.map λa=>O (A.val op env a):=by
    have:=congrArg (Option.map O) (gN hf h2);simpa[Option.map_map,QbW] using this
   have e2:(hi.map ((λa=>O (a.run env)) ∘ op))=hi'.map λa=>O (A.val op env a):=by
    have:=congrArg (Option.map O) (gN hf h3);simpa[Option.map_map,QbW] using this
   rw[e1,e2]
  |none=>
   simp only[QaZ];dsimp only at h;split at h
   ·rename_i hu;cases h;simp only[QL,hu,jU,jL hf h1,yu hf h2,yu hf h3];try rfl
   ·rename_i e hu;obtain⟨sz,h5,rfl⟩:=map_some h;simp only[QL,hu,h5,jU,jL hf h1,yu hf h2,yu hf h3];try rfl
   ·rename_i n e hu;obtain⟨sz,h5,rfl⟩:=map_some h;simp only[QL,hu,h5,jU,jL hf h1,yu hf h2,yu hf h3];try rfl
   ·cases h
 case fieldAddr s x f=>
  obtain⟨x',h1,h⟩:=bind_some h;split at h
  ·rename_i fields hu;obtain⟨fl,h2,h⟩:=bind_some h;split at h
   ·rename_i n h3;cases h;simp only[jy,YC,hu,h2,h3,jU,jL hf h1];generalize A.val op env x'=u;cases u<;>rfl
   ·cases h
  ·cases h
 case field s x f=>
  obtain⟨x',h1,h⟩:=bind_some h;split at h
  ·rename_i fields hu;obtain⟨fl,h2,h⟩:=bind_some h;split at h
   ·rename_i s' h3 h4;cases h;simp only[jy,uL,hu,h2,jU,jL hf h1,zp,h3,h4,QaT,cond_true,Qaw];try rfl
    try rfl
   ·rename_i h3;cases h;simp only[jy,uL,hu,h2,jU,jL hf h1,zp,h3,QaT,cond_false];try rfl
    congr 1
    funext cs
    cases Qck (Qcj fl.offset) (jP cs)<;>rfl
   ·cases h
  ·cases h
 case indexAddr t x i=>
  obtain⟨x',h1,h⟩:=bind_some h;obtain⟨i',h2,h⟩:=bind_some h;split at h
  ·rename_i n e hu;obtain⟨s,h3,rfl⟩:=map_some h;simp only[jy,Xc,hu,h3,jU,jL hf h1,jL hf h2];try rfl
  ·rename_i e hu;obtain⟨s,h3,rfl⟩:=map_some h;simp only[jy,Xc,hu,h3,jU,jL hf h1,jL hf h2];try rfl
  ·cases h
 case index t x i=>
  obtain⟨x',h1,h⟩:=bind_some h;obtain⟨i',h2,h⟩:=bind_some h;split at h
  ·rename_i n e hu;split at h
   ·rename_i s h3 h4;cases h;simp only[jy,vb,hu,h4,jU,jL hf h1,jL hf h2,zp,h3,QaT,cond_true,Qaw];try rfl
    try rfl
   ·rename_i s h3 h4;cases h;simp only[jy,vb,hu,h4,jU,jL hf h1,jL hf h2,zp,h3,QaT,cond_false];try rfl
    congr 1
    funext cs
    congr 1
    funext j
    congr 1
    cases Qck (Qcj (Qcm j s)) (jP cs)<;>rfl
   ·cases h
  ·rename_i hu;cases h;simp only[jy,vb,hu,jU,jL hf h1,jL hf h2];try rfl
  ·cases h
 case lookup t m k ok=>
  obtain⟨m',h1,h⟩:=bind_some h;obtain⟨k',h2,rfl⟩:=map_some h;simp only[jy,jU];try rfl
  rw[jg1,jL hf h1,jL hf h2]
 case mapUpdate t m k v=>
  obtain⟨m',h1,h⟩:=bind_some h;obtain⟨k',h2,h⟩:=bind_some h;obtain⟨v',h3,rfl⟩:=map_some h;simp only[jy,jU];try rfl
  rw[jbc,jL hf h1,jL hf h2,jL hf h3]
 case range t x=>
  obtain⟨x',h1,h⟩:=bind_some h;split at h
  ·rename_i hu;cases h;simp only[jy,hu,jU,jL hf h1];try rfl
  ·cases h
 case next it s=>
  cases s<;>simp only[XL] at h<;>try(cases h;done)
  obtain⟨x',h1,rfl⟩:=map_some h;simp only[jy,jU];try rfl
  rw[jmz,jL hf h1]
 case panic x=>
  obtain⟨a,h1,rfl⟩:=Go.Sy.map_some h;simp only[jy,jU,jL hf h1];try rfl
 case typeAssert x s t ok=>
  cases ok<;>simp only[XL] at h<;>try(cases h;done)
  obtain⟨x',h1,rfl⟩:=map_some h;simp only[jy,jU];try rfl
  rw[jhY,jL hf h1]
 case extract x i=>
  obtain⟨x',h1,rfl⟩:=map_some h;simp only[jy,jU,jL hf h1];try rfl
 case call c=>
  split at h
  ·rename_i b hb;obtain⟨l,h1,h⟩:=bind_some h;have hl:=Wr hf h1;have gen:(jy P op (.call c)).run env st=(qE P b c.argTypes (l.map λa=>O (A.val op env a))).run E0 st:=by
    simp only[jy,hb];rw[jfv,yE,QaW]
    congr 2
    have:=congrArg (List.map O) hl;simpa[QaW,QbW] using this
   rw[gen];split at h
   ·rename_i x t r hts hts2;have hb1:∀ v:AV,(qE P .len c.argTypes [O v]).run E0 st=(ZI P t (O v)).run E0 st:=by
     intro v;unfold qE;rw[hts]
    simp only[ζ,η];split at h
    ·rename_i hu;cases h;rw[hb1];unfold ZI;rw[hu];rfl
    ·rename_i e hu;cases h;rw[hb1];unfold ZI;rw[hu];rfl
    ·rename_i k e hu;cases h;rw[hb1];unfold ZI;rw[hu];rfl
    ·cases h;rfl
   ·rename_i s x t u r hts hts2;obtain⟨e,h2,h⟩:=bind_some h;obtain⟨i',h3,h⟩:=bind_some h;obtain⟨z,h4,h⟩:=bind_some h;obtain⟨h5,h⟩:=JF h;have hb1:∀ v v':AV,(qE P .append c.argTypes [O v,O v']).run E0 st=(Qx P t u (O v) (O v')).run E0 st:=by
     intro v v';unfold qE;rw[hts]
    simp only[ζ,η];split at h
    ·rename_i e' hu;cases h;rw[hb1];unfold Qx;simp only[h2,h3,h4,h5,cond_true,hu];rfl
    ·rename_i hu;cases h;rw[hb1];unfold Qx;simp only[h2,h3,h4,h5,cond_true,hu];rfl
    ·cases h;rfl
   ·cases h;rfl
  ·cases h
end
inductive IC where
 |i (i:Ins)
 |call (f:A) (l:List A)
inductive RV where
 |t (x:Nat)
 |c1 (a:Nat)
 |cA (a k:Nat)
def jj6 (ops:Array Oper)(o:Oper):Option (Option (Nat×Bool)):=
 match o.guard with
 |none=>some none
 |some (j,want)=>((ops[j]?).bind (·.dst)).map λd=>some (d,want)
def jbe (P:Program)(o:Op):Option (Option (Option A)):=
 match jV P o with
 |.pure=>some none
 |.makes=>some none
 |.reads=>(match o with | .load _ a=>(qP a).map λa=>some (some a)|_=>none)
 |.writes=>some (some none)
 |.other=>some (some none)
def calm (P:Program)(ops:Array Oper):Nat->List Oper->Bool
 |_,[]=>true
 |i,o :: l=>cond (yK P ops i o) false (cond (Ev.partners P ops (qx i) i o).isEmpty (calm P ops (i+1) l) false)
def jj4 (P:Program):ResultVar->Option RV
 |.tmp t=>some (.t t)
 |.cell a t=>(match Ev.isAgg P t,Ev.sizeOf P t with
  |some true,some k=>some (.cA a k)
  |some false,some _=>some (.c1 a)
  |_,_=>none)
def Km (P:Program):List ResultVar->Option (List RV)
 |[]=>some []
 |r :: l=>(jj4 P r).bind λr=>(Km P l).map λl=>r :: l
abbrev Sl:=List (Nat×AV)
def look (x:Nat):Sl->AV
 |[]=>.bad
 |(k,v) :: L=>cond (Qci k x) v (look x L)
def has (x:Nat):Sl->Bool
 |[]=>false
 |(k,_) :: L=>cond (Qci k x) true (has x L)
structure En where
 l:Sl
 g:Sl
def En.look (e:En)(x:Nat):AV:=cond (has x e.l) (Sy.look x e.l) (Sy.look x e.g)
def En.has (e:En)(x:Nat):Bool:=cond (Sy.has x e.l) true (Sy.has x e.g)
def vl (e:En):A->AV
 |.t x=>e.look x
 |.c v=>v
def okA (e:En):A->Bool
 |.t x=>e.has x
 |.c _=>true
def ya (dst:Option Nat)(keep:Bool)(v:AV)(e:En):En:=
 match dst with
 |some d=>⟨(d,v) :: e.l,cond keep ((d,v) :: e.g) e.g⟩
 |none=>e
def oA (x:Option A):List A:=match x with|some a=>[a]|none=>[]
def ZL:Ins->List A
 |.mv x=>[x] | .pick c a b=>[c,a,b] | .alloc _=>[] | .box x=>[x] | .build _ ps=>ps.map (·.2) | .buildS _ _ _ ps=>ps.map (·.2)
 |.ld1 a=>[a] | .ldA _ a=>[a] | .st _ a x=>[a,x] | .nilc x=>[x] | .bin _ x y=>[x,y] | .shf _ x y=>[x,y] | .strb _ x y=>[x,y] | .gen _ _ _ x y=>[x,y]
 |.un _ x=>[x] | .cvt _ x=>[x] | .conv _ _ x=>[x] | .iface _ x=>[x] | .fn _ l=>l | .mkMap=>[] | .mkS _ _ _ l c=>[l,c]
 |.slStr x lo hi=>x :: (oA lo ++ oA hi) | .slS _ x lo hi=>x :: (oA lo ++ oA hi) | .slA _ _ x lo hi=>x :: (oA lo ++ oA hi) | .sl3 _ x lo hi mx=>x :: (oA lo ++ oA hi ++ oA mx)
 |.fad _ x=>[x] | .fld1 _ x=>[x] | .fldA _ _ x=>[x] | .idxA _ _ x i=>[x,i] | .idxS _ x i=>[x,i] | .ixA1 _ _ x i=>[x,i] | .ixAA _ _ x i=>[x,i] | .ixStr x i=>[x,i]
 |.look _ m k _=>[m,k] | .upd _ m k v=>[m,k,v] | .range x=>[x] | .next x=>[x] | .assert x _=>[x] | .ext x _=>[x] | .len x=>[x] | .lenS x=>[x] | .lenM x=>[x]
 |.app _ _ s x=>[s,x] | .bi _ _ l=>l | .pan x=>[x]
abbrev Res {α:Sort _}(_:α):Type:=Prop
def ji (r:ER)(K:AV->St->Prop):Res K:=
 match r with
 |.ok v st=>K v st
 |_=>False
def wI (P:Program)(i:Ins)(e:En)(st:St)(K:AV->St->Prop):Res (i,K):=
 (ZL i).all (okA e)=true/\ji (jU P (vl e) i st) K
structure Bs where
 run:qF
 pur:FuncId->Nat
structure Bs.at0 (base:Bs)(f:FuncId)(args:List AV)(st:St):Prop where
 run:base.run f args st=.no
 pur:base.pur f=0
def vN (m:Nat)(run:List AV->St->ER)(args:List AV)(st:St):ER:=
 match m with
 |0=>run args st
 |1=>HN run args st
 |3=>HW run args st
 |5=>H6 run args st
 |_=>jeS run args st
theorem jmE {P:Program}{f:FuncId}{run:List AV->St->ER}(h:Xk P f run)(m:Nat):Xk P f (vN m run):=by
 unfold vN;split
 ·exact h
 ·exact jmx h
 ·exact jj1 h
 ·exact jmL h
 ·exact jpI h
def evC (P:Program)(base:Bs)(n:Nat):Nat->qF
 |0=>λ_ _ _=>.no
 |d+1=>λf args st=>match base.run f args st with
  |.no=>vN (base.pur f) (λargs st=>(Xj P f).run (evC P base n d) n args st) args st
  |r=>r
theorem jhD {P:Program}(hok:okP P=true)(hdraw:YM P){base:Bs}(hb:Jq P base.run)(n:Nat):∀ d,Jq P (evC P base n d)
 |0=>λf args st ι w vs _ _=>trivial
 |d+1=>λf args st ι w vs hs hv=>by
  have h1:=hb f args st ι w vs hs hv;have h0:Xk P f λargs st=>(Xj P f).run (evC P base n d) n args st:=λargs st ι w vs hs hv=>jbU hok (jhD hok hdraw hb n d) hdraw n f args st ι w vs hs hv;have h2:=jmE h0 (base.pur f) args st ι w vs hs hv;show match evC P base n (d+1) f args st with | .no=>True | .ok v st'=>_ | .pn v st'=>_
  simp only[evC];cases hr:base.run f args st with
  |no=>exact h2
  |ok v st'=>rw[hr] at h1;exact h1
  |pn v st'=>rw[hr] at h1;exact h1
def CW (P:Program)(base:Bs)(f:FuncId)(args:List AV)(st:St)(K:AV->St->Prop):Res K:=
 ∃ v st',(∃ N D,∀ n,N<=n->∀ d,D<=d->evC P base n d f args st=.ok v st')/\K v st'
theorem CW.mono {P:Program}{base:Bs}{f:FuncId}{args:List AV}{st:St}{K K':AV->St->Prop}(h:CW P base f args st K)(hk:∀ v st',K v st'->K' v st'):CW P base f args st K':=by
 obtain⟨v,st',h1,h2⟩:=h;exact⟨v,st',h1,hk v st' h2⟩
section
variable (P:Program) (base:Bs)
def jrh (f:A)(l:List A)(e:En)(st:St)(K:AV->St->Prop):Res K:=
 okA e f=true/\l.all (okA e)=true/\(match vl e f with
  |.fn f caps=>CW P base f (l.map (vl e) ++ caps) st λv st'=>K v (back st st')
  |_=>False)
def wK (k:IC)(e:En)(st:St)(K:AV->St->Prop):Res (k,K):=
 match k with
 |.i i=>wI P i e st K
 |.call f l=>jrh P base f l e st K
def gW (g:Option (Nat×Bool))(e:En)(a b:Prop):Res (a,b):=
 match g with
 |none=>a
 |some (x,want)=>e.has x=true/\(match e.look x with | .bool q=>(match q == want with|true=>a|false=>b) | .bad=>False|_=>b)
def teW (te:Option (Option A))(e:En)(v:AV)(st st':St):TE:=
 match te with
 |none=>.none
 |some none=>.wr st.h st'.h
 |some (some a)=>.rd (vl e a) v
inductive Out where
 |go (L:Sl) (st:St)
 |ex (id:Nat) (L:Sl) (st:St)
 |rt (L:Sl) (st:St)
def Jv (k:Sl->St->Prop)(Q:Out->Prop):Out->Res (k,Q)
 |.go L st=>k L st
 |o=>Q o
def yt (id:Nat)(Q:Out->Prop):Out->Res Q
 |.ex i L st=>cond (Qci i id) (Q (.go L st)) (Q (.ex i L st))
 |o=>Q o
def vU (v:AV)(a b:Prop):Res (a,b):=match v with | .bool true=>a | .bool false=>b|_=>False
def uZ (w:Sl->St->(Out->Prop)->Prop):Nat->Sl->St->(Out->Prop)->Prop
 |0,_,_,_=>False
 |n+1,L,st,Q=>w L st (Jv (λL' st'=>uZ w n L' st' Q) Q)
def jaU (r:RV)(L:Sl)(st:St)(K:AV->Prop):Res K:=
 match r with
 |.t x=>has x L=true/\K (look x L)
 |.c1 a=>has a L=true/\ji (jU P (λ_=>look a L) (.ld1 (.t a)) st) λv _=>K v
 |.cA a k=>has a L=true/\ji (jU P (λ_=>look a L) (.ldA k (.t a)) st) λv _=>K v
def yo:(l:List RV)->Sl->St->(K:List AV->Prop)->Res (l,K)
 |[],L,st,K=>K []
 |r :: l,L,st,K=>jaU P r L st λv=>yo l L st λvs=>K (v :: vs)
def QZ (res:List RV)(K:AV->St->Prop):Out->Res K
 |.go L st=>yo P res L st λvs=>K (zq vs) st.bare
 |.rt L st=>yo P res L st λvs=>K (zq vs) st.bare
 |.ex _ _ _=>False
def jh (ps:List Nat)(args:List AV):Sl:=ps.map λi=>(i,args.getD i qd)
end
theorem jgZ {ρ ρ':A->AV}{ps:List ((Nat×Nat)×A)}(h:∀ a∈ps.map (·.2),ρ a=ρ' a):(ps.map λp=>(p.1,ρ p.2))=ps.map λp=>(p.1,ρ' p.2):=
 QaX λp hp=>by rw[h p.2 (QaL.2 ⟨p,hp,rfl⟩)]
theorem uH {ρ ρ':A->AV}{x:Option A}(h:∀ a∈oA x,ρ a=ρ' a):x.map ρ=x.map ρ':=by
 cases x with
 |none=>rfl
 |some a=>simp[h a (by simp[oA])]
theorem jbb {ρ ρ':A->AV}{x:Option A}(h:∀ a∈oA x,ρ a=ρ' a):(x.map λa=>O (ρ a))=x.map λa=>O (ρ' a):=by
 cases x with
 |none=>rfl
 |some a=>simp[h a (by simp[oA])]
theorem jcw {P:Program}{ρ ρ':A->AV}{i:Ins}{st:St}(h:∀ a∈ZL i,ρ a=ρ' a):jU P ρ i st=jU P ρ' i st:=by
 cases i<;>simp only[ZL] at h<;>simp only[jU];case build z ps=>rw[jgZ h]
 case buildS len s z ps=>rw[jgZ h]
 case fn f l=>rw[QaX h]
 case bi b ts l=>
  have:(l.map λa=>O (ρ a))=l.map λa=>O (ρ' a):=QaX λa ha=>by rw[h a ha]
  rw[this]
 case slStr x lo hi=>rw[h x (by simp),uH (x:=lo) λa ha=>h a (by simp[ha]),uH (x:=hi) λa ha=>h a (by simp[ha])]
 case slS sz x lo hi=>rw[h x (by simp),uH (x:=lo) λa ha=>h a (by simp[ha]),uH (x:=hi) λa ha=>h a (by simp[ha])]
 case slA n sz x lo hi=>rw[h x (by simp),uH (x:=lo) λa ha=>h a (by simp[ha]),uH (x:=hi) λa ha=>h a (by simp[ha])]
 case sl3 t x lo hi mx=>rw[h x (by simp),jbb (x:=lo) λa ha=>h a (by simp[ha]),jbb (x:=hi) λa ha=>h a (by simp[ha]),jbb (x:=mx) λa ha=>h a (by simp[ha])]
 all_goals
  first
  |rfl
  |(simp only[QaU,QbF,List.not_mem_nil,or_false,forall_eq_or_imp,forall_eq] at h;first
   |(obtain⟨h1,h2,h3⟩:=h;rw[h1,h2,h3];done)
   |(obtain⟨h1,h2⟩:=h;rw[h1,h2];done)
   |(rw[h];done))
def Fr1 (F:St->ER):Prop:=∀ st v st',F st=.ok v st'->st'.fr=st.fr
theorem Fr1.no:Fr1 λ_=>.no:=λst v st' h=>by cases h
theorem Fr1.pn {f:St->AV}:Fr1 λst=>.pn (f st) st:=λst v st' h=>by cases h
theorem Fr1.ok (v:AV):Fr1 λst=>.ok v st:=λst v' st' h=>by cases h;rfl
theorem Fr1.cond {b:Bool}{F G:St->ER}(hF:Fr1 F)(hG:Fr1 G):Fr1 λst=>cond b (F st) (G st):=by cases b<;>assumption
theorem Fr1.bool {x:AV}{F:Bool->St->ER}(h:∀ b,Fr1 (F b)):Fr1 λst=>Zz x λb=>F b st:=by
 cases x<;>first|exact h _|exact Fr1.no
theorem Fr1.ptr {x:AV}{F:Nat->Nat->St->ER}(h:∀ b o,Fr1 (F b o)):Fr1 λst=>q7 x λb o=>F b o st:=by
 cases x<;>first|exact h _ _|exact Fr1.no
theorem Fr1.agg {x:AV}{F:List AV->St->ER}(h:∀ b,Fr1 (F b)):Fr1 λst=>Qh x λb=>F b st:=by
 cases x<;>first|exact h _|exact Fr1.no
theorem Fr1.str {x:AV}{F:List Nat->St->ER}(h:∀ b,Fr1 (F b)):Fr1 λst=>zM x λb=>F b st:=by
 cases x<;>first|exact h _|exact Fr1.no
theorem Fr1.some {α:Type}{x:Option α}{F:α->St->ER}(h:∀ b,Fr1 (F b)):Fr1 λst=>jR x λb=>F b st:=by
 cases x<;>first|exact h _|exact Fr1.no
theorem Fr1.nat {x:AV}{F:Nat->St->ER}(h:∀ b,Fr1 (F b)):Fr1 λst=>qp x λb=>F b st:=by
 unfold qp;split
 ·simp only[jE];exact h _
 ·exact Fr1.no
theorem Fr1.len {x:AV}{F:Nat->St->ER}(h:∀ b,Fr1 (F b)):Fr1 λst=>JN x λb=>F b st:=by
 unfold JN;split
 ·exact h _
 ·exact h _
 ·exact h _
 ·simp only[jE];exact h _
 ·exact Fr1.no
theorem Fr1.force {n:Nat}{F:Nat->St->ER}(h:∀ b,Fr1 (F b)):Fr1 λst=>force n λb=>F b st:=by
 simp only[jE];exact h _
theorem Fr1.optF {x:Option OF}{d:Nat}{env:Env}{F:Nat->St->ER}(h:∀ b,Fr1 (F b)):Fr1 λst=>optF x d env λb=>F b st:=by
 cases x
 ·exact h _
 ·exact Fr1.nat h
theorem Fr1.optA {x:Option AV}{d:Nat}{F:Nat->St->ER}(h:∀ b,Fr1 (F b)):Fr1 λst=>optA x d λb=>F b st:=by
 cases x
 ·exact h _
 ·exact Fr1.nat h
theorem Fr1.row {b:Nat}{F:Nat->Nat->List AV->T AV->St->ER}(h:∀ n zl z cs,Fr1 (F n zl z cs)):Fr1 λst=>yh (jx st.h b) λn zl z cs=>F n zl z cs st:=λst v st' e=>by
 dsimp only at e;cases hg:jx st.h b with
 |none=>rw[hg] at e;cases e
 |some o=>
  rw[hg] at e;cases o<;>first|(cases e;done)|exact h _ _ _ _ st v st' e
theorem Fr1.map {b:Nat}{F:List (AV×AV)->St->ER}(h:∀ es,Fr1 (F es)):Fr1 λst=>Zh (jx st.h b) λes=>F es st:=λst v st' e=>by
 dsimp only at e;cases hg:jx st.h b with
 |none=>rw[hg] at e;cases e
 |some o=>
  rw[hg] at e;cases o<;>first|(cases e;done)|exact h _ st v st' e
theorem Fr1.alloc (o:AO){F:Nat->AV}:Fr1 λst=>st.alloc o λb st=>.ok (F b) st:=λst v st' h=>by
 dsimp only at h;rw[St.alloc_eq] at h;cases h;rfl
theorem Fr1.put (b:Nat)(o:AO){F:St->ER}(hF:Fr1 F):Fr1 λst=>st.put b o F:=λst v st' h=>by
 dsimp only at h;rw[St.put_eq] at h;have:=hF _ v st' h;exact this
theorem Fr1.newRow (l:List AV):Fr1 λst=>Ev.newRow st l:=by
 unfold Ev.newRow;exact Fr1.force λn=>Fr1.alloc _
theorem Fr1.cells {size n:Nat}{x:AV}{F:List AV->St->ER}(h:∀ l,Fr1 (F l)):Fr1 λst=>firstCells st size n x λl=>F l st:=by
 unfold firstCells;cases x;case slice=>exact Fr1.row λm zl z cs=>Fr1.force λc=>Fr1.cond (h _) Fr1.no
 case nils=>exact h _
 case str=>exact h _
 case lst=>exact Fr1.cond (h _) Fr1.no
 all_goals exact Fr1.no
theorem Fr1.app (size bytes:Nat)(s:AV)(n:Nat)(news:List AV):Fr1 λst=>qS st size bytes s n news:=by
 unfold qS;refine Fr1.cond ?_ Fr1.no;cases s;case nils=>exact Fr1.cond (Fr1.ok _) (Fr1.cond (Fr1.cond (Fr1.force λm=>Fr1.alloc _) Fr1.no) Fr1.no)
 case slice b o sl cap sz ex=>
  refine Fr1.force λneed=>Fr1.row λm zl z cs=>Fr1.cond (Fr1.cond (Fr1.ok _) (Fr1.cond (Fr1.put _ _ (Fr1.ok _)) Fr1.no)) (Fr1.cond (Fr1.cond ?_ Fr1.no) Fr1.no);exact Fr1.cond (Fr1.force λk=>Fr1.cond (Fr1.force λt=>Fr1.alloc _) Fr1.no) (Fr1.cond (Fr1.cond (Fr1.cond (Fr1.put _ _ (Fr1.force λt=>Fr1.alloc _)) Fr1.no) Fr1.no) Fr1.no)
 case xlst=>exact Fr1.cond Fr1.no (Fr1.force λneed=>Fr1.cond (Fr1.cond (Fr1.cond (Fr1.force λt=>Fr1.alloc _) Fr1.no) Fr1.no) Fr1.no)
 all_goals exact Fr1.no
theorem Fr1.of_pu {F:St->ER}(h:Pu F):Fr1 F:=λst v st' e=>by rw[(h st v st' e).1]
theorem jkl (P:Program)(ρ:A->AV)(i:Ins):Fr1 λst=>jU P ρ i st:=by
 cases i;case mv x=>exact Fr1.ok _
 case pick c a b=>exact Fr1.bool λq=>Fr1.ok _
 case alloc z=>exact Fr1.newRow _
 case box x=>exact Fr1.cond (Fr1.newRow _) Fr1.no
 case build z ps=>exact Fr1.some λcs=>Fr1.ok _
 case buildS len s z ps=>exact Fr1.some λcells=>Fr1.cond (Fr1.force λn=>Fr1.alloc _) Fr1.no
 case ld1 a=>
  simp only[jU];generalize ρ a=u;cases u;case lptr=>exact Fr1.cond (Fr1.ok _) Fr1.no
  all_goals exact Fr1.ptr λb o=>Fr1.row λn zl z cs=>Fr1.cond (Fr1.ok _) Fr1.no
 case ldA k a=>
  simp only[jU];generalize ρ a=u;cases u;case lptr=>exact Fr1.cond (Fr1.ok _) Fr1.no
  all_goals exact Fr1.ptr λb o=>Fr1.row λn zl z cs=>Fr1.cond (Fr1.ok _) Fr1.no
 case st k a x=>exact Fr1.ptr λb o=>Fr1.row λn zl z cs=>Fr1.cond (Fr1.cond (Fr1.cond (Fr1.put _ _ (Fr1.ok _)) Fr1.no) Fr1.no) Fr1.no
 case nilc x=>exact Fr1.of_pu (UC _)
 case bin op x y=>
  simp only[jU];generalize ρ x=u;generalize ρ y=v;cases u<;>cases v<;>first|exact Fr1.no|exact Fr1.cond (Fr1.some λ_=>Fr1.ok _) Fr1.no
 case shf op x y=>
  simp only[jU];generalize ρ x=u;generalize ρ y=v;cases u<;>cases v<;>first|exact Fr1.no|exact Fr1.some λ_=>Fr1.ok _
 case strb op x y=>
  simp only[jU];generalize ρ x=u;generalize ρ y=v;cases u<;>cases v<;>first|exact Fr1.no|exact Fr1.some λ_=>Fr1.ok _
 case gen op t c x y=>exact Fr1.of_pu (ja3 _ _ _ _ _)
 case un op x=>exact Fr1.of_pu (jc4 _ _)
 case cvt k x=>
  simp only[jU];generalize ρ x=u;cases u<;>first|exact Fr1.no|exact Fr1.ok _
 case conv s d x=>
  simp only[jU];unfold JJ;split
  ·dsimp only[O];generalize ρ x=u;cases u<;>first|exact Fr1.no|exact Fr1.ok _
  ·exact Fr1.str λs=>Fr1.ok _
  ·split
   ·dsimp only[O];generalize ρ x=u;cases u;case nils=>exact Fr1.ok _
    case slice b o len cap sz ex=>
     refine Fr1.row λn zl z cs=>Fr1.cond (Fr1.cond (Fr1.some λs=>Fr1.ok _) ?_) Fr1.no;split
     ·exact Fr1.cond (Fr1.ok _) Fr1.no
     ·exact Fr1.no
    all_goals exact Fr1.no
   ·exact Fr1.no
  ·split
   ·exact Fr1.str λs=>Fr1.force λn=>Fr1.alloc _
   ·exact Fr1.no
  ·exact Fr1.no
 case iface t x=>exact Fr1.ok _
 case fn f l=>exact Fr1.ok _
 case mkMap=>exact Fr1.alloc _
 case mkS size bytes z l c=>exact Fr1.nat λl=>Fr1.nat λc=>Fr1.cond (Fr1.cond (Fr1.cond (Fr1.force λn=>Fr1.alloc _) Fr1.no) Fr1.no) Fr1.no
 case slStr x lo hi=>exact Fr1.str λs=>Fr1.force λn=>Fr1.optA λl=>Fr1.optA λh=>Fr1.cond (Fr1.cond (Fr1.ok _) Fr1.no) Fr1.no
 case slS sz x lo hi=>
  simp only[jU];generalize ρ x=u;cases u;case nils=>exact Fr1.optA λl=>Fr1.optA λh=>Fr1.cond (Fr1.cond (Fr1.ok _) Fr1.no) Fr1.no
  case slice=>exact Fr1.optA λl=>Fr1.optA λh=>Fr1.cond (Fr1.cond (Fr1.cond (Fr1.force λ_=>Fr1.force λ_=>Fr1.force λ_=>Fr1.ok _) Fr1.no) Fr1.no) Fr1.no
  case lst=>exact Fr1.optA λl=>Fr1.optA λh=>Fr1.cond (Fr1.cond (Fr1.cond (Fr1.ok _) Fr1.no) Fr1.no) Fr1.no
  all_goals exact Fr1.no
 case slA n sz x lo hi=>exact Fr1.ptr λb o=>Fr1.optA λl=>Fr1.optA λh=>Fr1.cond (Fr1.cond (Fr1.force λ_=>Fr1.force λ_=>Fr1.force λ_=>Fr1.ok _) Fr1.no) Fr1.no
 case sl3 t x lo hi mx=>exact Fr1.of_pu (ja0 _ _ _ _ _)
 case fad off x=>
  simp only[jU];generalize ρ x=u;cases u;case lptr=>exact Fr1.ok _
  all_goals exact Fr1.ptr λb o=>Fr1.force λ_=>Fr1.ok _
 case fld1 off x=>exact Fr1.agg λcs=>Fr1.cond (Fr1.ok _) Fr1.no
 case fldA off s x=>exact Fr1.agg λcs=>Fr1.ok _
 case idxA n s x i=>exact Fr1.ptr λb o=>Fr1.nat λi=>Fr1.cond (Fr1.force λ_=>Fr1.ok _) Fr1.no
 case idxS s x i=>
  simp only[jU];generalize ρ x=u;cases u;case slice=>exact Fr1.nat λi=>Fr1.cond (Fr1.force λ_=>Fr1.ok _) Fr1.no
  case lst=>exact Fr1.nat λi=>Fr1.cond (Fr1.ok _) Fr1.no
  all_goals exact Fr1.no
 case ixA1 n s x i=>exact Fr1.agg λcs=>Fr1.nat λi=>Fr1.cond (Fr1.cond (Fr1.ok _) Fr1.no) Fr1.no
 case ixAA n s x i=>exact Fr1.agg λcs=>Fr1.nat λi=>Fr1.cond (Fr1.ok _) Fr1.no
 case ixStr x i=>exact Fr1.str λs=>Fr1.nat λi=>Fr1.cond (Fr1.ok _) Fr1.no
 case look t m k ok=>
  simp only[jU];unfold Q9;split
  ·split
   ·dsimp only[O];generalize ρ m=u;cases u;case nilm=>exact Fr1.cond (Fr1.ok _) Fr1.no
    case map r=>
     refine Fr1.cond (Fr1.map λes=>Fr1.some λo=>?_) Fr1.no;cases o<;>exact Fr1.ok _
    all_goals exact Fr1.no
   ·exact Fr1.no
  ·exact Fr1.no
 case upd t m k v=>
  simp only[jU];unfold Jb;split
  ·dsimp only[O];generalize ρ m=u;cases u;case map r=>exact Fr1.cond (Fr1.map λes=>Fr1.some λes=>Fr1.put _ _ (Fr1.ok _)) Fr1.no
   all_goals exact Fr1.no
  ·exact Fr1.no
 case range x=>exact Fr1.str λs=>Fr1.alloc _
 case next x=>
  intro st v st' h;simp only[jU,V6] at h;generalize (O (ρ x)).run E0=u at h;cases u<;>try(cases h;done)
  rename_i r o;simp only[q7] at h;cases hb:Qci o 0
  ·rw[hb] at h;cases h
  ·rw[hb] at h;simp only[cond_true] at h;split at h
   ·rename_i s pos hg;cases hb2:Qck (jP s) pos
    ·rw[hb2] at h;simp only[cond_false,jE] at h;generalize Qck (ym 0 s pos) 127=q at h;cases q
     ·cases h
     ·simp only[cond_true,St.put_eq] at h;cases h;rfl
    ·rw[hb2] at h;cases h;rfl
   ·cases h
 case assert x t=>
  simp only[jU];unfold Yg;split
  ·exact Fr1.no
  ·split
   ·dsimp only[O];generalize ρ x=u;cases u;case nilif=>exact Fr1.ok _
    case iface=>exact Fr1.some λb=>Fr1.cond (Fr1.ok _) (Fr1.ok _)
    all_goals exact Fr1.no
   ·dsimp only[O];generalize ρ x=u;cases u;case nilif=>exact Fr1.ok _
    case iface=>exact Fr1.cond (Fr1.ok _) (Fr1.ok _)
    all_goals exact Fr1.no
   ·exact Fr1.no
 case pan x=>
  simp only[jU];generalize ρ x=u;cases u;case iface t v=>exact Fr1.pn (f:=λ_=>.iface t v)
  all_goals exact Fr1.no
 case ext x i=>
  simp only[jU];generalize ρ x=u;cases u;case tup=>exact Fr1.cond (Fr1.ok _) Fr1.no
  all_goals exact Fr1.no
 case len x=>
  simp only[jU];generalize ρ x=u;cases u;case nils=>exact Fr1.ok _
  case slice=>exact Fr1.ok _
  case lst=>exact Fr1.ok _
  all_goals exact Fr1.no
 case lenS x=>
  simp only[jU];generalize ρ x=u;cases u;case str=>exact Fr1.force λ_=>Fr1.ok _
  case zstr=>exact Fr1.ok _
  all_goals exact Fr1.no
 case lenM x=>
  simp only[jU];generalize ρ x=u;cases u;case nilm=>exact Fr1.ok _
  case map=>exact Fr1.map λes=>Fr1.force λ_=>Fr1.ok _
  all_goals exact Fr1.no
 case app size bytes s x=>exact Fr1.len λn=>Fr1.cells λl=>Fr1.app _ _ _ _ _
 case bi b ts l=>
  simp only[jU];unfold qE;split
  ·unfold ZI;split
   ·dsimp only;generalize OF.run _ E0=v;cases v;case str=>exact Fr1.force λ_=>Fr1.ok _
    case zstr=>exact Fr1.ok _
    all_goals exact Fr1.no
   ·exact Fr1.ok _
   ·dsimp only;generalize OF.run _ E0=v;cases v;case nils=>exact Fr1.ok _
    case slice=>exact Fr1.ok _
    case lst=>exact Fr1.ok _
    all_goals exact Fr1.no
   ·dsimp only;generalize OF.run _ E0=v;cases v;case nilm=>exact Fr1.ok _
    case map=>exact Fr1.map λes=>Fr1.force λ_=>Fr1.ok _
    all_goals exact Fr1.no
   ·exact Fr1.no
  ·unfold Vz;split
   ·dsimp only;generalize OF.run _ E0=v;cases v;case nils=>exact Fr1.ok _
    case slice b o n c sz ex=>cases ex<;>first|exact Fr1.no|exact Fr1.ok _
    all_goals exact Fr1.no
   ·exact Fr1.no
  ·unfold Qx;split
   ·split
    ·generalize cond _ _ false=cc;cases cc
     ·exact Fr1.no
     ·simp only[cond_true];split
      ·exact Fr1.nat λn=>Fr1.cond (Fr1.cond (Fr1.app _ _ _ _ _) Fr1.no) Fr1.no
      ·exact Fr1.len λn=>Fr1.cells λl=>Fr1.app _ _ _ _ _
      ·exact Fr1.len λn=>Fr1.cells λl=>Fr1.app _ _ _ _ _
      ·exact Fr1.no
    ·exact Fr1.no
   ·exact Fr1.no
  ·unfold WE;split
   ·split
    ·refine Fr1.len λn0=>?_;generalize OF.run _ E0=v;cases v;case nils=>exact Fr1.ok _
     case slice=>exact Fr1.force λn=>Fr1.cells λcells=>Fr1.row λm zl z cs=>Fr1.cond (Fr1.put _ _ (Fr1.ok _)) Fr1.no
     all_goals exact Fr1.no
    ·exact Fr1.no
   ·exact Fr1.no
  ·exact Fr1.some λv=>Fr1.ok _
  ·exact Fr1.some λv=>Fr1.ok _
  ·exact Fr1.no
structure HasO (U:Nat)(ns:List Nat)(t:T AV)(rs:List AV)(e:En):Prop where
 l:∀ x,has x e.l=true->(jQ U ns (.tmp x)).run ⟨t,rs⟩=look x e.l
 g:∀ x,has x e.g=true->inU U x=true/\(jQ U ns (.tmp x)).run ⟨t,rs⟩=look x e.g
 len:ns.length=rs.length
def J6 (U:Nat)(t:T AV)(L:Sl):Prop:=∀ x,has x L=true->inU U x=true/\zw t x=look x L
section
variable {P:Program} {base:Bs} {U:Nat} {ns:List Nat} {t:T AV} {rs:List AV} {e:En} {st:St}
theorem Kb (U:Nat)(ns:List Nat)(t:T AV)(rs:List AV)(x:Nat):(jQ U ns (.tmp x)).run ⟨t,rs⟩=match idx x ns with
  |some i=>rs.getD i .bad
  |none=>cond (inU U x) (zw t x) .bad:=by
 simp only[jQ,gG];cases idx x ns with
 |some i=>simp only[Qaw,zC]
 |none=>
  simp only[QaZ];cases inU U x
  ·rfl
  ·simp only[cond_true,zw];cases (QA (jK x)).run t<;>rfl
theorem HasO.of_t {L:Sl}(h:J6 U t L):HasO U [] t [] ⟨[],L⟩:=by
 refine⟨(λx hx=>by cases hx),λx hx=>?_,rfl⟩;obtain⟨h1,h2⟩:=h x hx;refine⟨h1,?_⟩;rw[Kb];simp only[idx,h1,cond_true,h2]
theorem HasO.val (h:HasO U ns t rs e){a:A}(ha:okA e a=true):A.val (jQ U ns) ⟨t,rs⟩ a=vl e a:=by
 cases a with
 |c v=>rfl
 |t x=>
  simp only[okA,En.has] at ha;simp only[A.val,vl,En.look];cases hl:has x e.l
  ·rw[hl] at ha;exact(h.g x ha).2
  ·exact h.l x hl
theorem U4 (U:Nat)(ns:List Nat)(t:T AV)(rs:List AV):Fair (jQ U ns) ⟨t,rs⟩:=⟨λ_=>rfl,λ_=>rfl⟩
theorem ja8 (d:Nat)(v:AV)(x:Nat):(jQ U (qv (some d) ns) (.tmp x)).run ⟨t,(yM (some d)).run v rs⟩=if d=x then v else(jQ U ns (.tmp x)).run ⟨t,rs⟩:=by
 rw[Kb,Kb];simp only[qv,yM,idx];by_cases h:d=x
 ·rw[if_pos h,if_pos h];rfl
 ·rw[if_neg h,if_neg h];cases idx x ns with
  |none=>rfl
  |some i=>simp
theorem zH (k:Nat)(v:AV)(L:Sl)(x:Nat):has x ((k,v) :: L)=(decide (k=x) ||has x L):=by
 simp only[has];by_cases h:k=x
 ·have:Qci k x=true:=by rw[qH];exact h
  rw[this];simp[h]
 ·have:Qci k x=false:=by
   cases hb:Qci k x
   ·rfl
   ·rw[qH] at hb;exact absurd hb h
  rw[this];simp[h]
theorem yW (k:Nat)(v:AV)(L:Sl)(x:Nat):look x ((k,v) :: L)=if k=x then v else look x L:=by
 simp only[look];by_cases h:k=x
 ·have:Qci k x=true:=by rw[qH];exact h
  rw[this,if_pos h];rfl
 ·have:Qci k x=false:=by
   cases hb:Qci k x
   ·rfl
   ·rw[qH] at hb;exact absurd hb h
  rw[this,if_neg h];rfl
theorem HasO.push (h:HasO U ns t rs e)(dst:Option Nat)(v:AV) :
  HasO U (qv dst ns) t ((yM dst).run v rs) (ya dst (match dst with|some d=>inU U d|none=>false) v e):=by
 cases dst with
 |none=>exact h
 |some d=>
  simp only[ya];refine⟨λx hx=>?_,λx hx=>?_,by simp[qv,yM,h.len]⟩
  ·rw[ja8,yW];rw[zH] at hx;by_cases hd:d=x
   ·rw[if_pos hd,if_pos hd]
   ·rw[if_neg hd,if_neg hd];simp[hd] at hx;exact h.l x hx
  ·rw[ja8];cases hk:inU U d
   ·rw[hk] at hx;simp only[cond_false] at hx ⊢;obtain⟨h1,h2⟩:=h.g x hx;have:¬ d=x:=λe=>by rw[e,h1] at hk;cases hk
    rw[if_neg this];exact⟨h1,h2⟩
   ·rw[hk] at hx;simp only[cond_true] at hx ⊢;rw[yW];rw[zH] at hx;by_cases hd:d=x
    ·rw[if_pos hd,if_pos hd];exact⟨by rw[<-hd];exact hk,rfl⟩
    ·rw[if_neg hd,if_neg hd];simp[hd] at hx;exact h.g x hx
theorem HasO.flush (h:HasO U ns t rs e):J6 U ((zP U ns).run rs t) e.g:=by
 intro x hx;obtain⟨h1,h2⟩:=h.g x hx;refine⟨h1,?_⟩;rw[Vk U ns rs t h.len x h1];rw[Kb,h1] at h2;cases hi:idx x ns with
 |none=>rw[hi] at h2;exact h2
 |some i=>rw[hi] at h2;exact h2
theorem jk1 (h:HasO U ns t rs e){o:Op}{i:Ins}(hl:XL P o=some i){K:AV->St->Prop}(hw:wI P i e st K) :
  ∃ v st',(jy P (jQ U ns) o).run ⟨t,rs⟩ st=.ok v st'/\st'.fr=st.fr/\K v st':=by
 obtain⟨h1,h2⟩:=hw;rw[jj5 (U4 U ns t rs) hl,jcw (ρ':=vl e) λa ha=>h.val (by rw[Qae] at h1;exact h1 a ha)];unfold ji at h2;cases hr:jU P (vl e) i st with
 |no=>rw[hr] at h2;exact h2.elim
 |pn v s=>rw[hr] at h2;exact h2.elim
 |ok v s=>rw[hr] at h2;exact⟨v,s,rfl,jkl P _ i st v s hr,h2⟩
theorem H8 (h:HasO U ns t rs e){ops:Array Oper}{o:Oper}{g:Option (Nat×Bool)}(hl:jj6 ops o=some g){a b:Prop}(hw:gW g e a b) :
  (yf (jQ U ns) ops o=none/\a)\/∃ wf,yf (jQ U ns) ops o=some wf/\((wf.run ⟨t,rs⟩=some true/\a)\/(wf.run ⟨t,rs⟩=some false/\b)):=by
 unfold jj6 at hl;unfold yf;cases hg:o.guard with
 |none=>
  rw[hg] at hl;cases hl;exact .inl ⟨rfl,hw⟩
 |some jw=>
  obtain⟨j,want⟩:=jw;rw[hg] at hl;obtain⟨d,h1,rfl⟩:=Go.Sy.map_some hl;right;simp only[h1];obtain⟨h2,h3⟩:=hw;have hv:=h.val (a:=.t d) h2;simp only[A.val,vl] at hv;refine⟨_,rfl,?_⟩;dsimp only;rw[hv];cases hk:e.look d<;>rw[hk] at h3<;>first|(exact h3.elim;done)|(exact .inr ⟨rfl,h3⟩;done)|skip
  rename_i q;cases q<;>cases want<;>simp at h3 ⊢<;>exact h3
theorem HasO.fn (h:HasO U ns t rs e){f:Operand}{fa:A}{args:List Operand}{l:List A}(h1:qP f=some fa)(h2:Z8 args=some l)(h3:okA e fa=true)(h4:l.all (okA e)=true) :
  (jQ U ns f).run ⟨t,rs⟩=vl e fa/\args.map (λx=>(jQ U ns x).run ⟨t,rs⟩)=l.map (vl e):=by
 refine⟨(jL (U4 U ns t rs) h1).trans (h.val h3),(Wr (U4 U ns t rs) h2).trans (QaX λa ha=>h.val ?_)⟩;rw[Qae] at h4;exact h4 a ha
theorem vH {ops:Array Oper}{fin:List Nat->RD}{pan:Nat->List Nat->List Nat->AV->St->RD}{abs:Nat->Bool}(i:Nat)(l es ns:List Nat){o:Oper}(ho:ops[i]? = some o) :
  yl P U ops fin pan abs (i :: l) es ns=cond (abs i) (VS o.dst (yl P U ops fin pan abs l (i :: es) (qv o.dst ns)))
   (Qu (yf (jQ U ns) ops o) o.dst (Jr P (jQ U ns) (yK P ops i o) (Ev.partners P ops es i o) o (yl P U ops fin pan abs l (i :: es) (qv o.dst ns)) (pan i es ns))
    (yl P U ops fin pan abs l (i :: es) (qv o.dst ns))):=by
 have:yl P U ops fin pan abs (i :: l) es ns=(match ops[i]? with
  |some o=>cond (abs i) (VS o.dst (yl P U ops fin pan abs l (i :: es) (qv o.dst ns)))
   (Qu (yf (jQ U ns) ops o) o.dst (Jr P (jQ U ns) (yK P ops i o) (Ev.partners P ops es i o) o (yl P U ops fin pan abs l (i :: es) (qv o.dst ns)) (pan i es ns))
    (yl P U ops fin pan abs l (i :: es) (qv o.dst ns)))
  |none=>ZR):=rfl
 rw[this,ho]
theorem gJ {op:Operand->OF}{o:Op}{env:Env}{v:AV}{st':St}{call:qF}{k:AV->TE->St->R}{kp:AV->St->R}(hc:qu o=none)(he:(jy P op o).run env st=.ok v st')(hr:jV P o=.reads->∃ ty a,o=.load ty a) :
  (opD P op false o).run call env st k kp=k v (Ju P op o env v st st') st':=by
 unfold opD Ju;rw[hc];dsimp only;cases hcl:jV P o;case reads=>
  obtain⟨ty,a,rfl⟩:=hr hcl;simp only[Xt];rw[he]
 all_goals
  simp only[Xt,cond_false];rw[he]
theorem Q8 {o:Op}(h:jV P o=.reads):∃ ty a,o=.load ty a:=by
 cases o<;>simp only[jV] at h<;>try(cases h;done)
 case load ty a=>exact⟨ty,a,rfl⟩
 case call c=>
  exfalso;split at h
  ·split at h
   ·split at h<;>cases h
   ·cases h
  all_goals cases h
theorem ja9 {op:Operand->OF}{o:Op}{env:Env}{v:AV}{st1:St}{call:qF}{k:AV->TE->St->R}{kp:AV->St->R}{f:Operand}{args:List Operand}{fid:FuncId}{caps:List AV}(hc:qu o=some (f,args))
  (hf:(op f).run env=.fn fid caps) (he:call fid (yS (ye (λx=>(op x).run env) args) caps) st=.ok v st1) :
  (opD P op false o).run call env st k kp=k v (.wr st.h (back st st1).h) (back st st1):=by
 unfold opD;rw[hc];simp only[cond_false];rw[hf];dsimp only;rw[he];rfl
theorem Vu {ops:Array Oper}{i:Nat}{o:Oper}{lo:List Oper}(h:ops.toList.drop i=o :: lo):ops[i]? = some o/\ops.toList.drop (i+1)=lo/\i<ops.size:=by
 have h1:ops.toList[i]? = some o:=by
  have:=congrArg (λl=>l[0]?) h;simpa using this
 have h2:ops[i]? = some o:=by rw[<-QbD];exact h1
 refine⟨h2,?_,(Qav.1 h2).1⟩;have:=congrArg List.tail h;simpa[List.tail_drop] using this
end
def OutR (U:Nat)(st:St)(r:R):Out->Prop
 |.go L s=>∃ t,r=.go t s/\J6 U t L/\s.fr=st.fr
 |.ex id L s=>∃ t,r=.ex id t s/\J6 U t L/\s.fr=st.fr
 |.rt L s=>∃ t,r=.rt t s/\J6 U t L/\s.fr=st.fr
section
variable {P:Program} {base:Bs} {U:Nat}
theorem OutR.fr {st st':St}{r:R}{o:Out}(h:OutR U st' r o)(hf:st'.fr=st.fr):OutR U st r o:=by
 cases o<;>(obtain⟨t,h1,h2,h3⟩:=h;exact⟨t,h1,h2,h3.trans hf⟩)
theorem Kn (A:CF)(call:qF)(n k:Nat)(t:T AV)(st:St) :
 vO A call n (k+1) t st=match A.run call n t st with | .go env st=>vO A call n k env st|r=>r:=rfl
theorem jew {r:ResultVar}{rv:RV}(hl:jj4 P r=some rv){t:T AV}{L:Sl}{st:St}(ht:J6 U t L){K:AV->Prop}(h:jaU P rv L st K):∃ v,(Qv P U r).run ⟨t,[]⟩ st=some v/\K v:=by
 have opd:∀ x,has x L=true->(jQ U [] (.tmp x)).run ⟨t,[]⟩=look x L:=λx hx=>((HasO.of_t ht).g x hx).2;cases r with
 |tmp x=>
  cases hl;exact⟨_,by simp only[Qv];rw[opd x h.1],h.2⟩
 |cell a ty=>
  simp only[jj4] at hl;simp only[Qv];have conv:∀ (q:ER),(match (qQ P ty).run (look a L) st.h with|some v=>ER.ok v st|none=>.no)=q->ji q (λv _=>K v)->∃ v,(qQ P ty).run (look a L) st.h=some v/\K v:=by
   intro q h1 h2;cases hk:(qQ P ty).run (look a L) st.h with
   |none=>rw[hk] at h1;rw[<-h1] at h2;exact h2.elim
   |some v=>rw[hk] at h1;rw[<-h1] at h2;exact⟨v,rfl,h2⟩
  split at hl
  ·rename_i k h1 h2;cases hl;obtain⟨h3,h4⟩:=h;rw[opd a h3];refine conv _ ?_ h4
   have:=GN (P:=P) (env:=E0) (st:=st) (a:=O (look a L)) h1 h2;unfold Yy at this;exact this
  ·rename_i k h1 h2;cases hl;obtain⟨h3,h4⟩:=h;rw[opd a h3];refine conv _ ?_ h4
   have:=GM (P:=P) (env:=E0) (st:=st) (a:=O (look a L)) h1 h2;unfold Yy at this;exact this
  ·cases hl
theorem Hr (r:ResultVar)(l:List ResultVar)(env:Env)(st:St):yA P U (r :: l) env st=match (Qv P U r).run env st,yA P U l env st with|some v,some vs=>some (v :: vs)|_,_=>none:=rfl
theorem ue {t:T AV}{L:Sl}{st:St}(ht:J6 U t L):∀ {l:List ResultVar} {rvs:List RV} {K:List AV->Prop},Km P l=some rvs->yo P rvs L st K->∃ vs,yA P U l ⟨t,[]⟩ st=some vs/\K vs
 |[],rvs,K,hl,h=>by
  cases hl;exact⟨[],rfl,h⟩
 |r :: l,rvs,K,hl,h=>by
  obtain⟨rv,h1,hl⟩:=bind_some hl;obtain⟨rl,h2,rfl⟩:=Go.Sy.map_some hl;obtain⟨v,h3,h4⟩:=jew h1 ht h;obtain⟨vs,h5,h6⟩:=ue ht h2 h4;exact⟨v :: vs,by rw[Hr,h3,h5],h6⟩
theorem ZG (x:Nat):∀ (l:List AV) (i:Nat) (t:T AV),zw (zV l i t) x=if i<=x/\x<i+l.length then l.getD (x - i) qd else zw t x
 |[],i,t=>by
  have:¬ (i<=x/\x<i+([]:List AV).length):=by simp
  rw[if_neg this];rfl
 |v :: l,i,t=>by
  have e:zV (v :: l) i t=zV l (i+1) ((j1 (jK i)).run v t):=rfl;rw[e,ZG x l];by_cases h:i=x
  ·subst h;rw[if_neg om,if_pos (by simp)];simp[zw,Yd]
  ·by_cases h2:i+1<=x/\x<i+1+l.length
   ·rw[if_pos h2,if_pos (by simp;omega)];obtain⟨k,hk⟩:∃ k,x - i=k+1:=⟨x - i - 1,om⟩;rw[hk];have:x - (i+1)=k:=om
    rw[this];simp
   ·rw[if_neg h2,if_neg (by simp;omega)];simp[zw,Yd,show ¬ x=i from λe=>h e.symm]
theorem jfg {ps:List Nat}{args:List AV}{x:Nat}(h:has x (jh ps args)=true):x∈ps/\look x (jh ps args)=args.getD x qd:=by
 induction ps with
 |nil=>cases h
 |cons p ps ih=>
  simp only[jh,ζ] at h ⊢;rw[zH] at h;rw[yW];by_cases hp:p=x
  ·subst hp;simp
  ·rw[if_neg hp];simp[hp] at h;obtain⟨h1,h2⟩:=ih h;exact⟨by simp[h1],h2⟩
theorem CW.calls (hok:okP P=true)(hdraw:YM P)(hb:Jq P base.run){f:FuncId}{args:List AV}{st:St}{K:AV->St->Prop}(h:CW P base f args st K){ι:Inj}{w:World}{vs:Array Value}(hs:Sim ι st.h st.nx w)(hv:VRs ι args vs.toList) :
  Calls P f vs w λe w'=>∃ v x st',e=.returned x/\K v st'/\Jf ι w st st' v x w':=by
 obtain⟨v,st',⟨N,D,h1⟩,h2⟩:=h;have:=jhD hok hdraw hb N D f args st ι w vs hs hv;rw[h1 N (μ _) D (μ _)] at this;exact Calls.mono this.2 λe w' ⟨x,h3,h4⟩=>⟨v,x,st',h3,h2,h4⟩
theorem jg0 {w:Sl->St->(Out->Prop)->Prop}(hmono:∀ L st Q Q',w L st Q->(∀ o,Q o->Q' o)->w L st Q'){Q:Out->Prop}(I:Nat->Sl->St->Prop)
  (step:∀ k L st,I k L st->w L st (Jv (λL' st'=>∃ k',k'<k/\I k' L' st') Q)):∀ k L st,I k L st->∃ n,uZ w n L st Q:=by
 have key:∀ n k,k<n->∀ L st,I k L st->uZ w n L st Q:=by
  intro n;induction n with
  |zero=>intro k hk;omega
  |succ n ih=>
   intro k hk L st hI;refine hmono _ _ _ _ (step k L st hI) λo ho=>?_;cases o with
   |go L' st'=>
    obtain⟨k',h1,h2⟩:=ho;exact ih k' om L' st' h2
   |ex i L' st'=>exact ho
   |rt L' st'=>exact ho
 intro k L st hI;exact⟨k+1,key (k+1) k om L st hI⟩
end
section
variable {P:Program} {base:Bs}
theorem GH {r:ER}{K K':AV->St->Prop}(h:ji r K)(hk:∀ v st,K v st->K' v st):ji r K':=by
 cases r with
 |no=>exact h
 |ok v st=>exact hk v st h
 |pn v st=>exact h
theorem Uo {g:Option (Nat×Bool)}{e:En}{a b a' b':Prop}(h:gW g e a b)(ha:a->a')(hb:b->b'):gW g e a' b':=by
 cases g with
 |none=>exact ha h
 |some p=>
  obtain⟨x,want⟩:=p;obtain⟨h1,h2⟩:=h;refine⟨h1,?_⟩;cases hk:e.look x<;>rw[hk] at h2<;>first|(exact h2.elim;done)|(exact hb h2;done)|skip
  rename_i q;simp only at h2 ⊢;cases hq:(q == want)
  ·rw[hq] at h2;exact hb h2
  ·rw[hq] at h2;exact ha h2
theorem Gq {k k':Sl->St->Prop}{Q Q':Out->Prop}(h1:∀ L st,k L st->k' L st)(h2:∀ o,Q o->Q' o):∀ o,Jv k Q o->Jv k' Q' o
 |.go L st,h=>h1 L st h
 |.ex i L st,h=>h2 _ h
 |.rt L st,h=>h2 _ h
theorem jcz {id:Nat}{Q Q':Out->Prop}(h2:∀ o,Q o->Q' o):∀ o,yt id Q o->yt id Q' o
 |.go L st,h=>h2 _ h
 |.ex i L st,h=>by
  simp only[yt] at h ⊢;generalize Qci i id=q at h ⊢;cases q
  ·exact h2 _ h
  ·exact h2 _ h
 |.rt L st,h=>h2 _ h
theorem kE {w:Sl->St->(Out->Prop)->Prop}(hw:∀ L st Q Q',w L st Q->(∀ o,Q o->Q' o)->w L st Q'){Q Q':Out->Prop}(h2:∀ o,Q o->Q' o):∀ n L st,uZ w n L st Q->uZ w n L st Q'
 |0,L,st,h=>h
 |n+1,L,st,h=>hw _ _ _ _ h (Gq (λL st=>kE hw h2 n L st) h2)
theorem nr {p:Prop}(h:p):p:=h
def VI (p:Prop):Prop:=p
theorem wG (k:Sl->St->Prop)(Q:Out->Prop)(L:Sl)(st:St):Jv k Q (.go L st)=k L st:=nr rfl
theorem VX (k:Sl->St->Prop)(Q:Out->Prop)(i:Nat)(L:Sl)(st:St):Jv k Q (.ex i L st)=Q (.ex i L st):=nr rfl
theorem jcZ (k:Sl->St->Prop)(Q:Out->Prop)(L:Sl)(st:St):Jv k Q (.rt L st)=Q (.rt L st):=nr rfl
theorem Gv (id:Nat)(Q:Out->Prop)(L:Sl)(st:St):yt id Q (.go L st)=Q (.go L st):=nr rfl
theorem Gt (id:Nat)(Q:Out->Prop)(L:Sl)(st:St):yt id Q (.rt L st)=Q (.rt L st):=nr rfl
theorem W7 (id:Nat)(Q:Out->Prop)(L:Sl)(st:St):yt id Q (.ex id L st)=Q (.go L st):=by
 have:Qci id id=true:=by rw[qH]
 simp only[yt,this,cond_true]
theorem Gu {i id:Nat}(h:i≠id)(Q:Out->Prop)(L:Sl)(st:St):yt id Q (.ex i L st)=Q (.ex i L st):=by
 have:Qci i id=false:=by
  cases hb:Qci i id
  ·rfl
  ·rw[qH] at hb;exact absurd hb h
 simp only[yt,this,cond_false]
theorem jmv (a b:Prop):vU (.bool true) a b=a:=nr rfl
theorem jmw (a b:Prop):vU (.bool false) a b=b:=nr rfl
def onG (v:AV)(want:Bool)(a b:Prop):Res (a,b):=
 match v with
 |.bool q=>(match q == want with|true=>a|false=>b)
 |.bad=>False
 |_=>b
def on1 (e:En)(x:A)(F:AV->Prop):Res F:=okA e x=true/\F (vl e x)
theorem jpj (w:Bool)(a b:Prop):onG qd w a b=b:=nr rfl
theorem jez (e:En)(v:AV)(F:AV->Prop):on1 e (.c v) F=F v:=by simp[on1,okA,vl]
theorem jex (x:Nat)(v:AV)(l g:Sl)(F:AV->Prop):on1 ⟨(x,v) :: l,g⟩ (.t x) F=F v:=by
 simp[on1,okA,vl,En.has,En.look,zH,yW]
theorem jgH {k x:Nat}(h:k≠x)(v:AV)(l g:Sl)(F:AV->Prop):on1 ⟨(k,v) :: l,g⟩ (.t x) F=on1 ⟨l,g⟩ (.t x) F:=by
 simp[on1,okA,vl,En.has,En.look,zH,yW,h]
theorem jey (x:Nat)(v:AV)(g:Sl)(F:AV->Prop):on1 ⟨[],(x,v) :: g⟩ (.t x) F=F v:=by
 simp[on1,okA,vl,En.has,En.look,zH,yW,has]
theorem jgI {k x:Nat}(h:k≠x)(v:AV)(g:Sl)(F:AV->Prop):on1 ⟨[],(k,v) :: g⟩ (.t x) F=on1 ⟨[],g⟩ (.t x) F:=by
 simp[on1,okA,vl,En.has,En.look,zH,yW,has,h]
def Has (L:Sl)(x:Nat)(v:AV):Prop:=has x L=true/\look x L=v
theorem ja {L:Sl}{x:Nat}{v:AV}(h:Has L x v)(F:AV->Prop):on1 ⟨[],L⟩ (.t x) F=F v:=by
 obtain⟨h1,h2⟩:=h;simp[on1,okA,vl,En.has,En.look,has,h1,h2]
theorem Has.here (x:Nat)(v:AV)(L:Sl):Has ((x,v) :: L) x v:=by simp[Has,zH,yW]
theorem z0:((0:Nat):Int)=0:=nr rfl
theorem jn (x:Nat)(v:AV)(L:Sl):Has ((x,v) :: L) x v=True:=by simp[Has.here]
theorem jf {k x:Nat}(hne:k≠x)(u v:AV)(L:Sl):Has ((k,u) :: L) x v=Has L x v:=by simp[Has,zH,yW,hne]
theorem jc1 (v:AV)(e:En)(kp:Bool):ya none kp v e=e:=nr rfl
theorem gH (d:Nat)(v:AV)(l g:Sl):ya (some d) false v ⟨l,g⟩=⟨(d,v) :: l,g⟩:=nr rfl
theorem VY (d:Nat)(v:AV)(l g:Sl):ya (some d) true v ⟨l,g⟩=⟨(d,v) :: l,(d,v) :: g⟩:=nr rfl
theorem k_0 {i:Ins}{V:St->ER}{e:En}{st:St}(h1:ZL i=[])(h2:∀ ρ,jU P ρ i st=V st)(K:AV->St->Prop):wK P base (.i i) e st K=ji (V st) K:=by
 simp[wK,wI,h1,h2]
theorem k_1 {i:Ins}{x:A}{V:AV->St->ER}{e:En}{st:St}(h1:ZL i=[x])(h2:∀ ρ,jU P ρ i st=V (ρ x) st)(K:AV->St->Prop):wK P base (.i i) e st K=on1 e x λv=>ji (V v st) K:=by
 simp[wK,wI,h1,h2,on1]
theorem k_2 {i:Ins}{x y:A}{V:AV->AV->St->ER}{e:En}{st:St}(h1:ZL i=[x,y])(h2:∀ ρ,jU P ρ i st=V (ρ x) (ρ y) st)(K:AV->St->Prop) :
  wK P base (.i i) e st K=on1 e x λv=>on1 e y λu=>ji (V v u st) K:=by
 simp[wK,wI,h1,h2,on1,and_assoc]
theorem k_3 {i:Ins}{x y z:A}{V:AV->AV->AV->St->ER}{e:En}{st:St}(h1:ZL i=[x,y,z])(h2:∀ ρ,jU P ρ i st=V (ρ x) (ρ y) (ρ z) st)(K:AV->St->Prop) :
  wK P base (.i i) e st K=on1 e x λv=>on1 e y λu=>on1 e z λt=>ji (V v u t st) K:=by
 simp[wK,wI,h1,h2,on1,and_assoc]
def yJ (op:BinOp)(v u:AV)(st:St):ER:=match v,u with
 |.int k a,.int k' b=>cond (eqK k k') (jR ((Q4 op).run k a b) λv=>.ok v st) .no
 |_,_=>.no
end
def mvV (v:AV)(st:St):ER:=.ok v st
def jeB (c a b:AV)(st:St):ER:=Zz c λq=>.ok (cond q a b) st
def jkv (v:AV)(st:St):ER:=cond (lall AV.cell v.cells) (Ev.newRow st v.cells) .no
def XV (a:AV)(st:St):ER:=match a with | .lptr cs o=>cond (Qck (Qcj o) (jP cs)) (.ok (ym .bad cs o) st) .no|a=>q7 a λb o=>yh (jx st.h b) λn zl z cs=>cond (Qck (Qcj o) n) (.ok (qA zl z cs o) st) .no
def Qz (k:Nat)(a:AV)(st:St):ER:=match a with | .lptr cs o=>cond (Qck (Qcl o k) (jP cs)) (.ok (.agg (yi (zj cs o) k)) st) .no|a=>q7 a λb o=>yh (jx st.h b) λn zl z cs=>cond (Qck (Qcl o k) n) (.ok (.agg (jT zl z cs k o)) st) .no
def stV (k:Nat)(a x:AV)(st:St):ER:=q7 a λb o=>yh (jx st.h b) λn zl z cs=>
 cond (Qci (jP x.cells) k) (cond (Qck (Qcl o k) n) (cond (lall AV.cell x.cells)
  (st.put b (.row n zl z (qj x.cells cs o)) λst=>.ok qd st) .no) .no) .no
def jeG (x:AV)(st:St):ER:=(J7 (O x)).run E0 st
def u7 (op:BinOp)(v u:AV)(st:St):ER:=match v,u with | .int k a,.int _ b=>jR (Zw op k a b) λv=>.ok v st|_,_=>.no
def UP (op:BinOp)(v u:AV)(st:St):ER:=match v,u with | .str a,.str b=>jR (vE op a b) λv=>.ok v st|_,_=>.no
def JI (P:Program)(op:BinOp)(t:TypeId)(c:Bool)(v u:AV)(st:St):ER:=(J4 P op t c (O v) (O u)).run E0 st
def unV (op:UnOp)(v:AV)(st:St):ER:=(Yn op (O v)).run E0 st
def jfn (k:IntKind)(v:AV)(st:St):ER:=match v with | .int _ n=>.ok (.int k (qY k n)) st|_=>.no
def je4 (off:Nat)(v:AV)(st:St):ER:=match v with | .lptr cs o=>.ok (.lptr cs (Qcl o off)) st|a=>q7 a λb o=>force (Qcl o off) λo=>.ok (.ptr b o) st
def jeY (off:Nat)(v:AV)(st:St):ER:=Qh v λcs=>cond (Qck (Qcj off) (jP cs)) (.ok (ym .bad cs off) st) .no
def jeX (off s:Nat)(v:AV)(st:St):ER:=Qh v λcs=>.ok (.agg (yi (zj cs off) s)) st
def jeR (n s:Nat)(v i:AV)(st:St):ER:=q7 v λb o=>qp i λi=>cond (Qck (Qcj i) n) (force (Qcl o (Qcm i s)) λo=>.ok (.ptr b o) st) .no
def Uk (s:Nat)(v i:AV)(st:St):ER:=match v with
 |.slice b o len _ _ _=>qp i λi=>cond (Qck (Qcj i) len) (force (Qcl o (Qcm i s)) λo=>.ok (.ptr b o) st) .no
 |.lst n cs=>qp i λi=>cond (Qck (Qcj i) n) (.ok (.lptr cs (Qcm i s)) st) .no
 |_=>.no
def jrY (n s:Nat)(v i:AV)(st:St):ER:=Qh v λcs=>qp i λi=>cond (Qck (Qcj i) n) (cond (Qck (Qcj (Qcm i s)) (jP cs)) (.ok (ym .bad cs (Qcm i s)) st) .no) .no
def Ky (v i:AV)(st:St):ER:=zM v λs=>qp i λi=>cond (Qck (Qcj i) (jP s)) (.ok (.int .u8 (.ofNat (ym 0 s i))) st) .no
def WC (k:Nat)(v:AV)(st:St):ER:=match v with | .tup vs=>cond (Qck (Qcj k) (jP vs)) (.ok (ym .bad vs k) st) .no|_=>.no
def jbk (v:AV)(st:St):ER:=match v with
 |.nils=>.ok (.int .i64 (.ofNat 0)) st
 |.slice _ _ n _ _ _=>.ok (.int .i64 (.ofNat n)) st
 |.lst n _=>.ok (.int .i64 (.ofNat n)) st
 |_=>.no
def jeN (v:AV)(st:St):ER:=match v with
 |.str s=>force (jP s) λn=>.ok (.int .i64 (.ofNat n)) st
 |.zstr n=>.ok (.int .i64 (.ofNat n)) st
 |_=>.no
def Ge (len s:Nat)(z:List AV)(ps:List ((Nat×Nat)×AV))(st:St):ER:=jR (XN (qM z len) ps) λcells=>
 cond (lall AV.cell cells) (force (jP cells) λn=>st.alloc (.row n n cells .e) λb st=>.ok (.slice b 0 len len s true) st) .no
def Jk (v:AV)(lo hi:Option AV)(st:St):ER:=zM v λs=>force (jP s) λn=>optA lo 0 λl=>optA hi n λh=>
 cond (Qck l h) (cond (Qck h n) (.ok (.str (yi (zj s l) (Qcn h l))) st) .no) .no
section
variable {P:Program} {base:Bs} {e:En} {st:St} {K:AV->St->Prop}
theorem jkf (x:A):wK P base (.i (.mv x)) e st K=on1 e x λv=>K v st:=k_1 (V:=mvV) rfl (λ_=>rfl) K
theorem jhc (c a b:A):wK P base (.i (.pick c a b)) e st K=on1 e c λv=>on1 e a λu=>on1 e b λt=>ji (jeB v u t st) K:=k_3 rfl (λ_=>rfl) K
theorem jlP (x:A):wK P base (.i (.box x)) e st K=on1 e x λv=>ji (jkv v st) K:=k_1 rfl (λ_=>rfl) K
theorem jlK (x:A):wK P base (.i (.ld1 x)) e st K=on1 e x λv=>ji (XV v st) K:=k_1 rfl (λ_=>rfl) K
theorem jlJ (k:Nat)(x:A):wK P base (.i (.ldA k x)) e st K=on1 e x λv=>ji (Qz k v st) K:=k_1 rfl (λ_=>rfl) K
theorem jpL (k:Nat)(a x:A):wK P base (.i (.st k a x)) e st K=on1 e a λv=>on1 e x λu=>ji (stV k v u st) K:=k_2 rfl (λ_=>rfl) K
theorem jhd (x:A):wK P base (.i (.nilc x)) e st K=on1 e x λv=>ji (jeG v st) K:=k_1 rfl (λ_=>rfl) K
theorem H7 (op:BinOp)(x y:A):wK P base (.i (.bin op x y)) e st K=on1 e x λv=>on1 e y λu=>ji (yJ op v u st) K:=k_2 rfl (λ_=>rfl) K
theorem jlH (op:BinOp)(x y:A):wK P base (.i (.shf op x y)) e st K=on1 e x λv=>on1 e y λu=>ji (u7 op v u st) K:=k_2 rfl (λ_=>rfl) K
theorem jg7 (op:BinOp)(x y:A):wK P base (.i (.strb op x y)) e st K=on1 e x λv=>on1 e y λu=>ji (UP op v u st) K:=k_2 rfl (λ_=>rfl) K
theorem jeT (op:BinOp)(t:TypeId)(c:Bool)(x y:A):wK P base (.i (.gen op t c x y)) e st K=on1 e x λv=>on1 e y λu=>ji (JI P op t c v u st) K:=k_2 rfl (λ_=>rfl) K
theorem jpK (op:UnOp)(x:A):wK P base (.i (.un op x)) e st K=on1 e x λv=>ji (unV op v st) K:=k_1 rfl (λ_=>rfl) K
theorem jlO (k:IntKind)(x:A):wK P base (.i (.cvt k x)) e st K=on1 e x λv=>ji (jfn k v st) K:=k_1 rfl (λ_=>rfl) K
theorem jlM (off:Nat)(x:A):wK P base (.i (.fad off x)) e st K=on1 e x λv=>ji (je4 off v st) K:=k_1 rfl (λ_=>rfl) K
theorem jhk (off:Nat)(x:A):wK P base (.i (.fld1 off x)) e st K=on1 e x λv=>ji (jeY off v st) K:=k_1 rfl (λ_=>rfl) K
theorem jhj (off s:Nat)(x:A):wK P base (.i (.fldA off s x)) e st K=on1 e x λv=>ji (jeX off s v st) K:=k_1 rfl (λ_=>rfl) K
theorem jhi (n s:Nat)(x i:A):wK P base (.i (.idxA n s x i)) e st K=on1 e x λv=>on1 e i λu=>ji (jeR n s v u st) K:=k_2 rfl (λ_=>rfl) K
theorem jhh (s:Nat)(x i:A):wK P base (.i (.idxS s x i)) e st K=on1 e x λv=>on1 e i λu=>ji (Uk s v u st) K:=k_2 rfl (λ_=>rfl) K
theorem jhg (n s:Nat)(x i:A):wK P base (.i (.ixA1 n s x i)) e st K=on1 e x λv=>on1 e i λu=>ji (jrY n s v u st) K:=k_2 rfl (λ_=>rfl) K
theorem jdh (x i:A):wK P base (.i (.ixStr x i)) e st K=on1 e x λv=>on1 e i λu=>ji (Ky v u st) K:=k_2 rfl (λ_=>rfl) K
theorem jlN (k:Nat)(x:A):wK P base (.i (.ext x k)) e st K=on1 e x λv=>ji (WC k v st) K:=k_1 rfl (λ_=>rfl) K
theorem jlI (x:A):wK P base (.i (.len x)) e st K=on1 e x λv=>ji (jbk v st) K:=k_1 rfl (λ_=>rfl) K
theorem jhf (x:A):wK P base (.i (.lenS x)) e st K=on1 e x λv=>ji (jeN v st) K:=k_1 rfl (λ_=>rfl) K
theorem jbz (x lo:A):wK P base (.i (.slStr x (some lo) none)) e st K=on1 e x λv=>on1 e lo λl=>ji (Jk v (some l) none st) K:=k_2 (V:=λv l st=>Jk v (some l) none st) rfl (λ_=>rfl) K
theorem jby (x hi:A):wK P base (.i (.slStr x none (some hi))) e st K=on1 e x λv=>on1 e hi λl=>ji (Jk v none (some l) st) K:=k_2 (V:=λv l st=>Jk v none (some l) st) rfl (λ_=>rfl) K
theorem jbx (x lo hi:A):wK P base (.i (.slStr x (some lo) (some hi))) e st K=on1 e x λv=>on1 e lo λl=>on1 e hi λh=>ji (Jk v (some l) (some h) st) K:=k_3 (V:=λv l h st=>Jk v (some l) (some h) st) rfl (λ_=>rfl) K
def wZ (e:En):List A->(F:List AV->Prop)->Res F
 |[],F=>F []
 |a :: l,F=>on1 e a λv=>wZ e l λvs=>F (v :: vs)
theorem uF (e:En):∀ (l:List A) (F:List AV->Prop),wZ e l F=(l.all (okA e)=true/\F (l.map (vl e)))
 |[],F=>by simp[wZ]
 |a :: l,F=>by simp[wZ,uF e l,on1,and_assoc]
theorem jlt (F:List AV->Prop):wZ e [] F=F []:=nr rfl
theorem jls (a:A)(l:List A)(F:List AV->Prop):wZ e (a :: l) F=on1 e a λv=>wZ e l λvs=>F (v :: vs):=nr rfl
theorem jc2 (res:List RV)(L:Sl)(s:St):QZ P res K (.rt L s)=yo P res L s λvs=>K (zq vs) s.bare:=nr rfl
theorem jc3 (res:List RV)(L:Sl)(s:St):QZ P res K (.go L s)=yo P res L s λvs=>K (zq vs) s.bare:=nr rfl
theorem jgG (L:Sl)(s:St)(F:List AV->Prop):yo P [] L s F=F []:=nr rfl
theorem jgF (x:Nat)(l:List RV)(L:Sl)(s:St)(F:List AV->Prop):yo P (.t x :: l) L s F=on1 ⟨[],L⟩ (.t x) λv=>yo P l L s λvs=>F (v :: vs):=by
 simp only[yo,jaU,on1,okA,vl,En.has,En.look,has,cond_false]
theorem jgL (v:AV):zq [v]=v:=nr rfl
theorem jgK (v u:AV):zq [v,u]=.tup [v,u]:=nr rfl
theorem jgJ (v u t:AV):zq [v,u,t]=.tup [v,u,t]:=nr rfl
theorem joI (v:AV)(s:St):ji (.ok v s) K=K v s:=nr rfl
theorem jk8 (b:Bool):ji (unV .not (.bool b) st) K=K (.bool (!b)) st:=by cases b<;>rfl
theorem Qk (k:IntKind):eqK k k=true:=by cases k<;>rfl
theorem Uu {op:BinOp}{f:Int->Int->Bool}(hf:∀ k a b,(Q4 op).run k a b=some (.bool (f a b)))(k:IntKind)(a b:Int):ji (yJ op (.int k a) (.int k b) st) K=K (.bool (f a b)) st:=by
 simp only[yJ,Qk,cond_true,hf,jR,ji]
theorem jel (k:IntKind)(a b:Int):ji (yJ .lss (.int k a) (.int k b) st) K=K (.bool (decide (a<b))) st:=by
 rw[Uu (f:=ltI) (λ_ _ _=>rfl),Xu]
theorem jld (k:IntKind)(a b:Int):ji (yJ .gtr (.int k a) (.int k b) st) K=K (.bool (decide (b<a))) st:=by
 rw[Uu (f:=λa b=>ltI b a) (λ_ _ _=>rfl),Xu]
theorem jla (k:IntKind)(a b:Int):ji (yJ .leq (.int k a) (.int k b) st) K=K (.bool (decide (a<=b))) st:=by
 rw[Uu (f:=λa b=>cond (ltI b a) false true) (λ_ _ _=>rfl),Xu]
 congr 2
 by_cases h:b<a
 ·rw[decide_eq_true h,decide_eq_false om];rfl
 ·rw[decide_eq_false h,decide_eq_true om];rfl
theorem jle (k:IntKind)(a b:Int):ji (yJ .geq (.int k a) (.int k b) st) K=K (.bool (decide (b<=a))) st:=by
 rw[Uu (f:=λa b=>cond (ltI a b) false true) (λ_ _ _=>rfl),Xu]
 congr 2
 by_cases h:a<b
 ·rw[decide_eq_true h,decide_eq_false om];rfl
 ·rw[decide_eq_false h,decide_eq_true om];rfl
theorem jlg (k:IntKind)(a b:Int):ji (yJ .eql (.int k a) (.int k b) st) K=K (.bool (decide (a=b))) st:=by
 rw[Uu (f:=eqI) (λ_ _ _=>rfl),Xw]
theorem jk9 (k:IntKind)(a b:Int):ji (yJ .neq (.int k a) (.int k b) st) K=K (.bool (decide (a≠b))) st:=by
 rw[Uu (f:=λa b=>cond (eqI a b) false true) (λ_ _ _=>rfl),Xw]
 congr 2
 by_cases h:a=b
 ·rw[decide_eq_true h,decide_eq_false (by simpa using h)];rfl
 ·rw[decide_eq_false h,decide_eq_true h];rfl
theorem jcH (a b:List Nat):ji (UP .eql (.str a) (.str b) st) K=K (.bool (decide (a=b))) st:=by
 simp only[UP,vE,jR,ji,JH]
theorem Hl (s:St):s.bare.bare=s.bare:=nr rfl
theorem Hm (s:St):back s s=s:=nr rfl
theorem Hn (s:St):back s s.bare=s:=nr rfl
theorem joO {a:Nat}(h:a+1<=9223372036854775807):ji (yJ .add (.int .i64 (a:Int)) (.int .i64 1) st) K=K (.int .i64 ((a+1:Nat):Int)) st:=by
 have:(Q4 .add).run .i64 (a:Int) 1=some (.int .i64 ((a+1:Nat):Int)):=by
  show some (AV.int .i64 (qY .i64 (Int.add (a:Int) 1)))=_;rw[YO,IntWalk.i64_in]
  ·rfl
  ·constructor
   ·have:Int.add (a:Int) 1=(a:Int)+1:=rfl;omega
   ·have:Int.add (a:Int) 1=(a:Int)+1:=rfl;omega
 simp only[yJ,Qk,cond_true,this,jR,ji]
theorem jf8 (s:List Nat):ji (jeN (.str s) st) K=K (.int .i64 ((s.length:Nat):Int)) st:=by
 simp only[jeN,jE,jO,ji];rfl
theorem jem (b o n c s:Nat)(x:Bool):ji (jbk (.slice b o n c s x) st) K=K (.int .i64 ((n:Nat):Int)) st:=nr rfl
theorem jaH:ji (jbk .nils st) K=K (.int .i64 0) st:=nr rfl
theorem jme {s:List Nat}{i:Nat}(h:i<s.length)(k:IntKind):ji (Ky (.str s) (.int k (i:Int)) st) K=K (.int .u8 ((s.getD i 0:Nat):Int)) st:=by
 have:Qck (Qcj i) s.length=true:=by rw[qg];omega
 have e:qp (.int k (i:Int))=λF=>F i:=by funext F;show(force i F)=F i;rw[jE]
 simp only[Ky,zM,e,jO,this,cond_true,zC,ji];rfl
theorem joM {b o n c z:Nat}{x:Bool}{i:Nat}(h:i<n)(s:Nat)(k:IntKind):ji (Uk s (.slice b o n c z x) (.int k (i:Int)) st) K=K (.ptr b (o+i * s)) st:=by
 have:Qck (Qcj i) n=true:=by rw[qg];omega
 have e:qp (.int k (i:Int))=λF=>F i:=by funext F;show(force i F)=F i;rw[jE]
 simp only[Uk,e,this,cond_true,jE,ji];rfl
def qh (h:T AO)(b:Nat):Nat:=match jx h b with|some (.row n _ _ _)=>n|_=>0
def rat (h:T AO)(b i:Nat):AV:=match jx h b with|some (.row _ zl z cs)=>qA zl z cs i|_=>.bad
theorem jaR (h:T AO)(b n zl:Nat)(z:List AV)(cs:T AV)(c:Nat):qh ((j1 (jK b)).run (.row n zl z cs) h) c=if c=b then n else qh h c:=by
 unfold qh;rw[jX];by_cases hc:c=b
 ·rw[if_pos hc,if_pos hc]
 ·rw[if_neg hc,if_neg hc]
theorem jcY (h:T AO)(b n zl:Nat)(z:List AV)(cs:T AV)(c i:Nat):rat ((j1 (jK b)).run (.row n zl z cs) h) c i=if c=b then qA zl z cs i else rat h c i:=by
 unfold rat;rw[jX];by_cases hc:c=b
 ·rw[if_pos hc,if_pos hc]
 ·rw[if_neg hc,if_neg hc]
structure Ext (st st':St):Prop where
 nx:st.nx<=st'.nx
 fr:st'.fr=[]
 keep:∀ b,b<st.nx->jx st'.h b=jx st.h b
theorem Ext.bare (st:St):Ext st st.bare:=⟨μ _,rfl,λ_ _=>rfl⟩
theorem Ext.trans {a b c:St}(h:Ext a b)(k:Ext b c):Ext a c:=⟨ψ h.nx k.nx,k.fr,λx hx=>(k.keep x (Qat hx h.nx)).trans (h.keep x hx)⟩
theorem jlb {b o:Nat}(h:o<qh st.h b):ji (XV (.ptr b o) st) K=K (rat st.h b o) st:=by
 unfold qh at h;unfold rat;simp only[XV,q7];cases hg:jx st.h b with
 |none=>rw[hg] at h;exact absurd h (QaJ _)
 |some ob=>
  rw[hg] at h;cases ob<;>try(exact absurd h (QaJ _))
  rename_i n zl z cs;have:Qck (Qcj o) n=true:=by rw[qg];exact h
  simp only[yh,this,cond_true,ji]
end
section
variable {P:Program} {base:Bs} {st:St} {K:AV->St->Prop} {e:En}
theorem jsi {op:BinOp}{k:IntKind}{a b:Int}{v:AV}(h:(Q4 op).run k a b=some v):ji (yJ op (.int k a) (.int k b) st) K=K v st:=by
 simp only[yJ,Qk,cond_true,h,jR,ji]
theorem jaG {k:Nat}(h:k<=62):ji (u7 .shl (.int .i64 1) (.int .i64 (k:Int)) st) K=K (.int .i64 ((2 ^ k:Nat):Int)) st:=by
 have h0:ltI (k:Int) (.ofNat 0)=false:=rfl;have h1:min (k:Int).toNat IntKind.i64.bits=k:=by
  show min k 64=k;omega
 have h2:(1:Int) * 2 ^ k=((2 ^ k:Nat):Int):=by rw[Int.one_mul];simp
 have h3:2 ^ k<=2 ^ 62:=Qbq dc h;have h4:IntKind.i64.wrap ((2 ^ k:Nat):Int)=((2 ^ k:Nat):Int):=by
  generalize 2 ^ k=q at h3;exact IntWalk.i64_in _ ⟨om,om⟩
 simp only[u7,Zw,h0,cond_false,h1,h2,h4,jR,ji]
theorem jrn {a:Int}{k:Nat}(h:k<=64):ji (u7 .shr (.int .i64 a) (.int .i64 (k:Int)) st) K=K (.int .i64 (a.fdiv (2 ^ k))) st:=by
 have h0:ltI (k:Int) (.ofNat 0)=false:=rfl;have h1:min (k:Int).toNat IntKind.i64.bits=k:=by
  show min k 64=k;omega
 simp only[u7,Zw,h0,cond_false,h1,jR,ji]
theorem z1:((1:Nat):Int)=1:=nr rfl
end
section
variable {P:Program} {base:Bs} {st:St} {K:AV->St->Prop} {e:En}
def wx (h:T AO)(b:Nat):Prop:=∃ n zl z cs,jx h b=some (.row n zl z cs)
theorem Ya {h:T AO}{b:Nat}(k:0<qh h b):wx h b:=by
 unfold qh at k;cases hg:jx h b with
 |none=>rw[hg] at k;exact absurd k (Qbk _)
 |some o=>
  rw[hg] at k;cases o<;>try(exact absurd k (Qbk _))
  exact⟨_,_,_,_,hg⟩
theorem zX {h:T AO}{b n zl:Nat}{z:List AV}{cs:T AV}(e:jx h b=some (.row n zl z cs)):qh h b=n:=by unfold qh;rw[e]
theorem X8 {h:T AO}{b n zl:Nat}{z:List AV}{cs:T AV}(e:jx h b=some (.row n zl z cs))(i:Nat):rat h b i=qA zl z cs i:=by unfold rat;rw[e]
theorem yC {h h':T AO}{b:Nat}(e:jx h' b=jx h b):qh h' b=qh h b:=by unfold qh;rw[e]
theorem yp {h h':T AO}{b:Nat}(e:jx h' b=jx h b)(i:Nat):rat h' b i=rat h b i:=by unfold rat;rw[e]
theorem Jc {h h':T AO}{b:Nat}(e:jx h' b=jx h b)(k:wx h b):wx h' b:=by unfold wx;rw[e];exact k
structure Made (st st':St)(n:Nat)(f:Nat->AV):Prop where
 nx:st'.nx=st.nx+1
 fr:st'.fr=st.fr
 keep:∀ c,c≠st.nx->jx st'.h c=jx st.h c
 row:wx st'.h st.nx
 len:qh st'.h st.nx=n
 cell:∀ i,i<n->rat st'.h st.nx i=f i
theorem jj3 {n zl:Nat}{z:List AV}{cs:T AV}{f:Nat->AV}(hf:∀ i,i<n->qA zl z cs i=f i) :
  Made st ⟨st.nx+1,(j1 (jK st.nx)).run (.row n zl z cs) st.h,st.dirty,st.fr⟩ n f:=by
 refine⟨rfl,rfl,λc hc=>?_,?_,?_,λi hi=>?_⟩
 ·show jx ((j1 (jK st.nx)).run _ st.h) c=_;rw[jX,if_neg hc]
 ·exact⟨n,zl,z,cs,by rw[jX,if_pos rfl]⟩
 ·rw[jaR,if_pos rfl]
 ·rw[jcY,if_pos rfl];exact hf i hi
def jeJ (size bytes:Nat)(z:List AV)(l c:AV)(st:St):ER:=qp l λl=>qp c λc=>
 cond (Qck l c) (cond (Qck (Qcm bytes c) 140737488355328) (cond (Qck c 9223372036854775807)
  (force (Qcm c size) λn=>st.alloc (.row n size z .e) λb st=>.ok (.slice b 0 l c size true) st) .no) .no) .no
theorem Um (size bytes:Nat)(z:List AV)(l c:A):wK P base (.i (.mkS size bytes z l c)) e st K=on1 e l λv=>on1 e c λu=>ji (jeJ size bytes z v u st) K:=k_2 rfl (λ_=>rfl) K
theorem jdi (z:List AV):wK P base (.i (.alloc z)) e st K=ji (Ev.newRow st z) K:=k_0 (V:=λst=>Ev.newRow st z) rfl (λ_=>rfl) K
def uP (z:List AV)(ps:List ((Nat×Nat)×AV))(st:St):ER:=jR (XN z ps) λcs=>.ok (.agg cs) st
def Xo (size bytes:Nat)(s x:AV)(st:St):ER:=JN x λn=>firstCells st size n x λnews=>qS st size bytes s n news
theorem jlR (size bytes:Nat)(s x:A):wK P base (.i (.app size bytes s x)) e st K=on1 e s λv=>on1 e x λu=>ji (Xo size bytes v u st) K:=k_2 rfl (λ_=>rfl) K
theorem uE {k:IntKind}{n:Nat}{F:Nat->ER}:qp (.int k (n:Int)) F=F n:=by show force n F=F n;rw[jE]
theorem qD {a b:Nat}(h:a<=b):Qck a b=true:=by rw[qg];exact h
theorem jfw {a b:Nat}(h:b<a):Qck a b=false:=by
 cases hb:Qck a b
 ·rfl
 ·rw[qg] at hb;omega
theorem YJ {a b:Nat}(h:a=b):Qci a b=true:=by rw[qH];exact h
theorem jl0 {a b:Nat}(h:a≠b):Qci a b=false:=by
 cases hb:Qci a b
 ·rfl
 ·rw[qH] at hb;exact absurd hb h
theorem V5 {size bytes l c:Nat}{z:List AV}{k k':IntKind}(h1:l<=c)(h2:bytes * c<=140737488355328)(h3:c<=9223372036854775807)
  (hk:∀ st',Made st st' (c * size) (λi=>z.getD (i % size) .bad)->K (.slice st.nx 0 l c size true) st'):ji (jeJ size bytes z (.int k (l:Int)) (.int k' (c:Int)) st) K:=by
 have e2:Qck (Qcm bytes c) 140737488355328=true:=qD h2;simp only[jeJ,uE,qD h1,e2,qD h3,cond_true,jE,St.alloc_eq,ji];refine hk _ (jj3 λi _=>?_);rw[yL,Xe];rfl
def One (v:AV):Prop:=v.cells=[v]/\v.plain=true/\v.cell=true
theorem One.lall {v:AV}(h:One v):lall AV.cell [v]=true:=by
 simp only[Ev.lall,h.2.2,cond_true]
end
section
variable {P:Program} {base:Bs} {st:St} {K:AV->St->Prop} {e:En}
theorem jlf (off b o:Nat):ji (je4 off (.ptr b o) st) K=K (.ptr b (o+off)) st:=by
 simp only[je4,q7,jE,ji];rfl
theorem jf2 (b o:Nat):ji (jeG (.ptr b o) st) K=K (.ptr b o) st:=nr rfl
theorem jgg (a b:AV):ji (WC 0 (.tup [a,b]) st) K=K a st:=nr rfl
theorem jgf (a b:AV):ji (WC 1 (.tup [a,b]) st) K=K b st:=nr rfl
end
section
variable {P:Program} {base:Bs} {st:St} {K:AV->St->Prop} {e:En}
def Ki (st:St):ER:=st.alloc (.map []) λb st=>.ok (.map b) st
theorem jr1:wK P base (.i .mkMap) e st K=ji (Ki st) K:=k_0 (V:=Ki) rfl (λ_=>rfl) K
theorem jrT (hk:∀ st',st'.nx=st.nx+1->st'.fr=st.fr->(∀ c,c≠st.nx->jx st'.h c=jx st.h c)->K (.map st.nx) st'):ji (Ki st) K:=by
 simp only[Ki,St.alloc_eq,ji];refine hk _ rfl rfl λc hc=>?_;show jx ((j1 (jK st.nx)).run _ st.h) c=_;rw[jX,if_neg hc]
end
structure Gate (h:T AO)(nx g p m:Nat):Prop where
 g_lt:g<nx
 p_lt:p<nx
 glen:qh h g=3
 g0:rat h g 0=.slice p 0 1 1 2 true
 g1:rat h g 1=.nils
 plen:qh h p=2
 p0:rat h p 0=.int .u32 0
 p1:rat h p 1=.int .u32 0
theorem Gate.keep {h h':T AO}{nx nx' g p m:Nat}(k:Gate h nx g p m)(hk:∀ c,c<nx->jx h' c=jx h c)(hn:nx<=nx'):Gate h' nx' g p m:=
 ⟨Qat k.g_lt hn,Qat k.p_lt hn,(yC (hk g k.g_lt)).trans k.glen,(yp (hk g k.g_lt) 0).trans k.g0,(yp (hk g k.g_lt) 1).trans k.g1,
  (yC (hk p k.p_lt)).trans k.plen,(yp (hk p k.p_lt) 0).trans k.p0,(yp (hk p k.p_lt) 1).trans k.p1⟩
inductive XK where
 |i (i:Ins)
 |call (f:A) (l:List A)
 |pan (x:A)
 |defer (f:A) (l:List A)
structure XS where
 dst:Option Nat
 keep:Bool
 g:Option (Nat×Bool)
 k:XK
structure XD where
 s:XS
 te:Option (Option A)
 lt:TypeId
 prt:List (Nat×TypeId)
inductive XC where
 |skip
 |ops (l:List XS)
 |cops (l:List (XS×Option (List XD)))
 |dops (l:List (XD×Option (List XD)))
 |seq (a b:XC)
 |cond (x:A) (a b:XC)
 |block (id:Nat) (c:XC)
 |loop (c:XC)
 |exit (id:Nat)
 |ret
structure XF where
 ps:List Nat
 body:XC
 res:List RV
structure XH where
 ps:List Nat
 dst:Option Nat
 keep:Bool
 ops:List XS
 body:XC
 res:List RV
def Kk (P:Program)(o:Op):Option XK:=
 match qu o with
 |some (f,args)=>(qP f).bind λf=>(Z8 args).map λl=>.call f l
 |none=>match o with
  |.panic x=>(qP x).map .pan
  |.defer c=>(match c.callee with | .value f=>(qP f).bind λf=>(Z8 c.args.toList).map λl=>.defer f l|_=>none)
  |o=>(XL P o).map .i
def Xv (U:Nat)(dst:Option Nat):Bool:=match dst with|some d=>inU U d|none=>false
def HY (P:Program)(U:Nat)(ops:Array Oper)(o:Oper):Option XS:=
 (Kk P o.op).bind λk=>(jj6 ops o).map λg=>⟨o.dst,Xv U o.dst,g,k⟩
def Ud (P:Program)(U:Nat)(ops:Array Oper):List Oper->Option (List XS)
 |[]=>some []
 |o :: l=>(HY P U ops o).bind λs=>(Ud P U ops l).map λl=>s :: l
def Ve (P:Program)(U:Nat)(ops:Array Oper)(i:Nat):Nat->List Oper->Option (List XD)
 |_,[]=>some []
 |k,o :: l=>cond (Jt ops i k) ((Ve P U ops i (k+1) l).map λl=>⟨⟨o.dst,Xv U o.dst,none,.i (.mv (.c qd))⟩,none,0,[]⟩ :: l)
  (cond (yK P ops k o) none (match qu o.op with
   |some _=>none
   |none=>(HY P U ops o).bind λs=>(jbe P o.op).bind λte=>(Ve P U ops i (k+1) l).map λl=>⟨s,te,Qi o.op,Ev.partners P ops (qx k) k o⟩ :: l))
def w7 (P:Program)(U:Nat)(ops:Array Oper)(i:Nat)(lo:List Oper):Option (List XD):=
 cond (HQ P U ops i) (cond ((Qac i (Qcn ops.size i)).all (Jt ops i)) (some []) (Ve P U ops i i lo)) none
def Ub (P:Program)(U:Nat)(ops:Array Oper)(i:Nat)(lo:List Oper):Option (List XD):=
 (w7 P U ops i lo).bind λl=>cond (l.all λs=>s.prt.isEmpty) (some l) none
def gO (P:Program)(U:Nat)(ops:Array Oper):Nat->List Oper->Option (List (XS×Option (List XD)))
 |_,[]=>some []
 |i,o :: lo=>(HY P U ops o).bind λs=>(gO P U ops (i+1) lo).map λl=>(s,match qu o.op with|some _=>Ub P U ops i (o :: lo)|none=>none) :: l
def HZ (P:Program)(U:Nat)(ops:Array Oper):Nat->List Oper->Option (List (XD×Option (List XD)))
 |_,[]=>some []
 |i,o :: lo=>cond (yK P ops i o) none ((HY P U ops o).bind λs=>(jbe P o.op).bind λte=>(HZ P U ops (i+1) lo).map λl=>(⟨s,te,Qi o.op,Ev.partners P ops (qx i) i o⟩,match qu o.op with|some _=>w7 P U ops i (o :: lo)|none=>none) :: l)
def Wo (P:Program)(U:Nat):Code->Option XC
 |.skip=>some .skip
 |.region _ ops d=>(match d with
  |false=>(Ud P U ops ops.toList).map .ops
  |true=>cond (Ji P ops) (cond (calm P ops 0 ops.toList) ((gO P U ops 0 ops.toList).map .cops) ((HZ P U ops 0 ops.toList).map .dops)) none)
 |.seq a b=>(Wo P U a).bind λa=>(Wo P U b).map λb=>.seq a b
 |.cond x a b=>(qP x).bind λx=>(Wo P U a).bind λa=>(Wo P U b).map λb=>.cond x a b
 |.block id a=>(Wo P U a).map λa=>.block id a
 |.loop a=>(Wo P U a).map λa=>.loop a
 |.exit id=>some (.exit id)
 |.ret=>some .ret
 |_=>none
def jv (P:Program)(f:FuncId):Option XF:=
 match P.funcs[f]? with
 |some fn=>(match fn.body with
  |some c=>(Wo P (q8 fn c) c).bind λb=>(Km P fn.results.toList).map λr=>⟨(Qab (fn.params.size+fn.nfree)).filter (inU (q8 fn c)),b,r⟩
  |none=>none)
 |none=>none
def Kl (P:Program)(f:FuncId):Option XH:=
 match P.funcs[f]? with
 |some fn=>(match fn.body with
  |some (.seq (.region id ops false) c)=>(match ops.toList with
   |o :: l=>cond (vP o) ((Ud P (q8 fn (.seq (.region id ops false) c)) ops l).bind λq=>(Wo P (q8 fn (.seq (.region id ops false) c)) c).bind λb=>(Km P fn.results.toList).map λr=>
    ⟨(Qab (fn.params.size+fn.nfree)).filter (inU (q8 fn (.seq (.region id ops false) c))),o.dst,Xv (q8 fn (.seq (.region id ops false) c)) o.dst,q,b,r⟩) none
   |[]=>none)
  |_=>none)
 |none=>none
def XK.nd:XK->Bool | .defer _ _=>false|_=>true
def XC.nd:XC->Bool
 |.ops l=>l.all λs=>s.k.nd
 |.cops l=>l.all λs=>s.1.k.nd
 |.dops l=>l.all λs=>s.1.s.k.nd
 |.seq a b=>_root_.cond a.nd b.nd false
 |.cond _ a b=>_root_.cond a.nd b.nd false
 |.block _ a=>a.nd
 |.loop a=>a.nd
 |_=>true
def Zg (r:ER)(K Kp:AV->St->Prop):Prop:=match r with | .ok v st=>K v st | .pn v st=>Kp v st | .no=>False
def CX (P:Program)(base:Bs)(f:FuncId)(args:List AV)(st:St)(K Kp:AV->St->Prop):Res (K,Kp):=
 ∃ r,(∃ N D,∀ n,N<=n->∀ d,D<=d->evC P base n d f args st=r)/\Zg r K Kp
theorem CW.cx {P:Program}{base:Bs}{f:FuncId}{args:List AV}{st:St}{K Kp:AV->St->Prop}(h:CW P base f args st K):CX P base f args st K Kp:=by
 obtain⟨v,st',h1,h2⟩:=h;exact⟨_,h1,h2⟩
theorem jeD {r:ER}{K Kp K' Kp':AV->St->Prop}(h:Zg r K Kp)(h1:∀ v s,K v s->K' v s)(h2:∀ v s,Kp v s->Kp' v s):Zg r K' Kp':=by
 cases r with
 |no=>exact h
 |ok v s=>exact h1 v s h
 |pn v s=>exact h2 v s h
theorem CX.mono {P:Program}{base:Bs}{f:FuncId}{args:List AV}{st:St}{K Kp K' Kp':AV->St->Prop}(h:CX P base f args st K Kp)(h1:∀ v s,K v s->K' v s)(h2:∀ v s,Kp v s->Kp' v s):CX P base f args st K' Kp':=by
 obtain⟨r,h3,h4⟩:=h;exact⟨r,h3,jeD h4 h1 h2⟩
theorem CX.cw {P:Program}{base:Bs}{f:FuncId}{args:List AV}{st:St}{K:AV->St->Prop}(h:CX P base f args st K λ_ _=>False):CW P base f args st K:=by
 obtain⟨r,h3,h4⟩:=h;cases r with
 |no=>exact h4.elim
 |pn v s=>exact h4.elim
 |ok v s=>exact⟨v,s,h3,h4⟩
def DX (P:Program)(base:Bs)(f:FuncId)(args:List AV)(m:Md)(st:St)(K:Md->St->Prop):Res K:=
 ∃ m' st',(∃ N D,∀ n,N<=n->∀ d,D<=d->(yP P f).run (evC P base n d) n args m st=.ok m' st')/\K m' st'
section
variable (P:Program) (base:Bs)
def wq (fv:AV)(vs:List AV)(st:St)(K Kp:AV->St->Prop):Res (K,Kp):=
 match fv with
 |.fn f caps=>CX P base f (vs ++ caps) st (λv st'=>K v (back st st')) (λv st'=>Kp v (back st st'))
 |_=>False
def ja6 (v:AV)(st:St)(Kp:AV->St->Prop):Res Kp:=match v with | .iface t u=>Kp (.iface t u) st|_=>False
def Vv (fv:AV)(vs:List AV)(st:St)(K:AV->St->Prop):Res K:=
 match fv with
 |.fn f caps=>K qd ⟨st.nx,st.h,st.dirty,(f,vs ++ caps) :: st.fr⟩
 |_=>False
def xK (k:XK)(e:En)(st:St)(K Kp:AV->St->Prop):Res (k,K,Kp):=
 match k with
 |.i i=>wI P i e st K
 |.call f l=>okA e f=true/\l.all (okA e)=true/\wq P base (vl e f) (l.map (vl e)) st K Kp
 |.pan x=>okA e x=true/\ja6 (vl e x) st Kp
 |.defer f l=>okA e f=true/\l.all (okA e)=true/\Vv (vl e f) (l.map (vl e)) st K
def xO:(l:List XS)->En->St->(K:En->St->Prop)->(Kp:AV->Sl->St->Prop)->Res (l,K,Kp)
 |[],e,st,K,Kp=>K e st
 |s :: l,e,st,K,Kp=>gW s.g e (xK P base s.k e st (λv st'=>xO l (ya s.dst s.keep v e) st' K Kp) λv st'=>Kp v e.g st') (xO l (ya s.dst s.keep qd e) st K Kp)
def xRK (k:XK)(e:En)(st:St)(K:AV->St->Prop):Res (k,K):=match k with | .i i=>wI P i e st K|_=>False
def xR:(l:List XD)->En->List TE->St->Res l
 |[],e,tb,st=>True
 |s :: l,e,tb,st=>gW s.s.g e (xRK P s.s.k e st λv st'=>held P s.lt (teW s.te e v st st') tb s.prt=true/\xR l (ya s.s.dst s.s.keep v e) (teW s.te e v st st' :: tb) st') (xR l (ya s.s.dst s.s.keep qd e) (.none :: tb) st)
def Xh (b:Option (List XD))(e:En)(tb:List TE)(st:St)(p:Prop):Res (b,p):=match b with|some l=>xR P l e tb st/\p|none=>False
def xCO (L0:Sl):(l:List (XS×Option (List XD)))->En->St->(K:En->St->Prop)->(Kp:AV->Sl->St->Prop)->Res (l,K,Kp)
 |[],e,st,K,Kp=>K e st
 |s :: l,e,st,K,Kp=>gW s.1.g e (xK P base s.1.k e st (λv st'=>xCO L0 l (ya s.1.dst s.1.keep v e) st' K Kp) λv st'=>Xh P s.2 e [] st (Kp v L0 st')) (xCO L0 l (ya s.1.dst s.1.keep qd e) st K Kp)
def xDO (L0:Sl):(l:List (XD×Option (List XD)))->En->List TE->St->(K:En->St->Prop)->(Kp:AV->Sl->St->Prop)->Res (l,K,Kp)
 |[],e,tb,st,K,Kp=>K e st
 |s :: l,e,tb,st,K,Kp=>gW s.1.s.g e
  (xK P base s.1.s.k e st (λv st'=>held P s.1.lt (teW s.1.te e v st st') tb s.1.prt=true/\xDO L0 l (ya s.1.s.dst s.1.s.keep v e) (teW s.1.te e v st st' :: tb) st' K Kp) λv st'=>Xh P s.2 e tb st (Kp v L0 st'))
  (xDO L0 l (ya s.1.s.dst s.1.s.keep qd e) (.none :: tb) st K Kp)
def xC:(c:XC)->Sl->St->(Q:Out->Prop)->(Kp:AV->Sl->St->Prop)->Res (c,Q,Kp)
 |.skip,L,st,Q,Kp=>Q (.go L st)
 |.ops l,L,st,Q,Kp=>xO P base l ⟨[],L⟩ st (λe st'=>Q (.go e.g st')) Kp
 |.cops l,L,st,Q,Kp=>xCO P base L l ⟨[],L⟩ st (λe st'=>Q (.go e.g st')) Kp
 |.dops l,L,st,Q,Kp=>xDO P base L l ⟨[],L⟩ [] st (λe st'=>Q (.go e.g st')) Kp
 |.seq a b,L,st,Q,Kp=>xC a L st (Jv (λL' st'=>xC b L' st' Q Kp) Q) Kp
 |.cond x a b,L,st,Q,Kp=>okA ⟨[],L⟩ x=true/\vU (vl ⟨[],L⟩ x) (xC a L st Q Kp) (xC b L st Q Kp)
 |.block id a,L,st,Q,Kp=>xC a L st (yt id Q) Kp
 |.loop a,L,st,Q,Kp=>∃ n,uZ (λL st Q=>xC a L st Q Kp) n L st Q
 |.exit id,L,st,Q,Kp=>Q (.ex id L st)
 |.ret,L,st,Q,Kp=>Q (.rt L st)
def yI (res:List RV)(K Kp:AV->St->Prop):(ds:List (FuncId×List AV))->Sl->St->Md->Res (ds,K,Kp)
 |[],L,st,m=>(match m with
  |.calm=>yo P res L st λvs=>K (zq vs) st
  |.pan v=>Kp v st
  |.done=>False)
 |d :: ds,L,st,m=>DX P base d.1 d.2 m st.bare λm' st'=>(match m' with
  |.calm=>yI res K Kp ds L st'.bare .calm
  |.pan v=>yI res K Kp ds L st'.bare (.pan v)
  |.done=>yI res K Kp ds L st'.bare .calm)
def U6 (res:List RV)(K Kp:AV->St->Prop):Out->Res (K,Kp)
 |.go L st=>yI P base res K Kp st.fr L st.bare .calm
 |.rt L st=>yI P base res K Kp st.fr L st.bare .calm
 |.ex _ _ _=>False
def uD (res:List RV)(K Kp:AV->St->Prop)(v:AV)(L:Sl)(st:St):Res (K,Kp):=yI P base res K Kp st.fr L st.bare (.pan v)
def jfh (res:List RV)(m:Md)(K:Md->St->Prop):Out->Res K
 |.go L st=>yo P res L st λ_=>K m st
 |.rt L st=>yo P res L st λ_=>K m st
 |.ex _ _ _=>False
end
section
variable {P:Program} {base:Bs} {U:Nat} {t:T AV}
def RX (U:Nat)(nd:Bool)(st:St)(r:R)(Q:Out->Prop)(Kp:AV->Sl->St->Prop):Prop:=
 match r with
 |.go t s=>∃ L,J6 U t L/\(nd=true->s.fr=st.fr)/\Q (.go L s)
 |.ex id t s=>∃ L,J6 U t L/\(nd=true->s.fr=st.fr)/\Q (.ex id L s)
 |.rt t s=>∃ L,J6 U t L/\(nd=true->s.fr=st.fr)/\Q (.rt L s)
 |.pn v t s=>∃ L,J6 U t L/\(nd=true->s.fr=st.fr)/\Kp v L s
 |.no=>False
theorem RX.fr {nd:Bool}{st st':St}{r:R}{Q:Out->Prop}{Kp:AV->Sl->St->Prop}(h:RX U nd st' r Q Kp)(hf:nd=true->st'.fr=st.fr):RX U nd st r Q Kp:=by
 cases r with
 |no=>exact h
 |go t s=>obtain⟨L,h1,h2,h3⟩:=h;exact⟨L,h1,λhn=>(h2 hn).trans (hf hn),h3⟩
 |ex i t s=>obtain⟨L,h1,h2,h3⟩:=h;exact⟨L,h1,λhn=>(h2 hn).trans (hf hn),h3⟩
 |rt t s=>obtain⟨L,h1,h2,h3⟩:=h;exact⟨L,h1,λhn=>(h2 hn).trans (hf hn),h3⟩
 |pn v t s=>obtain⟨L,h1,h2,h3⟩:=h;exact⟨L,h1,λhn=>(h2 hn).trans (hf hn),h3⟩
theorem jei {ns:List Nat}{rs:List AV}{e:En}{st:St}(h:HasO U ns t rs e){o:Op}{k:XK}(hl:Kk P o=some k){K Kp:AV->St->Prop}(hw:xK P base k e st K Kp) :
  (∃ v st',qu o=none/\(jy P (jQ U ns) o).run ⟨t,rs⟩ st=.ok v st'/\(k.nd=true->st'.fr=st.fr)/\K v st') \/
  (∃ v,qu o=none/\(jy P (jQ U ns) o).run ⟨t,rs⟩ st=.pn v st/\Kp v st) \/
  (∃ f args fid caps r N D,qu o=some (f,args)/\(jQ U ns f).run ⟨t,rs⟩=.fn fid caps /\
   (∀ n,N<=n->∀ d,D<=d->evC P base n d fid (yS (ye (λx=>(jQ U ns x).run ⟨t,rs⟩) args) caps) st=r)/\Zg r (λv s=>K v (back st s)) λv s=>Kp v (back st s)):=by
 unfold Kk at hl;cases hc:qu o with
 |some p=>
  obtain⟨f,args⟩:=p;rw[hc] at hl;obtain⟨fa,h1,hl⟩:=bind_some hl;obtain⟨l,h2,rfl⟩:=Go.Sy.map_some hl;obtain⟨h3,h4,h5⟩:=hw;obtain⟨h6,h7⟩:=h.fn h1 h2 h3 h4;right;right;unfold wq at h5;cases hv:vl e fa<;>rw[hv] at h5<;>try(exact h5.elim)
  rename_i fid caps;obtain⟨r,⟨N,D,h8⟩,h9⟩:=h5;refine⟨f,args,fid,caps,r,N,D,rfl,h6.trans hv,λn hn d hd=>?_,h9⟩;rw[yv,yE,h7];exact h8 n hn d hd
 |none=>
  rw[hc] at hl;dsimp only at hl;have ins:∀ i,XL P o=some i->k=.i i->(∃ v st',qu o=none/\(jy P (jQ U ns) o).run ⟨t,rs⟩ st=.ok v st'/\(k.nd=true->st'.fr=st.fr)/\K v st'):=by
   intro i h1 hk;subst hk;obtain⟨v,st',h2,h3,h4⟩:=jk1 h h1 hw;exact⟨v,st',hc,h2,λ_=>h3,h4⟩
  cases o;case panic x=>
   obtain⟨a,h1,rfl⟩:=Go.Sy.map_some hl;obtain⟨h2,h3⟩:=hw;have hv:=(jL (U4 U ns t rs) h1).trans (h.val h2);unfold ja6 at h3;cases hk:vl e a<;>rw[hk] at h3<;>try(exact h3.elim)
   rename_i ty u;rw[hk] at hv;refine .inr (.inl ⟨_,rfl,?_,h3⟩);simp only[jy];rw[hv]
  case defer c=>
   dsimp only at hl;cases hcal:c.callee with
   |value f=>
    rw[hcal] at hl;obtain⟨fa,h1,hl⟩:=bind_some hl;obtain⟨l,h2,rfl⟩:=Go.Sy.map_some hl;obtain⟨h3,h4,h5⟩:=hw;obtain⟨h6,h7⟩:=h.fn h1 h2 h3 h4;unfold Vv at h5;cases hv:vl e fa<;>rw[hv] at h5<;>try(exact h5.elim)
    rename_i fid caps;rw[hv] at h6;refine .inl ⟨_,_,rfl,?_,(λhn=>nomatch hn),h5⟩;simp only[jy,hcal];rw[h6];dsimp only;rw[yv,yE,h7]
   |_=>rw[hcal] at hl;cases hl
  all_goals
   obtain⟨i,h1,h2⟩:=Go.Sy.map_some hl;exact .inl (by have:=ins i h1 h2.symm;rw[hc] at this;exact this)
theorem kz {ops:Array Oper}{Q:Out->Prop}{Kp:AV->Sl->St->Prop}(nd:Bool):∀ (lo:List Oper) (l:List XS) (ns:List Nat) (rs:List AV) (e:En) (st:St),Ud P U ops lo=some l->HasO U ns t rs e->(nd=true->(l.all λs=>s.k.nd)=true)->
  xO P base l e st (λe s=>Q (.go e.g s)) Kp->∃ r N D,RX U nd st r Q Kp/\∀ n,N<=n->∀ d,D<=d->(yX P U ops lo ns).run (evC P base n d) n t rs st=r
 |[],l,ns,rs,e,st,hl,h,hnd,hw=>by
  cases hl;exact⟨.go _ st,0,0,⟨e.g,h.flush,λ_=>rfl,hw⟩,λ_ _ _ _=>rfl⟩
 |o :: lo,l,ns,rs,e,st,hl,h,hnd,hw=>by
  obtain⟨s,h1,hl⟩:=bind_some hl;obtain⟨l',h2,rfl⟩:=Go.Sy.map_some hl;obtain⟨k,h3,h1⟩:=bind_some h1;obtain⟨g,h4,rfl⟩:=Go.Sy.map_some h1;have hnd1:nd=true->k.nd=true:=λhn=>by have:=hnd hn;simp only[Qaz,χ] at this;exact this.1
  have hnd2:nd=true->(l'.all λs=>s.k.nd)=true:=λhn=>by have:=hnd hn;simp only[Qaz,χ] at this;exact this.2
  have step:xK P base k e st (λv st'=>xO P base l' (ya o.dst (Xv U o.dst) v e) st' (λe s=>Q (.go e.g s)) Kp) (λv st'=>Kp v e.g st')->
    ∃ r N D,RX U nd st r Q Kp/\∀ n,N<=n->∀ d,D<=d->(Za P (jQ U ns) (zP U ns) o (yX P U ops lo (qv o.dst ns))).run (evC P base n d) n t rs st=r:=by
   intro hk;rcases jei h h3 hk with ⟨v,st1,k1,k2,k3,k4⟩|⟨v,k1,k2,k3⟩|⟨f,args,fid,caps,r1,N1,D1,k1,k2,k3,k4⟩
   ·obtain⟨r,N,D,m1,m2⟩:=kz nd lo l' _ _ _ _ h2 (h.push o.dst v) hnd2 k4;refine⟨r,N,D,m1.fr λhn=>k3 (hnd1 hn),λn hn d hd=>?_⟩;unfold Za;rw[k1];dsimp only;rw[k2];exact m2 n hn d hd
   ·refine⟨.pn v _ st,0,0,⟨e.g,h.flush,λ_=>rfl,k3⟩,λn hn d hd=>?_⟩;unfold Za;rw[k1];dsimp only;rw[k2]
   ·cases r1 with
    |no=>exact k4.elim
    |ok v st1=>
     obtain⟨r,N,D,m1,m2⟩:=kz nd lo l' _ _ _ _ h2 (h.push o.dst v) hnd2 k4;refine⟨r,max N1 N,max D1 D,m1.fr λ_=>rfl,λn hn d hd=>?_⟩;unfold Za;rw[k1];dsimp only;rw[k2];dsimp only;rw[k3 n (ψ (Qao _ _) hn) d (ψ (Qao _ _) hd)];exact m2 n (ψ (Qap _ _) hn) d (ψ (Qap _ _) hd)
    |pn v st1=>
     refine⟨.pn v _ (back st st1),N1,D1,⟨e.g,h.flush,λ_=>rfl,k4⟩,λn hn d hd=>?_⟩;unfold Za;rw[k1];dsimp only;rw[k2];dsimp only;rw[k3 n hn d hd]
  rw[Vy];rcases H8 h h4 hw with ⟨q1,q2⟩|⟨wf,q1,⟨q2,q3⟩|⟨q2,q3⟩⟩
  ·rw[q1];exact step q2
  ·rw[q1];obtain⟨r,N,D,m1,m2⟩:=step q3;refine⟨r,N,D,m1,λn hn d hd=>?_⟩;simp only[Vg];rw[q2];exact m2 n hn d hd
  ·rw[q1];obtain⟨r,N,D,m1,m2⟩:=kz nd lo l' _ _ _ _ h2 (h.push o.dst qd) hnd2 q3;refine⟨r,N,D,m1,λn hn d hd=>?_⟩;simp only[Vg];rw[q2];exact m2 n hn d hd
theorem kR {ops:Array Oper}{pan:Nat->List Nat->List Nat->AV->St->RD}{abs:Nat->Bool}{call:qF}{n:Nat}:∀ (l:List Nat) (es ns:List Nat) (rs:List AV) (tb:List TE) (st:St),(∀ k∈l,abs k=true)->(∀ k∈l,k<ops.size)->
  ∃ t',(yl P U ops (Xm U) pan abs l es ns).run call n t rs tb st=.go t' st
 |[],es,ns,rs,tb,st,_,_=>⟨_,rfl⟩
 |k :: l,es,ns,rs,tb,st,h1,h2=>by
  have hk:k<ops.size:=h2 k (by simp);have ho:ops[k]? = some ops[k]:=Qcg hk;rw[vH k l es ns ho,h1 k (by simp)];simp only[cond_true];exact kR l _ _ _ _ st (λj hj=>h1 j (by simp[hj])) (λj hj=>h2 j (by simp[hj]))
theorem Hx {ops:Array Oper}{i:Nat}{call:qF}{n:Nat}:∀ (lo:List Oper) (k:Nat) (l:List XD) (ns:List Nat) (rs:List AV) (tb:List TE) (e:En) (st:St),ops.toList.drop k=lo->
  Ve P U ops i k lo=some l->HasO U ns t rs e->xR P l e tb st->
  ∃ t' s',(yl P U ops (Xm U) (λ_ _ _ _ _=>ZR) (Jt ops i) (Qac k (ops.size - k)) (qx k) ns).run call n t rs tb st=.go t' s'
 |[],k,l,ns,rs,tb,e,st,hdr,hl,h,hw=>by
  have:ops.size - k=0:=by
   have:=congrArg List.length hdr;simpa using this
  rw[this];exact⟨_,_,rfl⟩
 |o :: lo,k,l,ns,rs,tb,e,st,hdr,hl,h,hw=>by
  obtain⟨ho,hdr',hlt⟩:=Vu hdr;have hr:Qac k (ops.size - k)=k :: Qac (k+1) (ops.size - (k+1)):=by
   have:ops.size - k=(ops.size - (k+1))+1:=om
   rw[this,Qbc]
  rw[hr,vH k _ _ _ ho];unfold Ve at hl;cases ha:Jt ops i k with
  |true=>
   rw[ha] at hl;simp only[cond_true] at hl ⊢;obtain⟨l',h2,rfl⟩:=Go.Sy.map_some hl;have hw':xR P l' (ya o.dst (Xv U o.dst) qd e) (.none :: tb) st:=hw.2.2;exact Hx lo (k+1) l' _ _ _ _ st hdr' h2 (h.push o.dst qd) hw'
  |false=>
   rw[ha] at hl;simp only[cond_false] at hl ⊢;cases hwt:yK P ops k o;case true=>rw[hwt] at hl;cases hl
   rw[hwt] at hl;simp only[cond_false] at hl;cases hc:qu o.op with
   |some p=>rw[hc] at hl;cases hl
   |none=>
    rw[hc] at hl;dsimp only at hl;obtain⟨s,h1,hl⟩:=bind_some hl;obtain⟨te,h5,hl⟩:=bind_some hl;obtain⟨l',h2,rfl⟩:=Go.Sy.map_some hl;obtain⟨q,h3,h1⟩:=bind_some h1;obtain⟨g,h4,rfl⟩:=Go.Sy.map_some h1;have step:xRK P q e st (λv st'=>held P (Qi o.op) (teW te e v st st') tb (Ev.partners P ops (qx k) k o)=true/\xR P l' (ya o.dst (Xv U o.dst) v e) (teW te e v st st' :: tb) st')->
      ∃ t' s',(Jr P (jQ U ns) false (Ev.partners P ops (qx k) k o) o (yl P U ops (Xm U) (λ_ _ _ _ _=>ZR) (Jt ops i) (Qac (k+1) (ops.size - (k+1))) (qx (k+1)) (qv o.dst ns)) (λ_ _=>ZR)).run call n t rs tb st=.go t' s':=by
     intro hk;unfold Kk at h3;rw[hc] at h3;dsimp only at h3;cases q with
     |call f l=>exact hk.elim
     |pan x=>exact hk.elim
     |defer f l=>exact hk.elim
     |i ins=>
      have hlo:XL P o.op=some ins:=by
       split at h3
       ·obtain⟨a,_,h⟩:=Go.Sy.map_some h3;cases h
       ·split at h3
        ·obtain⟨a,_,h3⟩:=bind_some h3;obtain⟨b,_,h⟩:=Go.Sy.map_some h3;cases h
        ·cases h3
       ·obtain⟨a,h6,h⟩:=Go.Sy.map_some h3;cases h;exact h6
      have hk':wI P ins e st (λv st'=>held P (Qi o.op) (teW te e v st st') tb (Ev.partners P ops (qx k) k o)=true/\xR P l' (ya o.dst (Xv U o.dst) v e) (teW te e v st st' :: tb) st'):=hk;have hcov:=hk'.1;obtain⟨v,st',g1,g2,g3,g4⟩:=jk1 h hlo hk';have hte:Ju P (jQ U ns) o.op ⟨t,rs⟩ v st st'=teW te e v st st':=by
       unfold jbe at h5;unfold Ju;cases hcl:jV P o.op<;>rw[hcl] at h5<;>try(cases h5;rfl)
       obtain⟨ty,a,hop⟩:=Q8 hcl;rw[hop] at h5 hlo ⊢;obtain⟨a',h6,rfl⟩:=Go.Sy.map_some h5;simp only[teW];have hok:okA e a'=true:=by
        simp only[XL] at hlo;obtain⟨a2,h8,h9⟩:=bind_some hlo;rw[h6] at h8;cases h8;split at h9
        ·cases h9;simpa[ZL] using hcov
        ·cases h9;simpa[ZL] using hcov
        ·cases h9
       rw[jL (U4 U ns t rs) h6,h.val hok]
      obtain⟨t',s',e1⟩:=Hx (i:=i) (call:=call) (n:=n) lo (k+1) l' _ _ _ _ st' hdr' h2 (h.push o.dst v) g4;refine⟨t',s',?_⟩;unfold Jr;dsimp only;rw[gJ hc g1 Q8,hte,g3];exact e1
    rcases H8 h h4 hw with ⟨q1,q2⟩|⟨wf,q1,⟨q2,q3⟩|⟨q2,q3⟩⟩
    ·rw[q1];exact step q2
    ·rw[q1];obtain⟨t',s',m1⟩:=step q3;refine⟨t',s',?_⟩;simp only[Qu];rw[q2];exact m1
    ·rw[q1];obtain⟨t',s',m1⟩:=Hx (i:=i) (call:=call) (n:=n) lo (k+1) l' _ _ _ _ st hdr' h2 (h.push o.dst qd) q3;refine⟨t',s',?_⟩;simp only[Qu];rw[q2];exact m1
theorem jeh:∀ {l:List XD} {e:En} {tb tb':List TE} {st:St},(l.all λs=>s.prt.isEmpty)=true->xR P l e tb st->xR P l e tb' st
 |[],e,tb,tb',st,_,h=>h
 |s :: l,e,tb,tb',st,ha,h=>by
  simp only[Qaz,χ] at ha;have hp:s.prt=[]:=by simpa using ha.1
  refine Uo h (λh=>?_) λh=>jeh ha.2 h;cases hk:s.s.k<;>rw[hk] at h<;>try(exact h.elim)
  refine⟨h.1,GH h.2 λv st' h3=>⟨?_,jeh ha.2 h3.2⟩⟩;rw[hp];rfl
theorem jc6 {ops:Array Oper}{i:Nat}{lo:List Oper}{l:List XD}(h:w7 P U ops i lo=some l)(hdr:ops.toList.drop i=lo){ns:List Nat}{rs:List AV}{e:En}(he:HasO U ns t rs e){tb:List TE}{st:St}(hw:xR P l e tb st)(v:AV)(st':St)(call:qF)(n:Nat) :
  (XR P U ops i (qx i) ns v st').run call n t rs tb st=.pn v t st':=by
 unfold w7 at h;obtain⟨h1,h2⟩:=JF h;have fin:(∃ t' s',(yl P U ops (Xm U) (λ_ _ _ _ _=>ZR) (Jt ops i) (Qac i (Qcn ops.size i)) (qx i) ns).run call n t rs tb st=.go t' s')->(XR P U ops i (qx i) ns v st').run call n t rs tb st=.pn v t st':=by
  rintro ⟨t',s',ht⟩;unfold XR;rw[h1];simp only[cond_true];rw[ht]
 refine fin ?_;cases ha:(Qac i (Qcn ops.size i)).all (Jt ops i) with
 |true=>
  rw[Qae] at ha;obtain⟨t',ht⟩:=kR (P:=P) (U:=U) (t:=t) (ops:=ops) (pan:=λ_ _ _ _ _=>ZR) (abs:=Jt ops i) (call:=call) (n:=n) (Qac i (Qcn ops.size i)) (qx i) ns rs tb st ha (λk hk=>by
   rw[List.mem_range'_1] at hk;have e:Qcn ops.size i=ops.size - i:=rfl;rw[e] at hk;omega)
  exact⟨t',st,ht⟩
 |false=>
  rw[ha] at h2;exact Hx lo i l ns rs tb e st hdr h2 he hw
theorem GG {op:Operand->OF}{o:Op}{env:Env}{v:AV}{st st1:St}{call:qF}{k:AV->TE->St->R}{kp:AV->St->R}{f:Operand}{args:List Operand}{fid:FuncId}{caps:List AV}(hc:qu o=some (f,args))
  (hf:(op f).run env=.fn fid caps) (he:call fid (yS (ye (λx=>(op x).run env) args) caps) st=.pn v st1) :
  (opD P op false o).run call env st k kp=kp v (back st st1):=by
 unfold opD;rw[hc];simp only[cond_false];rw[hf];dsimp only;rw[he]
theorem kC {ops:Array Oper}{Q:Out->Prop}{Kp:AV->Sl->St->Prop}{L0:Sl}(ht0:J6 U t L0)(nd:Bool):∀ (lo:List Oper) (i:Nat) (l:List (XS×Option (List XD))) (ns:List Nat) (rs:List AV) (tb:List TE) (e:En) (st:St),ops.toList.drop i=lo->calm P ops i lo=true->
  gO P U ops i lo=some l->HasO U ns t rs e->(nd=true->(l.all λs=>s.1.k.nd)=true)->xCO P base L0 l e st (λe s=>Q (.go e.g s)) Kp->
  ∃ r N D,RX U nd st r Q Kp/\∀ n,N<=n->∀ d,D<=d->(yl P U ops (Xm U) (XR P U ops) (λ_=>false) (Qac i (ops.size - i)) (qx i) ns).run (evC P base n d) n t rs tb st=r
 |[],i,l,ns,rs,tb,e,st,hdr,hcalm,hl,h,hnd,hw=>by
  cases hl;have:ops.size - i=0:=by
   have:=congrArg List.length hdr;simpa using this
  rw[this];exact⟨.go _ st,0,0,⟨e.g,h.flush,λ_=>rfl,hw⟩,λ_ _ _ _=>rfl⟩
 |o :: lo,i,l,ns,rs,tb,e,st,hdr,hcalm,hl,h,hnd,hw=>by
  obtain⟨ho,hdr',hlt⟩:=Vu hdr;unfold calm at hcalm;cases hwt:yK P ops i o;case true=>rw[hwt] at hcalm;cases hcalm
  rw[hwt] at hcalm;simp only[cond_false] at hcalm;obtain⟨hpe,hcalm⟩:=qL hcalm;have hpe':Ev.partners P ops (qx i) i o=[]:=by simpa using hpe
  obtain⟨s,h1,hl⟩:=bind_some hl;obtain⟨l',h2,rfl⟩:=Go.Sy.map_some hl;obtain⟨k,h3,h1⟩:=bind_some h1;obtain⟨g,h4,rfl⟩:=Go.Sy.map_some h1;have hnd1:nd=true->k.nd=true:=λhn=>by have:=hnd hn;simp only[Qaz,χ] at this;exact this.1
  have hnd2:nd=true->(l'.all λs=>s.1.k.nd)=true:=λhn=>by have:=hnd hn;simp only[Qaz,χ] at this;exact this.2
  have hr:Qac i (ops.size - i)=i :: Qac (i+1) (ops.size - (i+1)):=by
   have:ops.size - i=(ops.size - (i+1))+1:=om
   rw[this,Qbc]
  have step:xK P base k e st (λv st'=>xCO P base L0 l' (ya o.dst (Xv U o.dst) v e) st' (λe s=>Q (.go e.g s)) Kp) (λv st'=>Xh P (match qu o.op with|some _=>Ub P U ops i (o :: lo)|none=>none) e [] st (Kp v L0 st'))->
    ∃ r N D,RX U nd st r Q Kp/\∀ n,N<=n->∀ d,D<=d->
     (Jr P (jQ U ns) false (Ev.partners P ops (qx i) i o) o (yl P U ops (Xm U) (XR P U ops) (λ_=>false) (Qac (i+1) (ops.size - (i+1))) (qx (i+1)) (qv o.dst ns)) (XR P U ops i (qx i) ns)).run (evC P base n d) n t rs tb st=r:=by
   intro hk;rw[hpe'];rcases jei h h3 hk with ⟨v,st1,k1,k2,k3,k4⟩|⟨v,k1,k2,k3⟩|⟨f,args,fid,caps,r1,N1,D1,k1,k2,k3,k4⟩
   ·obtain⟨r,N,D,m1,m2⟩:=kC ht0 nd lo (i+1) l' _ _ (Qal (Ju P (jQ U ns) o.op ⟨t,rs⟩ v st st1) tb) _ _ hdr' hcalm h2 (h.push o.dst v) hnd2 k4;refine⟨r,N,D,m1.fr λhn=>k3 (hnd1 hn),λn hn d hd=>?_⟩;unfold Jr;dsimp only;rw[gJ k1 k2 Q8];exact m2 n hn d hd
   ·rw[k1] at k3;exact k3.elim
   ·rw[k1] at k4;cases r1 with
    |no=>exact k4.elim
    |ok v st1=>
     obtain⟨r,N,D,m1,m2⟩:=kC ht0 nd lo (i+1) l' _ _ (Qal (TE.wr st.h (back st st1).h) tb) _ _ hdr' hcalm h2 (h.push o.dst v) hnd2 k4;refine⟨r,max N1 N,max D1 D,m1.fr λ_=>rfl,λn hn d hd=>?_⟩;unfold Jr;dsimp only;rw[ja9 k1 k2 (k3 n (ψ (Qao _ _) hn) d (ψ (Qao _ _) hd))];exact m2 n (ψ (Qap _ _) hn) d (ψ (Qap _ _) hd)
    |pn v st1=>
     have k5:Xh P (Ub P U ops i (o :: lo)) e [] st (Kp v L0 (back st st1)):=k4;cases hm:Ub P U ops i (o :: lo) with
     |none=>rw[hm] at k5;exact k5.elim
     |some lr=>
      rw[hm] at k5;obtain⟨lr',hm1,hm2⟩:=bind_some hm;obtain⟨hm3,hm4⟩:=JF hm2;cases hm4;refine⟨.pn v t (back st st1),N1,D1,⟨L0,ht0,λ_=>rfl,k5.2⟩,λn hn d hd=>?_⟩;unfold Jr;dsimp only;rw[GG k1 k2 (k3 n hn d hd)];exact jc6 hm1 hdr h (jeh hm3 k5.1) _ _ _ _
  rw[hr,vH i _ _ _ ho,hwt];simp only[cond_false];rcases H8 h h4 hw with ⟨q1,q2⟩|⟨wf,q1,⟨q2,q3⟩|⟨q2,q3⟩⟩
  ·rw[q1];exact step q2
  ·rw[q1];obtain⟨r,N,D,m1,m2⟩:=step q3;refine⟨r,N,D,m1,λn hn d hd=>?_⟩;simp only[Qu];rw[q2];exact m2 n hn d hd
  ·rw[q1];obtain⟨r,N,D,m1,m2⟩:=kC ht0 nd lo (i+1) l' _ _ (Qal TE.none tb) _ _ hdr' hcalm h2 (h.push o.dst qd) hnd2 q3;refine⟨r,N,D,m1,λn hn d hd=>?_⟩;simp only[Qu];rw[q2];exact m2 n hn d hd
theorem kB {ops:Array Oper}{Q:Out->Prop}{Kp:AV->Sl->St->Prop}{L0:Sl}(ht0:J6 U t L0)(nd:Bool):∀ (lo:List Oper) (i:Nat) (l:List (XD×Option (List XD))) (ns:List Nat) (rs:List AV) (tb:List TE) (e:En) (st:St),ops.toList.drop i=lo->
  HZ P U ops i lo=some l->HasO U ns t rs e->(nd=true->(l.all λs=>s.1.s.k.nd)=true)->xDO P base L0 l e tb st (λe s=>Q (.go e.g s)) Kp->
  ∃ r N D,RX U nd st r Q Kp/\∀ n,N<=n->∀ d,D<=d->(yl P U ops (Xm U) (XR P U ops) (λ_=>false) (Qac i (ops.size - i)) (qx i) ns).run (evC P base n d) n t rs tb st=r
 |[],i,l,ns,rs,tb,e,st,hdr,hl,h,hnd,hw=>by
  cases hl;have:ops.size - i=0:=by
   have:=congrArg List.length hdr;simpa using this
  rw[this];exact⟨.go _ st,0,0,⟨e.g,h.flush,λ_=>rfl,hw⟩,λ_ _ _ _=>rfl⟩
 |o :: lo,i,l,ns,rs,tb,e,st,hdr,hl,h,hnd,hw=>by
  obtain⟨ho,hdr',hlt⟩:=Vu hdr;unfold HZ at hl;cases hwt:yK P ops i o;case true=>rw[hwt] at hl;cases hl
  rw[hwt] at hl;simp only[cond_false] at hl;obtain⟨s,h1,hl⟩:=bind_some hl;obtain⟨te,h5,hl⟩:=bind_some hl;obtain⟨l',h2,rfl⟩:=Go.Sy.map_some hl;obtain⟨k,h3,h1⟩:=bind_some h1;obtain⟨g,h4,rfl⟩:=Go.Sy.map_some h1;have hnd1:nd=true->k.nd=true:=λhn=>by have:=hnd hn;simp only[Qaz,χ] at this;exact this.1
  have hnd2:nd=true->(l'.all λs=>s.1.s.k.nd)=true:=λhn=>by have:=hnd hn;simp only[Qaz,χ] at this;exact this.2
  have hte:∀ v st',(∀ a,te=some (some a)->okA e a=true)->Ju P (jQ U ns) o.op ⟨t,rs⟩ v st st'=teW te e v st st':=by
   intro v st' hok;unfold jbe at h5;unfold Ju;cases hcl:jV P o.op<;>rw[hcl] at h5<;>try(cases h5;rfl)
   obtain⟨ty,a,hop⟩:=Q8 hcl;rw[hop] at h5 ⊢;obtain⟨a',h6,rfl⟩:=Go.Sy.map_some h5;simp only[teW];rw[jL (U4 U ns t rs) h6,h.val (hok a' rfl)]
  have hokr:∀ (K Kp:AV->St->Prop),xK P base k e st K Kp->∀ a,te=some (some a)->okA e a=true:=by
   intro K Kp hk a ha;unfold jbe at h5;cases hcl:jV P o.op<;>rw[hcl] at h5<;>try(cases h5;cases ha;done)
   obtain⟨ty,ad,hop⟩:=Q8 hcl;rw[hop] at h5 h3;obtain⟨a',h6,rfl⟩:=Go.Sy.map_some h5;cases ha;have:qu (Op.load ty ad)=none:=rfl;unfold Kk at h3;rw[this] at h3;obtain⟨ins,h7,rfl⟩:=Go.Sy.map_some h3;simp only[XL] at h7;obtain⟨a2,h8,h9⟩:=bind_some h7;rw[h6] at h8;cases h8;have hcov:=hk.1;split at h9
   ·cases h9;simpa[ZL] using hcov
   ·cases h9;simpa[ZL] using hcov
   ·cases h9
  have hr:Qac i (ops.size - i)=i :: Qac (i+1) (ops.size - (i+1)):=by
   have:ops.size - i=(ops.size - (i+1))+1:=om
   rw[this,Qbc]
  have step:xK P base k e st (λv st'=>held P (Qi o.op) (teW te e v st st') tb (Ev.partners P ops (qx i) i o)=true/\xDO P base L0 l' (ya o.dst (Xv U o.dst) v e) (teW te e v st st' :: tb) st' (λe s=>Q (.go e.g s)) Kp) (λv st'=>Xh P (match qu o.op with|some _=>w7 P U ops i (o :: lo)|none=>none) e tb st (Kp v L0 st'))->
    ∃ r N D,RX U nd st r Q Kp/\∀ n,N<=n->∀ d,D<=d->
     (Jr P (jQ U ns) false (Ev.partners P ops (qx i) i o) o (yl P U ops (Xm U) (XR P U ops) (λ_=>false) (Qac (i+1) (ops.size - (i+1))) (qx (i+1)) (qv o.dst ns)) (XR P U ops i (qx i) ns)).run (evC P base n d) n t rs tb st=r:=by
   intro hk;have hok:=hokr _ _ hk;rcases jei h h3 hk with ⟨v,st1,k1,k2,k3,k4⟩|⟨v,k1,k2,k3⟩|⟨f,args,fid,caps,r1,N1,D1,k1,k2,k3,k4⟩
   ·obtain⟨g1,g2⟩:=k4;obtain⟨r,N,D,m1,m2⟩:=kB ht0 nd lo (i+1) l' _ _ _ _ _ hdr' h2 (h.push o.dst v) hnd2 g2;refine⟨r,N,D,m1.fr λhn=>k3 (hnd1 hn),λn hn d hd=>?_⟩;unfold Jr;dsimp only;rw[gJ k1 k2 Q8,hte v st1 hok,g1];exact m2 n hn d hd
   ·rw[k1] at k3;exact k3.elim
   ·rw[k1] at k4;have hw':∀ v st1,teW te e v st (back st st1)=.wr st.h (back st st1).h:=λv st1=>by
     rw[<-hte v _ hok];unfold Ju;rw[J2 (P:=P) k1]
    cases r1 with
    |no=>exact k4.elim
    |ok v st1=>
     obtain⟨g1,g2⟩:=k4;rw[hw'] at g1 g2;obtain⟨r,N,D,m1,m2⟩:=kB ht0 nd lo (i+1) l' _ _ _ _ _ hdr' h2 (h.push o.dst v) hnd2 g2;refine⟨r,max N1 N,max D1 D,m1.fr λ_=>rfl,λn hn d hd=>?_⟩;unfold Jr;dsimp only;rw[ja9 k1 k2 (k3 n (ψ (Qao _ _) hn) d (ψ (Qao _ _) hd)),g1];exact m2 n (ψ (Qap _ _) hn) d (ψ (Qap _ _) hd)
    |pn v st1=>
     have k5:Xh P (w7 P U ops i (o :: lo)) e tb st (Kp v L0 (back st st1)):=k4;cases hm:w7 P U ops i (o :: lo) with
     |none=>rw[hm] at k5;exact k5.elim
     |some lr=>
      rw[hm] at k5;refine⟨.pn v t (back st st1),N1,D1,⟨L0,ht0,λ_=>rfl,k5.2⟩,λn hn d hd=>?_⟩;unfold Jr;dsimp only;rw[GG k1 k2 (k3 n hn d hd)];exact jc6 hm hdr h k5.1 _ _ _ _
  rw[hr,vH i _ _ _ ho,hwt];simp only[cond_false];rcases H8 h h4 hw with ⟨q1,q2⟩|⟨wf,q1,⟨q2,q3⟩|⟨q2,q3⟩⟩
  ·rw[q1];exact step q2
  ·rw[q1];obtain⟨r,N,D,m1,m2⟩:=step q3;refine⟨r,N,D,m1,λn hn d hd=>?_⟩;simp only[Qu];rw[q2];exact m2 n hn d hd
  ·rw[q1];obtain⟨r,N,D,m1,m2⟩:=kB ht0 nd lo (i+1) l' _ _ _ _ _ hdr' h2 (h.push o.dst qd) hnd2 q3;refine⟨r,N,D,m1,λn hn d hd=>?_⟩;simp only[Qu];rw[q2];exact m2 n hn d hd
theorem jk0 (nd:Bool):∀ (c:Code) (C:XC),Wo P U c=some C->(nd=true->C.nd=true)->∀ (t:T AV) (L:Sl) (st:St) (Q:Out->Prop) (Kp:AV->Sl->St->Prop),J6 U t L->xC P base C L st Q Kp->
  ∃ r N D,RX U nd st r Q Kp/\∀ n,N<=n->∀ d,D<=d->(comp P U c).run (evC P base n d) n t st=r:=by
 intro c;induction c with
 |skip=>
  intro C hl hnd t L st Q Kp ht hw;cases hl;exact⟨.go t st,0,0,⟨L,ht,λ_=>rfl,hw⟩,λ_ _ _ _=>rfl⟩
 |region id ops d=>
  intro C hl hnd t L st Q Kp ht hw;cases d with
  |false=>
   obtain⟨l,h1,rfl⟩:=Go.Sy.map_some hl;exact kz nd _ _ _ _ _ _ h1 (HasO.of_t ht) hnd hw
  |true=>
   obtain⟨ho,hl⟩:=JF hl;have hcomp:∀ call n,(comp P U (.region id ops true)).run call n t st=(wj P U ops).run call n t [] [] st:=by
    intro call n;change (cond (Ji P ops) (⟨λcall n t st=>(wj P U ops).run call n t [] [] st⟩:CF) NOC).run call n t st=_;rw[ho];rfl
   have hdraw:∀ call n,(wj P U ops).run call n t [] [] st=(yl P U ops (Xm U) (XR P U ops) (λ_=>false) (Qac 0 (ops.size - 0)) (qx 0) []).run call n t [] [] st:=by
    intro call n;unfold wj;rw[List.range_eq_range'];rfl
   cases hc:calm P ops 0 ops.toList
   ·rw[hc] at hl;obtain⟨l,h1,rfl⟩:=Go.Sy.map_some hl;obtain⟨r,N,D,h3,h2⟩:=kB ht nd ops.toList 0 l [] [] [] ⟨[],L⟩ st rfl h1 (HasO.of_t ht) hnd hw;exact⟨r,N,D,h3,λn hn d hd=>by rw[hcomp,hdraw];exact h2 n hn d hd⟩
   ·rw[hc] at hl;obtain⟨l,h1,rfl⟩:=Go.Sy.map_some hl;obtain⟨r,N,D,h3,h2⟩:=kC ht nd ops.toList 0 l [] [] [] ⟨[],L⟩ st rfl hc h1 (HasO.of_t ht) hnd hw;exact⟨r,N,D,h3,λn hn d hd=>by rw[hcomp,hdraw];exact h2 n hn d hd⟩
 |seq x y ihx ihy=>
  intro C hl hnd t L st Q Kp ht hw;obtain⟨cx,h1,hl⟩:=bind_some hl;obtain⟨cy,h2,rfl⟩:=Go.Sy.map_some hl;obtain⟨r,N,D,h4,h5⟩:=ihx cx h1 (λhn=>(qL (hnd hn)).1) t L st _ _ ht hw;have hcomp:∀ call n,(comp P U (.seq x y)).run call n t st=match (comp P U x).run call n t st with | .go env st=>(comp P U y).run call n env st|r=>r:=λ_ _=>rfl
  cases r with
  |no=>exact h4.elim
  |go t' st'=>
   obtain⟨L',h6,h7,h3⟩:=h4;obtain⟨r2,N2,D2,k1,k3⟩:=ihy cy h2 (λhn=>(qL (hnd hn)).2) t' L' st' Q Kp h6 h3;refine⟨r2,max N N2,max D D2,k1.fr h7,λn hn d hd=>?_⟩;rw[hcomp,h5 n (ψ (Qao _ _) hn) d (ψ (Qao _ _) hd)];exact k3 n (ψ (Qap _ _) hn) d (ψ (Qap _ _) hd)
  |ex i t' st'=>exact⟨.ex i t' st',N,D,h4,λn hn d hd=>by rw[hcomp,h5 n hn d hd]⟩
  |rt t' st'=>exact⟨.rt t' st',N,D,h4,λn hn d hd=>by rw[hcomp,h5 n hn d hd]⟩
  |pn v t' st'=>exact⟨.pn v t' st',N,D,h4,λn hn d hd=>by rw[hcomp,h5 n hn d hd]⟩
 |cond x a b iha ihb=>
  intro C hl hnd t L st Q Kp ht hw;obtain⟨cx,h0,hl⟩:=bind_some hl;obtain⟨ca,h1,hl⟩:=bind_some hl;obtain⟨cb,h2,rfl⟩:=Go.Sy.map_some hl;obtain⟨h3,h4⟩:=hw;have hv:=(jL (U4 U [] t []) h0).trans ((HasO.of_t ht).val h3);have hcomp:∀ call n,(comp P U (.cond x a b)).run call n t st=match (jQ U [] x).run ⟨t,[]⟩ with | .bool q=>_root_.cond q ((comp P U a).run call n t st) ((comp P U b).run call n t st)|_=>.no:=λ_ _=>rfl
  unfold vU at h4;cases hk:vl ⟨[],L⟩ cx<;>rw[hk] at h4<;>try(exact h4.elim)
  rename_i q;rw[hk] at hv;cases q
  ·obtain⟨r,N,D,k1,k3⟩:=ihb cb h2 (λhn=>(qL (hnd hn)).2) t L st Q Kp ht h4;refine⟨r,N,D,k1,λn hn d hd=>?_⟩;rw[hcomp,hv];exact k3 n hn d hd
  ·obtain⟨r,N,D,k1,k3⟩:=iha ca h1 (λhn=>(qL (hnd hn)).1) t L st Q Kp ht h4;refine⟨r,N,D,k1,λn hn d hd=>?_⟩;rw[hcomp,hv];exact k3 n hn d hd
 |block id x ih=>
  intro C hl hnd t L st Q Kp ht hw;obtain⟨cx,h1,rfl⟩:=Go.Sy.map_some hl;obtain⟨r,N,D,h4,h5⟩:=ih cx h1 hnd t L st _ _ ht hw;have hcomp:∀ call n,(comp P U (.block id x)).run call n t st=match (comp P U x).run call n t st with | .ex id' env st=>_root_.cond (Qci id' id) (.go env st) (.ex id' env st)|r=>r:=λ_ _=>rfl
  cases r with
  |no=>exact h4.elim
  |go t' st'=>exact⟨.go t' st',N,D,h4,λn hn d hd=>by rw[hcomp,h5 n hn d hd]⟩
  |rt t' st'=>exact⟨.rt t' st',N,D,h4,λn hn d hd=>by rw[hcomp,h5 n hn d hd]⟩
  |pn v t' st'=>exact⟨.pn v t' st',N,D,h4,λn hn d hd=>by rw[hcomp,h5 n hn d hd]⟩
  |ex i t' st'=>
   obtain⟨L',h6,h7,h3⟩:=h4;simp only[yt] at h3;cases hb:Qci i id
   ·rw[hb] at h3;exact⟨.ex i t' st',N,D,⟨L',h6,h7,h3⟩,λn hn d hd=>by rw[hcomp,h5 n hn d hd];dsimp only;rw[hb];rfl⟩
   ·rw[hb] at h3;exact⟨.go t' st',N,D,⟨L',h6,h7,h3⟩,λn hn d hd=>by rw[hcomp,h5 n hn d hd];dsimp only;rw[hb];rfl⟩
 |loop x ih=>
  intro C hl hnd t L st Q Kp ht hw;obtain⟨cx,h1,rfl⟩:=Go.Sy.map_some hl;obtain⟨m,hm⟩:=hw;have key:∀ m t L st,J6 U t L->uZ (λL st Q=>xC P base cx L st Q Kp) m L st Q->∃ r N D,RX U nd st r Q Kp/\∀ n,N<=n->∀ d,D<=d->∀ k,m<=k->vO (comp P U x) (evC P base n d) n k t st=r:=by
   intro m;induction m with
   |zero=>intro t L st _ h;exact h.elim
   |succ m ihm=>
    intro t L st ht h;obtain⟨r,N,D,h4,h5⟩:=ih cx h1 hnd t L st _ _ ht h;have one:∀ r',(∀ n,N<=n->∀ d,D<=d->(comp P U x).run (evC P base n d) n t st=r')->(∀ t s,r'≠.go t s)->∀ n,N<=n->∀ d,D<=d->∀ k,m+1<=k->vO (comp P U x) (evC P base n d) n k t st=r':=by
     intro r' hr' hne n hn d hd k hk;obtain⟨k',rfl⟩:∃ k',k=k'+1:=⟨k - 1,om⟩;rw[Kn,hr' n hn d hd];cases r' with
     |go t s=>exact absurd rfl (hne t s)
     |_=>rfl
    cases r with
    |no=>exact h4.elim
    |go t' st'=>
     obtain⟨L',h6,h7,h3⟩:=h4;obtain⟨r2,N2,D2,k1,k3⟩:=ihm t' L' st' h6 h3;refine⟨r2,max N N2,max D D2,k1.fr h7,λn hn d hd k hk=>?_⟩;obtain⟨k',rfl⟩:∃ k',k=k'+1:=⟨k - 1,om⟩;rw[Kn,h5 n (ψ (Qao _ _) hn) d (ψ (Qao _ _) hd)];exact k3 n (ψ (Qap _ _) hn) d (ψ (Qap _ _) hd) k' om
    |ex i t' st'=>exact⟨.ex i t' st',N,D,h4,one _ h5 λ_ _ h=>by cases h⟩
    |rt t' st'=>exact⟨.rt t' st',N,D,h4,one _ h5 λ_ _ h=>by cases h⟩
    |pn v t' st'=>exact⟨.pn v t' st',N,D,h4,one _ h5 λ_ _ h=>by cases h⟩
  obtain⟨r,N,D,k1,k3⟩:=key m t L st ht hm;exact⟨r,max N m,D,k1,λn hn d hd=>k3 n (ψ (Qao _ _) hn) d hd n (ψ (Qap _ _) hn)⟩
 |exit id=>
  intro C hl hnd t L st Q Kp ht hw;cases hl;exact⟨.ex id t st,0,0,⟨L,ht,λ_=>rfl,hw⟩,λ_ _ _ _=>rfl⟩
 |ret=>
  intro C hl hnd t L st Q Kp ht hw;cases hl;exact⟨.rt t st,0,0,⟨L,ht,λ_=>rfl,hw⟩,λ_ _ _ _=>rfl⟩
 |_=>intro C hl;cases hl
end
section
variable {P:Program} {base:Bs}
theorem jdw {fn:Func}{c:Code}(args:List AV):J6 (q8 fn c) (zV args 0 .e) (jh ((Qab (fn.params.size+fn.nfree)).filter (inU (q8 fn c))) args):=by
 intro x hx;obtain⟨k1,k2⟩:=jfg hx;refine⟨by simpa using (List.mem_filter.1 k1).2,?_⟩;rw[k2,ZG];by_cases hlt:x<args.length
 ·rw[if_pos (by simp;omega)];simp
 ·rw[if_neg (by simp;omega)];simp only[zw,Xe,Option.getD_none];simp[ω,List.getElem?_eq_none (by omega:args.length<=x)]
theorem jdH {s:St}(h:s.fr=[]):s.bare=s:=by
 cases s;simp only at h;subst h;rfl
theorem w9 {fn:Func}{U:Nat}{res:List RV}(hr:Km P fn.results.toList=some res){K Kp:AV->St->Prop}{L:Sl}{t:T AV}(ht:J6 U t L):∀ (ds:List (FuncId×List AV)) (st:St) (m:Md),yI P base res K Kp ds L st m->
  ∃ r N D,Zg r K Kp/\∀ n,N<=n->∀ d,D<=d->zi P U ⟨λf args m st=>(yP P f).run (evC P base n d) n args m st⟩ fn.results.toList ds t st m=r
 |[],st,m,h=>by
  cases m with
  |calm=>
   obtain⟨vs,q1,q2⟩:=ue ht hr h;refine⟨.ok (zq vs) st,0,0,q2,λn _ d _=>?_⟩;show(match yA P U fn.results.toList ⟨t,[]⟩ st with|some vs=>ER.ok (zq vs) st|none=>.no)=_;rw[q1]
  |pan v=>exact⟨.pn v st,0,0,h,λ_ _ _ _=>rfl⟩
  |done=>exact h.elim
 |d :: ds,st,m,h=>by
  obtain⟨m',st',⟨N,D,h1⟩,h2⟩:=h;have key:∀ m2,yI P base res K Kp ds L st'.bare m2->(m2=match m' with | .calm=>.calm | .pan v=>.pan v | .done=>.calm)->
    ∃ r N D,Zg r K Kp/\∀ n,N<=n->∀ d',D<=d'->zi P U ⟨λf args m st=>(yP P f).run (evC P base n d') n args m st⟩ fn.results.toList (d :: ds) t st m=r:=by
   intro m2 h3 he;obtain⟨r,N2,D2,h4,h5⟩:=w9 hr ht ds st'.bare m2 h3;refine⟨r,max N N2,max D D2,h4,λn hn d' hd=>?_⟩;have e1:=h1 n (ψ (Qao _ _) hn) d' (ψ (Qao _ _) hd);have e2:=h5 n (ψ (Qap _ _) hn) d' (ψ (Qap _ _) hd);have:zi P U ⟨λf args m st=>(yP P f).run (evC P base n d') n args m st⟩ fn.results.toList (d :: ds) t st m =
    (match (yP P d.1).run (evC P base n d') n d.2 m st.bare with
     |.ok m' st'=>(match m' with
      |.calm=>zi P U ⟨λf args m st=>(yP P f).run (evC P base n d') n args m st⟩ fn.results.toList ds t st'.bare .calm
      |.pan v=>zi P U ⟨λf args m st=>(yP P f).run (evC P base n d') n args m st⟩ fn.results.toList ds t st'.bare (.pan v)
      |.done=>zi P U ⟨λf args m st=>(yP P f).run (evC P base n d') n args m st⟩ fn.results.toList ds t st'.bare .calm)
     |.no=>.no):=rfl
   rw[this,e1];cases m'<;>(subst he;exact e2)
  cases m' with
  |calm=>exact key _ h2 rfl
  |pan v=>exact key _ h2 rfl
  |done=>exact key _ h2 rfl
def BX (P:Program)(base:Bs)(f:FuncId)(args:List AV)(st:St)(K Kp:AV->St->Prop):Prop:=
 ∃ r,(∃ N D,∀ n,N<=n->∀ d,D<=d->(Xj P f).run (evC P base n d) n args st=r)/\Zg r K Kp
theorem jb9 {f:FuncId}{F:XF}(hl:jv P f=some F){args:List AV}{st:St}{K Kp:AV->St->Prop}(nd:Bool)(hnd:nd=true->F.body.nd=true){Q:Out->Prop}{Kq:AV->Sl->St->Prop}
  (hQ:∀ o,Q o->match o with | .go L s=>(nd=true->s.fr=[])->yI P base F.res K Kp s.fr L s.bare .calm | .rt L s=>(nd=true->s.fr=[])->yI P base F.res K Kp s.fr L s.bare .calm | .ex _ _ _=>False)
  (hKq:∀ v L s,Kq v L s->(nd=true->s.fr=[])->yI P base F.res K Kp s.fr L s.bare (.pan v))
  (h:xC P base F.body (jh F.ps args) st.bare Q Kq):BX P base f args st K Kp:=by
 unfold jv at hl;cases hf:P.funcs[f]? with
 |none=>rw[hf] at hl;cases hl
 |some fn=>
  rw[hf] at hl;dsimp only at hl;cases hbd:fn.body with
  |none=>rw[hbd] at hl;cases hl
  |some c=>
   rw[hbd] at hl;dsimp only at hl;obtain⟨b,h1,hl⟩:=bind_some hl;obtain⟨r,h2,rfl⟩:=Go.Sy.map_some hl;dsimp only at h hQ hKq hnd;obtain⟨r',N,D,k1,k3⟩:=jk0 nd c b h1 hnd _ _ _ _ _ (jdw args) h;have hrun:∀ n d,(Xj P f).run (evC P base n d) n args st=match (comp P (q8 fn c) c).run (evC P base n d) n (zV args 0 .e) st.bare with
     |.go env st=>zi P (q8 fn c) ⟨λf args m st=>(yP P f).run (evC P base n d) n args m st⟩ fn.results.toList st.fr env st.bare .calm
     |.rt env st=>zi P (q8 fn c) ⟨λf args m st=>(yP P f).run (evC P base n d) n args m st⟩ fn.results.toList st.fr env st.bare .calm
     |.pn v env st=>zi P (q8 fn c) ⟨λf args m st=>(yP P f).run (evC P base n d) n args m st⟩ fn.results.toList st.fr env st.bare (.pan v)
     |_=>.no:=by
    intro n d;unfold Xj jb3;rw[hf];dsimp only;rw[hbd];rfl
   have fin:∃ r N D,Zg r K Kp/\∀ n,N<=n->∀ d,D<=d->(Xj P f).run (evC P base n d) n args st=r:=by
    have leave:∀ (t:T AV) (L:Sl) (s:St) (m:Md),J6 (q8 fn c) t L->yI P base r K Kp s.fr L s.bare m->(∀ n,N<=n->∀ d,D<=d->(Xj P f).run (evC P base n d) n args st=zi P (q8 fn c) ⟨λf args m st=>(yP P f).run (evC P base n d) n args m st⟩ fn.results.toList s.fr t s.bare m)->
      ∃ r N D,Zg r K Kp/\∀ n,N<=n->∀ d,D<=d->(Xj P f).run (evC P base n d) n args st=r:=by
     intro t L s m ht hr he;obtain⟨r2,N2,D2,q1,q2⟩:=w9 h2 ht s.fr s.bare m hr;refine⟨r2,max N N2,max D D2,q1,λn hn d hd=>?_⟩;rw[he n (ψ (Qao _ _) hn) d (ψ (Qao _ _) hd)];exact q2 n (ψ (Qap _ _) hn) d (ψ (Qap _ _) hd)
    cases r' with
    |no=>exact k1.elim
    |go t s=>
     obtain⟨L,h6,h7,h8⟩:=k1;exact leave t L s .calm h6 (hQ _ h8 h7) λn hn d hd=>by rw[hrun,k3 n hn d hd]
    |rt t s=>
     obtain⟨L,h6,h7,h8⟩:=k1;exact leave t L s .calm h6 (hQ _ h8 h7) λn hn d hd=>by rw[hrun,k3 n hn d hd]
    |ex i t s=>
     obtain⟨L,h6,h7,h8⟩:=k1;exact(hQ _ h8).elim
    |pn v t s=>
     obtain⟨L,h6,h7,h8⟩:=k1;exact leave t L s (.pan v) h6 (hKq _ _ _ h8 h7) λn hn d hd=>by rw[hrun,k3 n hn d hd]
   obtain⟨r2,N2,D2,q1,q2⟩:=fin;exact⟨r2,⟨N2,D2,q2⟩,q1⟩
theorem BX.cx {f:FuncId}{args:List AV}{st:St}(hb:base.at0 f args st){K Kp:AV->St->Prop}(h:BX P base f args st K Kp):CX P base f args st K Kp:=by
 obtain⟨r2,⟨N2,D2,q2⟩,q1⟩:=h;refine⟨r2,⟨N2,D2+1,λn hn d hd=>?_⟩,q1⟩;obtain⟨d',rfl⟩:∃ d',d=d'+1:=⟨d - 1,om⟩;simp only[evC,hb.1,hb.2,vN];exact q2 n hn d' om
theorem XW {f:FuncId}{F:XF}(hl:jv P f=some F)(hnd:F.body.nd=true){args:List AV}{st:St}{K Kp:AV->St->Prop}
  (h:xC P base F.body (jh F.ps args) st.bare (QZ P F.res K) λv _ s=>Kp v s.bare):BX P base f args st K Kp:=by
 refine jb9 hl true (λ_=>hnd) (λo ho=>?_) (λv L s hk hfr=>?_) h
 ·cases o with
  |go L s=>
   intro hfr;rw[hfr rfl];have hs:=jdH (hfr rfl);rw[hs];have ho':yo P F.res L s λvs=>K (zq vs) s.bare:=ho;rw[hs] at ho';exact ho'
  |rt L s=>
   intro hfr;rw[hfr rfl];have hs:=jdH (hfr rfl);rw[hs];have ho':yo P F.res L s λvs=>K (zq vs) s.bare:=ho;rw[hs] at ho';exact ho'
  |ex i L s=>exact ho.elim
 ·rw[hfr rfl];exact hk
theorem jkg {f:FuncId}{F:XF}(hl:jv P f=some F)(hnd:F.body.nd=true){args:List AV}{st:St}(hb:base.at0 f args st){K Kp:AV->St->Prop}
 (h:xC P base F.body (jh F.ps args) st.bare (QZ P F.res K) λv _ s=>Kp v s.bare):CX P base f args st K Kp:=(XW hl hnd h).cx hb
theorem jb8 {f:FuncId}{F:XF}(hl:jv P f=some F){args:List AV}{st:St}{K Kp:AV->St->Prop}
  (h:xC P base F.body (jh F.ps args) st.bare (U6 P base F.res K Kp) (uD P base F.res K Kp)):BX P base f args st K Kp:=by
 refine jb9 hl false (λh=>by cases h) (λo ho=>?_) (λv L s hk _=>hk) h;cases o with
 |go L s=>exact λ_=>ho
 |rt L s=>exact λ_=>ho
 |ex i L s=>exact ho.elim
theorem ZD {f:FuncId}{H:XH}(hl:Kl P f=some H)(hnd:cond H.body.nd (H.ops.all λs=>s.k.nd) false=true){args:List AV}{m:Md}{st:St}(hfr:st.fr=[]){K:Md->St->Prop}
  (h:xO P base H.ops (ya H.dst H.keep (QN m) ⟨[],jh H.ps args⟩) st (λe s=>xC P base H.body e.g s (jfh P H.res (Xl m) K) λ_ _ _=>False) λ_ _ _=>False):DX P base f args m st K:=by
 unfold Kl at hl;cases hf:P.funcs[f]? with
 |none=>rw[hf] at hl;cases hl
 |some fn=>
  rw[hf] at hl;dsimp only at hl;split at hl
  ·rename_i id ops c hbd;split at hl
   ·rename_i o l hops;obtain⟨hrec,hl⟩:=JF hl;obtain⟨q,h1,hl⟩:=bind_some hl;obtain⟨b,h2,hl⟩:=bind_some hl;obtain⟨r,h3,rfl⟩:=Go.Sy.map_some hl;dsimp only at h hnd;obtain⟨hn1,hn2⟩:=qL hnd;generalize hU:q8 fn (.seq (.region id ops false) c)=U at *;have h0:HasO U (qv o.dst []) (zV args 0 .e) ((yM o.dst).run (QN m) []) (ya o.dst (Xv U o.dst) (QN m) ⟨[],jh ((Qab (fn.params.size+fn.nfree)).filter (inU U)) args⟩):=by
     have ht:J6 U (zV args 0 .e) (jh ((Qab (fn.params.size+fn.nfree)).filter (inU U)) args):=by
      rw[<-hU];exact jdw args
     exact(HasO.of_t ht).push o.dst (QN m)
    obtain⟨r1,N1,D1,k1,k2⟩:=kz (Q:=Jv (λL s=>xC P base b L s (jfh P r (Xl m) K) λ_ _ _=>False) (jfh P r (Xl m) K)) true l q _ _ _ st h1 h0 (λ_=>hn2) h;have hrun:∀ n d,(yP P f).run (evC P base n d) n args m st=Kr P fn U (Xl m) (match (yX P U ops l (qv o.dst [])).run (evC P base n d) n (zV args 0 .e) ((yM o.dst).run (QN m) []) st with
      |.go env st=>(comp P U c).run (evC P base n d) n env st
      |r=>r):=by
     intro n d;unfold yP;rw[hf];dsimp only;rw[hbd];dsimp only;rw[hops];dsimp only;rw[hrec,hU];rfl
    have left:∀ (t:T AV) (L:Sl) (s:St),J6 U t L->s.fr=[]->yo P r L s (λ_=>K (Xl m) s)->∃ m' s',(match s.fr with|[]=>(match yA P U fn.results.toList ⟨t,[]⟩ s with|some _=>DR.ok (Xl m) s|none=>.no)|_=>.no)=.ok m' s'/\K m' s':=by
     intro t L s ht hs hr;obtain⟨vs,q1,q2⟩:=ue ht h3 hr;refine⟨_,_,?_,q2⟩;rw[hs];dsimp only;rw[q1]
    cases r1 with
    |no=>exact k1.elim
    |ex i t s=>obtain⟨L,h6,h7,h8⟩:=k1;exact h8.elim
    |rt t s=>
     obtain⟨L,h6,h7,h8⟩:=k1;obtain⟨m',s',e1,e2⟩:=left t L s h6 ((h7 rfl).trans hfr) h8;refine⟨m',s',⟨N1,D1,λn hn d hd=>?_⟩,e2⟩;rw[hrun,k2 n hn d hd];exact e1
    |pn v t s=>obtain⟨L,h6,h7,h8⟩:=k1;exact h8.elim
    |go t s=>
     obtain⟨L,h6,h7,h8⟩:=k1;obtain⟨r2,N2,D2,k4,k5⟩:=jk0 true c b h2 (λ_=>hn1) t L s _ _ h6 h8;have e0:∀ n,max N1 N2<=n->∀ d,max D1 D2<=d->(yP P f).run (evC P base n d) n args m st=Kr P fn U (Xl m) r2:=by
      intro n hn d hd;rw[hrun,k2 n (ψ (Qao _ _) hn) d (ψ (Qao _ _) hd)];dsimp only;rw[k5 n (ψ (Qap _ _) hn) d (ψ (Qap _ _) hd)]
     cases r2 with
     |no=>exact k4.elim
     |ex i t s=>obtain⟨L,_,_,h8⟩:=k4;exact h8.elim
     |pn v t s=>obtain⟨L,_,_,h8⟩:=k4;exact h8.elim
     |go t s2=>
      obtain⟨L2,g6,g7,g8⟩:=k4;obtain⟨m',s',e1,e2⟩:=left t L2 s2 g6 (((g7 rfl).trans (h7 rfl)).trans hfr) g8;exact⟨m',s',⟨_,_,λn hn d hd=>by rw[e0 n hn d hd];exact e1⟩,e2⟩
     |rt t s2=>
      obtain⟨L2,g6,g7,g8⟩:=k4;obtain⟨m',s',e1,e2⟩:=left t L2 s2 g6 (((g7 rfl).trans (h7 rfl)).trans hfr) g8;exact⟨m',s',⟨_,_,λn hn d hd=>by rw[e0 n hn d hd];exact e1⟩,e2⟩
   ·cases hl
  ·cases hl
theorem jft {fv:AV}{vs:List AV}{st:St}{K Kp K' Kp':AV->St->Prop}(h:wq P base fv vs st K Kp)(h1:∀ v s,K v s->K' v s)(h2:∀ v s,Kp v s->Kp' v s):wq P base fv vs st K' Kp':=by
 unfold wq at h ⊢;split at h
 ·exact CX.mono h (λv s=>h1 v _) (λv s=>h2 v _)
 ·exact h
theorem gm {k:XK}{e:En}{st:St}{K Kp K' Kp':AV->St->Prop}(h:xK P base k e st K Kp)(h1:∀ v s,K v s->K' v s)(h2:∀ v s,Kp v s->Kp' v s):xK P base k e st K' Kp':=by
 cases k with
 |i i=>exact⟨h.1,GH h.2 h1⟩
 |call f l=>exact⟨h.1,h.2.1,jft h.2.2 h1 h2⟩
 |pan x=>
  refine⟨h.1,?_⟩;have h3:=h.2;unfold ja6 at h3 ⊢;split at h3
  ·exact h2 _ _ h3
  ·exact h3
 |defer f l=>
  refine⟨h.1,h.2.1,?_⟩;have h3:=h.2.2;unfold Vv at h3 ⊢;split at h3
  ·exact h1 _ _ h3
  ·exact h3
theorem gk:∀ {l:List XS} {e:En} {st:St} {K K':En->St->Prop} {Kp:AV->Sl->St->Prop},xO P base l e st K Kp->(∀ e st,K e st->K' e st)->xO P base l e st K' Kp
 |[],e,st,K,K',Kp,h,hk=>hk e st h
 |s :: l,e,st,K,K',Kp,h,hk=>Uo h (λh=>gm h (λv st' h=>gk h hk) λ_ _ h=>h) λh=>gk h hk
theorem UN {L0:Sl}:∀ {l:List (XS×Option (List XD))} {e:En} {st:St} {K K':En->St->Prop} {Kp:AV->Sl->St->Prop},xCO P base L0 l e st K Kp->(∀ e st,K e st->K' e st)->xCO P base L0 l e st K' Kp
 |[],e,st,K,K',Kp,h,hk=>hk e st h
 |s :: l,e,st,K,K',Kp,h,hk=>Uo h (λh=>gm h (λv st' h=>UN h hk) λ_ _ h=>h) λh=>UN h hk
theorem UM {L0:Sl}:∀ {l:List (XD×Option (List XD))} {e:En} {tb:List TE} {st:St} {K K':En->St->Prop} {Kp:AV->Sl->St->Prop},xDO P base L0 l e tb st K Kp->(∀ e st,K e st->K' e st)->xDO P base L0 l e tb st K' Kp
 |[],e,tb,st,K,K',Kp,h,hk=>hk e st h
 |s :: l,e,tb,st,K,K',Kp,h,hk=>Uo h (λh=>gm h (λv st' h=>⟨h.1,UM h.2 hk⟩) λ_ _ h=>h) λh=>UM h hk
theorem jcF {Kp:AV->Sl->St->Prop}:∀ (c:XC) (L:Sl) (st:St) (Q Q':Out->Prop),xC P base c L st Q Kp->(∀ o,Q o->Q' o)->xC P base c L st Q' Kp:=by
 intro c;induction c with
 |skip=>exact λL st Q Q' h hk=>hk _ h
 |ops l=>exact λL st Q Q' h hk=>gk (P:=P) (base:=base) h λe st h=>hk _ h
 |cops l=>exact λL st Q Q' h hk=>UN (P:=P) (base:=base) h λe st h=>hk _ h
 |dops l=>exact λL st Q Q' h hk=>UM (P:=P) (base:=base) h λe st h=>hk _ h
 |seq a b iha ihb=>exact λL st Q Q' h hk=>iha L st _ _ h (Gq (λL st h=>ihb L st _ _ h hk) hk)
 |cond x a b iha ihb=>
  intro L st Q Q' h hk;obtain⟨h1,h2⟩:=h;refine⟨h1,?_⟩;unfold vU at h2 ⊢;cases hv:vl ⟨[],L⟩ x<;>rw[hv] at h2<;>try(exact h2.elim)
  rename_i q;cases q
  ·exact ihb L st _ _ h2 hk
  ·exact iha L st _ _ h2 hk
 |block id a iha=>exact λL st Q Q' h hk=>iha L st _ _ h (jcz hk)
 |loop a iha=>
  intro L st Q Q' h hk;obtain⟨n,h⟩:=h;exact⟨n,kE (λL st Q Q'=>iha L st Q Q') hk n L st h⟩
 |exit id=>exact λL st Q Q' h hk=>hk _ h
 |ret=>exact λL st Q Q' h hk=>hk _ h
theorem yz {a:XC}{Q:Out->Prop}{Kp:AV->Sl->St->Prop}(I:Nat->Sl->St->Prop)(step:∀ k L st,I k L st->VI (xC P base a L st (Jv (λL' st'=>∃ k',k'<k/\I k' L' st') Q) Kp))(k:Nat){L:Sl}{st:St}(h:I k L st):xC P base (.loop a) L st Q Kp:=
 jg0 (w:=λL st Q=>xC P base a L st Q Kp) (λL st Q Q'=>jcF a L st Q Q') I step k L st h
section
variable {L:Sl} {st:St} {Q:Out->Prop} {Kp:AV->Sl->St->Prop} {e:En} {K:En->St->Prop}
theorem jat:xC P base .skip L st Q Kp=Q (.go L st):=nr rfl
theorem Hv (l:List XS):xC P base (.ops l) L st Q Kp=xO P base l ⟨[],L⟩ st (λe st'=>Q (.go e.g st')) Kp:=nr rfl
theorem jfP (l:List (XS×Option (List XD))):xC P base (.cops l) L st Q Kp=xCO P base L l ⟨[],L⟩ st (λe st'=>Q (.go e.g st')) Kp:=nr rfl
theorem jfN (l:List (XD×Option (List XD))):xC P base (.dops l) L st Q Kp=xDO P base L l ⟨[],L⟩ [] st (λe st'=>Q (.go e.g st')) Kp:=nr rfl
theorem jfO (L0:Sl)(tb:List TE):xDO P base L0 [] e tb st K Kp=K e st:=nr rfl
theorem jax (L0:Sl)(d:Option Nat)(kp:Bool)(b:Option (List XD))(k:XK)(te:Option (Option A))(lt:TypeId)(prt:List (Nat×TypeId))(l:List (XD×Option (List XD)))(tb:List TE) :
 xDO P base L0 ((⟨⟨d,kp,none,k⟩,te,lt,prt⟩,b) :: l) e tb st K Kp=xK P base k e st (λv st'=>held P lt (teW te e v st st') tb prt=true/\xDO P base L0 l (ya d kp v e) (teW te e v st st' :: tb) st' K Kp) λv st'=>Xh P b e tb st (Kp v L0 st'):=nr rfl
theorem jaw (L0:Sl)(d:Option Nat)(kp:Bool)(b:Option (List XD))(x:Nat)(want:Bool)(k:XK)(te:Option (Option A))(lt:TypeId)(prt:List (Nat×TypeId))(l:List (XD×Option (List XD)))(tb:List TE) :
 xDO P base L0 ((⟨⟨d,kp,some (x,want),k⟩,te,lt,prt⟩,b) :: l) e tb st K Kp=on1 e (.t x) λv=>onG v want (xK P base k e st (λv st'=>held P lt (teW te e v st st') tb prt=true/\xDO P base L0 l (ya d kp v e) (teW te e v st st' :: tb) st' K Kp) λv st'=>Xh P b e tb st (Kp v L0 st')) (xDO P base L0 l (ya d kp qd e) (.none :: tb) st K Kp):=nr rfl
theorem Hu (a b:XC):xC P base (.seq a b) L st Q Kp=xC P base a L st (Jv (λL' st'=>xC P base b L' st' Q Kp) Q) Kp:=nr rfl
theorem VL (id:Nat)(a:XC):xC P base (.block id a) L st Q Kp=xC P base a L st (yt id Q) Kp:=nr rfl
theorem jav (id:Nat):xC P base (.exit id) L st Q Kp=Q (.ex id L st):=nr rfl
theorem jkY:xC P base .ret L st Q Kp=Q (.rt L st):=nr rfl
theorem jay (x:A)(a b:XC):xC P base (.cond x a b) L st Q Kp=on1 ⟨[],L⟩ x λv=>vU v (xC P base a L st Q Kp) (xC P base b L st Q Kp):=nr rfl
theorem Hw:xO P base [] e st K Kp=K e st:=nr rfl
theorem VK (d:Option Nat)(kp:Bool)(k:XK)(l:List XS) :
 xO P base (⟨d,kp,none,k⟩ :: l) e st K Kp=xK P base k e st (λv st'=>xO P base l (ya d kp v e) st' K Kp) λv st'=>Kp v e.g st':=nr rfl
theorem jcE (d:Option Nat)(kp:Bool)(x:Nat)(want:Bool)(k:XK)(l:List XS) :
 xO P base (⟨d,kp,some (x,want),k⟩ :: l) e st K Kp=on1 e (.t x) λv=>onG v want (xK P base k e st (λv st'=>xO P base l (ya d kp v e) st' K Kp) λv st'=>Kp v e.g st') (xO P base l (ya d kp qd e) st K Kp):=nr rfl
theorem jfQ (L0:Sl):xCO P base L0 [] e st K Kp=K e st:=nr rfl
theorem jaA (L0:Sl)(d:Option Nat)(kp:Bool)(b:Option (List XD))(k:XK)(l:List (XS×Option (List XD))) :
 xCO P base L0 ((⟨d,kp,none,k⟩,b) :: l) e st K Kp=xK P base k e st (λv st'=>xCO P base L0 l (ya d kp v e) st' K Kp) λv st'=>Xh P b e [] st (Kp v L0 st'):=nr rfl
theorem jaz (L0:Sl)(d:Option Nat)(kp:Bool)(b:Option (List XD))(x:Nat)(want:Bool)(k:XK)(l:List (XS×Option (List XD))) :
 xCO P base L0 ((⟨d,kp,some (x,want),k⟩,b) :: l) e st K Kp=on1 e (.t x) λv=>onG v want (xK P base k e st (λv st'=>xCO P base L0 l (ya d kp v e) st' K Kp) λv st'=>Xh P b e [] st (Kp v L0 st')) (xCO P base L0 l (ya d kp qd e) st K Kp):=nr rfl
theorem jcC (tb:List TE)(p:Prop):Xh P (some []) e tb st p=p:=by simp[Xh,xR]
theorem XY (s:XD)(l:List XD)(tb:List TE)(p:Prop):Xh P (some (s :: l)) e tb st p=(xR P (s :: l) e tb st/\p):=nr rfl
theorem WT (tb:List TE):xR P [] e tb st=True:=nr rfl
theorem WS (d:Option Nat)(kp:Bool)(i:Ins)(te:Option (Option A))(lt:TypeId)(prt:List (Nat×TypeId))(l:List XD)(tb:List TE) :
 xR P (⟨⟨d,kp,none,.i i⟩,te,lt,prt⟩ :: l) e tb st=wK P base (.i i) e st λv st'=>held P lt (teW te e v st st') tb prt=true/\xR P l (ya d kp v e) (teW te e v st st' :: tb) st':=nr rfl
end
section
variable {e:En} {st:St} {K Kp:AV->St->Prop}
theorem x_i (i:Ins):xK P base (.i i) e st K Kp=wK P base (.i i) e st K:=nr rfl
theorem jfR (f:A)(l:List A):xK P base (.call f l) e st K Kp=on1 e f λfv=>wZ e l λvs=>wq P base fv vs st K Kp:=by
 simp only[xK,on1,uF]
theorem jkZ (x:A):xK P base (.pan x) e st K Kp=on1 e x λv=>ja6 v st Kp:=nr rfl
theorem jcD (f:A)(l:List A):xK P base (.defer f l) e st K Kp=on1 e f λfv=>wZ e l λvs=>Vv fv vs st K:=by
 simp only[xK,on1,uF]
theorem jfM (t:TypeId)(u:AV):ja6 (.iface t u) st Kp=Kp (.iface t u) st:=nr rfl
theorem jau (res:List RV)(L:Sl)(f:FuncId)(vs:List AV)(ds:List (FuncId×List AV))(m:Md):yI P base res K Kp ((f,vs) :: ds) L st m=DX P base f vs m st.bare λm' st'=>(match m' with
 |.calm=>yI P base res K Kp ds L st'.bare .calm
 |.pan v=>yI P base res K Kp ds L st'.bare (.pan v)
 |.done=>yI P base res K Kp ds L st'.bare .calm):=nr rfl
end
end
def CB (P:Program)(base:Bs)(f:FuncId)(args:List AV)(st:St)(K:AV->St->Prop):Res K:=CW P base f args st λv st'=>K v (back st st')
def XB (P:Program)(base:Bs)(f:FuncId)(args:List AV)(st:St)(K Kp:AV->St->Prop):Res (K,Kp):=CX P base f args st (λv st'=>K v (back st st')) λv st'=>Kp v (back st st')
section
variable {P:Program} {base:Bs}
theorem CB.of {f:FuncId}{args:List AV}{st:St}{K:AV->St->Prop}(h:CW P base f args st λv st'=>K v (back st st')):CB P base f args st K:=h
theorem XB.of {f:FuncId}{args:List AV}{st:St}{K Kp:AV->St->Prop}(h:CX P base f args st (λv st'=>K v (back st st')) λv st'=>Kp v (back st st')):XB P base f args st K Kp:=h
theorem CB.x {f:FuncId}{args:List AV}{st:St}{K Kp:AV->St->Prop}(h:CB P base f args st K):XB P base f args st K Kp:=CW.cx h
theorem XB.cb {f:FuncId}{args:List AV}{st:St}{K:AV->St->Prop}(h:XB P base f args st K λ_ _=>False):CB P base f args st K:=CX.cw h
theorem CB.mono {f:FuncId}{args:List AV}{st:St}{K K':AV->St->Prop}(h:CB P base f args st K)(h1:∀ v s,K v s->K' v s):CB P base f args st K':=CW.mono h λv s=>h1 v _
theorem XB.mono {f:FuncId}{args:List AV}{st:St}{K Kp K' Kp':AV->St->Prop}(h:XB P base f args st K Kp)(h1:∀ v s,K v s->K' v s)(h2:∀ v s,Kp v s->Kp' v s):XB P base f args st K' Kp':=CX.mono h (λv s=>h1 v _) λv s=>h2 v _
def bk (st s:St):St:=back st s.bare
theorem yr {f:FuncId}{F:XF}(hl:jv P f=some F)(hnd:F.body.nd=true){args:List AV}{st:St}(hb:base.at0 f args st){K Kp:AV->St->Prop}
 (h:xC P base F.body (jh F.ps args) st.bare (QZ P F.res λv st'=>K v (back st st')) λv _ s=>Kp v (bk st s)):XB P base f args st K Kp:=jkg hl hnd hb h
theorem CB.gen {f:FuncId}{args:List AV}{st:St}{K:AV->St->Prop}(h:∀ u,u=st->CB P base f args u K):CB P base f args st K:=h st rfl
theorem XB.gen {f:FuncId}{args:List AV}{st:St}{K Kp:AV->St->Prop}(h:∀ u,u=st->XB P base f args u K Kp):XB P base f args st K Kp:=h st rfl
theorem ut {c:XC}{L:Sl}{st:St}{Q:Out->Prop}{Kp:AV->Sl->St->Prop}(h:∀ u,u=st->xC P base c L u Q Kp):xC P base c L st Q Kp:=h st rfl
variable {st:St} {K Kp:AV->St->Prop}
theorem jas (f:FuncId)(vs:List AV):wq P base (.fn f []) vs st K Kp=XB P base f vs st K Kp:=by
 simp only[wq,QaO];rfl
theorem jar (f:FuncId)(caps vs:List AV):wq P base (.fn f caps) vs st K Kp=XB P base f (vs ++ caps) st K Kp:=nr rfl
theorem jdG (s:St):back st s.bare=bk st s:=nr rfl
theorem jdF (s:St):bk st s.bare=bk st s:=nr rfl
end
def pc:AV->Bool
 |.bool _=>true | .int _ _=>true | .str _=>true | .zstr _=>true | .nilp=>true | .nilm=>true | .nilf=>true | .nilif=>true | .lst _ _=>true | .lptr _ _=>true | .fn _ []=>true
 |_=>false
def pa:AV->Bool
 |.agg cs=>cs.all pc
 |v=>pc v
theorem H9 {v:AV}(h:pc v=true)(d:Nat)(m:T AO):fz (d+1) m v=some (v,[]):=by
 cases v<;>first|(cases h;done)|rfl|skip
 case fn f caps=>cases caps with
  |nil=>rfl
  |cons c l=>cases h
theorem Vi {d:Nat}{m:T AO}:∀ {l:List AV},l.all pc=true->fzs (fz (d+1) m) l=some (l,[])
 |[],_=>rfl
 |v :: l,h=>by
  simp only[Qaz,χ] at h;simp only[fzs];rw[H9 h.1,Vi h.2];rfl
theorem jaa {v:AV}(h:pa v=true)(d:Nat)(m:T AO):fz (d+2) m v=some (v,[]):=by
 unfold pa at h;split at h
 ·show(fzs (fz (d+1) m) _).map _=_;rw[Vi h];rfl
 ·exact H9 h (d+1) m
theorem KH {d:Nat}{m:T AO}:∀ {l:List AV},l.all pa=true->fzs (fz (d+2) m) l=some (l,[])
 |[],_=>rfl
 |v :: l,h=>by
  simp only[Qaz,χ] at h;simp only[fzs];rw[jaa h.1,KH h.2];rfl
def FzD (m d:Nat)(s:St)(v u:AV):Prop:=∃ ks,fz d s.h v=some (u,ks)/\∀ b∈ks,m<=b
def FzsD (m d:Nat)(s:St)(l r:List AV):Prop:=∃ ks,fzs (fz d s.h) l=some (r,ks)/\∀ b∈ks,m<=b
section
variable {m d:Nat} {s:St}
theorem FzD.pc {v:AV}(h:pc v=true):FzD m (d+1) s v v:=⟨[],H9 h d _,λ_ h=>by cases h⟩
theorem FzD.pa {v:AV}(h:pa v=true):FzD m (d+2) s v v:=⟨[],jaa h d _,λ_ h=>by cases h⟩
theorem FzsD.pc {l:List AV}(h:l.all pc=true):FzsD m (d+1) s l l:=⟨[],Vi h,λ_ h=>by cases h⟩
theorem FzD.nils:FzD m (d+1) s .nils (.lst 0 []):=⟨[],rfl,λ_ h=>by cases h⟩
theorem FzD.xlst {n:Nat}{cs:List AV}:FzD m (d+1) s (.xlst n cs) (.lst n cs):=⟨[],rfl,λ_ h=>by cases h⟩
theorem FzsD.nil:FzsD m d s [] []:=⟨[],rfl,λ_ h=>by cases h⟩
theorem FzsD.cons {v u:AV}{l r:List AV}(h:FzD m d s v u)(k:FzsD m d s l r):FzsD m d s (v :: l) (u :: r):=by
 obtain⟨ks,h1,h2⟩:=h;obtain⟨js,k1,k2⟩:=k;refine⟨ks ++ js,by simp only[fzs];rw[h1,k1],λb hb=>?_⟩;rcases QaQ.1 hb with h|h
 ·exact h2 b h
 ·exact k2 b h
theorem FzsD.append {l r l' r':List AV}(h:FzsD m d s l r)(k:FzsD m d s l' r'):FzsD m d s (l ++ l') (r ++ r'):=by
 induction l generalizing r with
 |nil=>
  obtain⟨ks,h1,h2⟩:=h;simp only[fzs,Option.some.injEq,Prod.mk.injEq] at h1;obtain⟨rfl,rfl⟩:=h1;exact k
 |cons v l ih=>
  obtain⟨ks,h1,h2⟩:=h;simp only[fzs] at h1;split at h1<;>try(cases h1;done)
  rename_i y k1 l1 k2 e1 e2;simp only[Option.some.injEq,Prod.mk.injEq] at h1;obtain⟨rfl,rfl⟩:=h1;exact FzsD.cons ⟨k1,e1,λb hb=>h2 b (List.mem_append_left _ hb)⟩ (ih ⟨k2,e2,λb hb=>h2 b (List.mem_append_right _ hb)⟩)
theorem FzD.agg {l r:List AV}(h:FzsD m d s l r):FzD m (d+1) s (.agg l) (.agg r):=by
 obtain⟨ks,h1,h2⟩:=h;exact⟨ks,by show(fzs (fz d s.h) l).map _=_;rw[h1];rfl,h2⟩
theorem FzD.tup {l r:List AV}(h:FzsD m d s l r):FzD m (d+1) s (.tup l) (.tup r):=by
 obtain⟨ks,h1,h2⟩:=h;exact⟨ks,by show(fzs (fz d s.h) l).map _=_;rw[h1];rfl,h2⟩
theorem FzD.iface {t:TypeId}{v u:AV}(h:FzD m d s v u):FzD m (d+1) s (.iface t v) (.iface t u):=by
 obtain⟨ks,h1,h2⟩:=h;exact⟨ks,by show(fz d s.h v).map _=_;rw[h1];rfl,h2⟩
def Rw (h:T AO)(b:Nat)(cs:List AV):Prop:=∃ n zl z c,jx h b=some (.row n zl z c)/\jT zl z c n 0=cs
theorem Rw.len {h:T AO}{b:Nat}{cs:List AV}(k:Rw h b cs):∃ n zl z c,jx h b=some (.row n zl z c)/\jT zl z c n 0=cs/\n=cs.length:=by
 obtain⟨n,zl,z,c,h1,h2⟩:=k;exact⟨n,zl,z,c,h1,h2,by rw[<-h2,qy];simp⟩
theorem Hq (zl:Nat)(z:List AV)(c:T AV){n o k:Nat}(h:o+k<=n):jT zl z c k o=((jT zl z c n 0).drop o).take k:=by
 rw[qy,qy];apply Qbh
 ·simp;omega
 ·intro i h1 h2;simp
theorem FzD.slice {b n c sz:Nat}{x:Bool}{cs r:List AV}(hR:Rw s.h b cs)(hl:n * sz<=cs.length)(hb:m<=b)(h:FzsD m d s (cs.take (n * sz)) r):FzD m (d+1) s (.slice b 0 n c sz x) (.lst n r):=by
 obtain⟨k,zl,z,ct,h1,h2,h3⟩:=hR.len;obtain⟨ks,q1,q2⟩:=h;refine⟨b :: ks,?_,λb' hb'=>?_⟩
 ·show(match jx s.h b with
   |some (.row n' zl z cs)=>cond (Qck (Qcl 0 (Qcm n sz)) n') ((fzs (fz d s.h) (jT zl z cs (Qcm n sz) 0)).map λ(p:List AV×List Nat)=>(AV.lst n p.1,b :: p.2)) none
   |_=>none)=_
  rw[h1];dsimp only;have e1:Qck (Qcl 0 (Qcm n sz)) k=true:=by rw[qg];show 0+n * sz<=k;omega
  have e2:jT zl z ct (Qcm n sz) 0=cs.take (n * sz):=by
   rw[Hq zl z ct (n:=k) (o:=0) (by show 0+n * sz<=k;omega),h2,Qba];rfl
  rw[e1,e2,q1];rfl
 ·rcases QaU.1 hb' with h|h
  ·rw[h];exact hb
  ·exact q2 b' h
end
inductive Oc where
 |ok (v:AV)
 |pn (v:AV)
def Oc.er:Oc->St->ER
 |.ok v,st=>.ok v st
 |.pn v,st=>.pn v st
def XT (o:Oc)(K Kp:AV->St->Prop)(st:St):Prop:=match o with | .ok v=>K v st | .pn v=>Kp v st
def Qm (G:AV->AV->St->Prop)(o:Oc):AV->St->Prop:=λv s=>match o with | .ok u=>G u v s | .pn _=>False
def Qg (G:AV->AV->St->Prop)(o:Oc):AV->St->Prop:=λv s=>match o with | .pn u=>G u v s | .ok _=>False
theorem UT {r:ER}{G:AV->AV->St->Prop}{o:Oc}(h:Zg r (Qm G o) (Qg G o)):∃ v s u,G u v s/\((r=.ok v s/\o=.ok u)\/(r=.pn v s/\o=.pn u)):=by
 cases r with
 |no=>exact h.elim
 |ok v s=>cases o with
  |ok u=>exact⟨v,s,u,h,.inl ⟨rfl,rfl⟩⟩
  |pn u=>exact h.elim
 |pn v s=>cases o with
  |ok u=>exact h.elim
  |pn u=>exact⟨v,s,u,h,.inr ⟨rfl,rfl⟩⟩
section
variable {P:Program} {base:Bs}
def PX (P:Program)(base:Bs)(f:FuncId)(aZ:List AV)(o:Oc):Prop:=∃ N D,∀ n,N<=n->∀ d,D<=d->∀ st aZ' ks,fzs (fz 9 st.h) aZ'=some (aZ,ks)->(∀ st,base.run f aZ' st=.no)->evC P base n d f aZ' st=o.er (kills ks st)
theorem PX.of {f:FuncId}{aZ:List AV}{o:Oc}(hm:base.pur f=1)(h:BX P base f aZ st0 (Qm (λu v s=>FzD 0 9 s v u) o) (Qg (λu v s=>FzD 0 9 s v u) o)):PX P base f aZ o:=by
 obtain⟨r,⟨N,D,h1⟩,h2⟩:=h;refine⟨N,D+1,λn hn d hd st aZ' ks hf hb=>?_⟩;obtain⟨d',rfl⟩:∃ d',d=d'+1:=⟨d - 1,om⟩;simp only[evC,hb,hm,vN,HN,hf];have e:=h1 n hn d' om;obtain⟨v,s,u,⟨ks,q1,_⟩,⟨q2,q3⟩|⟨q2,q3⟩⟩:=UT h2<;>(subst q3;rw[e,q2];dsimp only;rw[q1];rfl)
def Oc.flat:Oc->Bool | .ok v=>wg v | .pn v=>wg v
def PL (P:Program)(base:Bs)(f:FuncId)(aZ:List AV)(o:Oc):Prop:=∃ N D,∀ n,N<=n->∀ d,D<=d->∀ st aZ',JO st.h aZ'=some aZ->(∀ st,base.run f aZ' st=.no)->evC P base n d f aZ' st=o.er st
theorem PL.of {f:FuncId}{aZ:List AV}{o:Oc}(hm:base.pur f=5)(ho:o.flat=true)(h:BX P base f aZ st0 (Qm (λu v s=>FzD 0 9 s v u) o) (Qg (λu v s=>FzD 0 9 s v u) o)):PL P base f aZ o:=by
 obtain⟨r,⟨N,D,h1⟩,h2⟩:=h;refine⟨N,D+1,λn hn d hd st aZ' hf hb=>?_⟩;obtain⟨d',rfl⟩:∃ d',d=d'+1:=⟨d - 1,om⟩;simp only[evC,hb,hm,vN,H6,hf];have e:=h1 n hn d' om;obtain⟨v,s,u,⟨ks,q1,_⟩,⟨q2,q3⟩|⟨q2,q3⟩⟩:=UT h2<;>(subst q3;rw[e,q2];dsimp only;rw[q1];dsimp only;rw[show wg u=true from ho];rfl)
theorem PL.cx {f:FuncId}{aZ aZ':List AV}{o:Oc}(h:PL P base f aZ o){st:St}(hf:JO st.h aZ'=some aZ)(hb:∀ st,base.run f aZ' st=.no)(K Kp:AV->St->Prop):XB P base f aZ' st K Kp=XT o K Kp (back st st):=by
 obtain⟨N,D,h⟩:=h;refine propext ⟨λ⟨r,⟨N2,D2,h2⟩,h3⟩=>?_,λh3=>⟨o.er st,⟨N,D,λn hn d hd=>h n hn d hd st aZ' hf hb⟩,?_⟩⟩
 ·have e1:=h (max N N2) (Qao ..) (max D D2) (Qao ..) st aZ' hf hb;have e2:=h2 (max N N2) (Qap ..) (max D D2) (Qap ..);rw[e1] at e2;rw[<-e2] at h3;cases o<;>exact h3
 ·cases o<;>exact h3
theorem PX.cxk {f:FuncId}{aZ aZ':List AV}{ks:List Nat}{o:Oc}(h:PX P base f aZ o){st:St}(hf:fzs (fz 9 st.h) aZ'=some (aZ,ks))(hb:∀ st,base.run f aZ' st=.no)(K Kp:AV->St->Prop):XB P base f aZ' st K Kp=XT o K Kp (back st (kills ks st)):=by
 obtain⟨N,D,h⟩:=h;refine propext ⟨λ⟨r,⟨N2,D2,h2⟩,h3⟩=>?_,λh3=>⟨o.er (kills ks st),⟨N,D,λn hn d hd=>h n hn d hd st aZ' ks hf hb⟩,?_⟩⟩
 ·have e1:=h (max N N2) (Qao ..) (max D D2) (Qao ..) st aZ' ks hf hb;have e2:=h2 (max N N2) (Qap ..) (max D D2) (Qap ..);rw[e1] at e2;rw[<-e2] at h3;cases o<;>exact h3
 ·cases o<;>exact h3
theorem PX.xb {f:FuncId}{aZ:List AV}{o:Oc}(h:PX P base f aZ o)(hp:aZ.all pa=true)(hb:∀ st,base.run f aZ st=.no)(st:St)(K Kp:AV->St->Prop):XB P base f aZ st K Kp=XT o K Kp st:=
 h.cxk (KH (d:=7) hp) hb K Kp
def PM (P:Program)(base:Bs)(f:FuncId)(c aZ:List AV)(o:Oc)(c':List AV):Prop:=∃ N D,∀ n,N<=n->∀ d,D<=d->∀ (st:St) p aZ' ks,Rw (kills ks st).h p c->fzs (fz 9 st.h) aZ'=some (aZ,ks)->aZ.all pa=true->(∀ st,base.run f (.ptr p 0 :: aZ') st=.no)->
 evC P base n d f (.ptr p 0 :: aZ') st=o.er ⟨(kills ks st).nx,(j1 (jK p)).run (match jx (kills ks st).h p with|some (.row n zl z cs)=>.row n zl z (qj c' cs 0)|_=>.row 0 1 [] (qj c' .e 0)) (kills ks st).h,min (kills ks st).dirty p,(kills ks st).fr⟩
theorem PM.of {f:FuncId}{c aZ:List AV}{o:Oc}{c':List AV}(hm:base.pur f=3)(hc:c.all pc=true)
  (h:BX P base f (.ptr 0 0 :: aZ) (Y3 c) (Qm (λu v s=>FzD 1 9 s v u/\∃ c2,Rw s.h 0 c2/\c2.length=c.length/\FzsD 1 9 s c2 c') o) (Qg (λu v s=>FzD 1 9 s v u/\∃ c2,Rw s.h 0 c2/\c2.length=c.length/\FzsD 1 9 s c2 c') o)):PM P base f c aZ o c':=by
 obtain⟨r,⟨N,D,h1⟩,h2⟩:=h;refine⟨N,D+1,λn hn d hd st p aZ' ks0 hR hf hpa hb=>?_⟩;obtain⟨d',rfl⟩:∃ d',d=d'+1:=⟨d - 1,om⟩;obtain⟨k,zl,z,ct,g1,g2,g3⟩:=hR.len;have e:=h1 n hn d' om;have hfc:fzs (fz 9 (kills ks0 st).h) (jT zl z ct k 0)=some (c,[]):=by rw[g2];exact Vi hc
 have hf2:fzs (fz 9 (kills ks0 st).h) aZ=some (aZ,[]):=KH (d:=7) hpa;obtain⟨v,s,u,⟨⟨ks,q1,q1'⟩,c2,qR,ql,⟨js,q4,q4'⟩⟩,q⟩:=UT h2;obtain⟨k2,zl2,z2,ct2,r1,r2,r3⟩:=qR.len;have he:Zp k v s=some (u,c'):=by
  have a1:(ks.all λb=>Qck 1 b)=true:=Qae.2 λb hb=>by rw[qg];exact q1' b hb
  have a2:(js.all λb=>Qck 1 b)=true:=Qae.2 λb hb=>by rw[qg];exact q4' b hb
  have a3:Qci k2 k=true:=by rw[qH];omega
  unfold Zp;rw[q1,r1];dsimp only;rw[r2,q4];dsimp only;rw[a1,a2,a3];rfl
 simp only[evC,hb,hm,vN,HW,hf,Kj,g1,hfc,hf2];rcases q with ⟨q2,q3⟩|⟨q2,q3⟩<;>(subst q3;rw[e,q2];dsimp only;rw[he];rfl)
end
end Go.Sy
end
