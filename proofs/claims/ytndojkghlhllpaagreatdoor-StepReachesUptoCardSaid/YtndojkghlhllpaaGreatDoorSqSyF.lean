import Derived.Test.YtndojkghlhllpaaGreatDoorSqSyE
import Derived.Shelf.LaysC
import Derived.Shelf.Strconv.ParseIntPublic10
import Derived.Test.YtndojkghlhllpaaGreatDoorProg
import Derived.Shelf.RegionOpenPlain
import Derived.WalkKit
import Derived.Deep.LoopGhost
import Derived.Lib.Walk
import Derived.Lib.SliceRun
import Derived.KernelRfl
import Derived.Shelf.LaysM
import Derived.Shelf.Strconv.AppendIntPublic10
import Derived.Lib.AppendIntMem
import Derived.Lib.ItoaLen
import Derived.Lib.Slices
import Derived.Lib.Hide
import Derived.Laws.IdiomStrings
import Derived.OwnWalk
import Derived.BigCall
import Derived.IntWalk
set_option linter.unusedVariables false
set_option linter.unusedSimpArgs false
set_option maxHeartbeats 8000000
open Go.Proofs.Tryz renaming prog -> γ
open Nat renaming reduceAdd -> δ, reduceSub -> ε, le_refl -> μ, le_trans -> ψ, zero_le -> Qaa, zero_add -> Qaj, not_lt_zero -> Qas, lt_of_lt_of_le -> Qau, mul_le_mul_right -> Qav, mul_one -> QaG, sub_zero -> QaL, le_of_eq -> QaM, succ_mul -> QaR, lt_irrefl -> Qbe, lt_succ_self -> Qbf, ne_of_lt -> Qbg, min_eq_left -> Qbn, mod_eq_of_lt -> QbA, sub_self -> QbU, beq -> Qcy, ble -> QcA, add -> QcB, mul -> QcC, sub -> QcD
open List renaming map_cons -> ζ, map_nil -> η, getD_cons_zero -> θ, getD_cons_succ -> κ, length_append -> ν, length_cons -> ξ, length_nil -> φ, getElem_mem -> ω, take_length -> Qab, getD -> Qac, length_map -> Qad, range -> Qae, getElem?_eq_getElem -> Qaf, cons_append -> Qag, getD_eq_getElem?_getD -> Qak, length_take -> Qal, nil_append -> Qam, mem_append -> Qar, mem_singleton -> Qaz, append_assoc -> QaE, mem_map -> QaF, mem_cons -> QaJ, append_nil -> QaO, map_congr_left -> QaS, map_append -> QaU, flatMap_cons -> QaZ, foldl_append -> Qba, length_singleton -> Qbb, mem_iff_getElem -> Qbi, mem_range -> Qbj, getElem_append_left -> Qbk, getElem_append_right -> Qbl, length_eq_zero_iff -> Qbs, length_pos_iff -> Qbv, drop_length -> Qbw, length_set -> Qbx, nodup_append -> QbJ, getElem?_drop -> QbL, length_range -> QbP, take_add_one -> QbQ, getElem_map -> QbR, drop_eq_getElem_cons -> QbW, range_succ -> Qce, take_of_length_le -> Qcj, mem_flatMap -> Qck, dropLast_concat_getLast -> Qcu
open Bool renaming and_eq_true -> χ, true_and -> Qbu, and_eq_false_iff -> Qcb
open Array renaming length_toList -> Qao
open Option renaming bind_some -> QaV, isSome_iff_exists -> Qcv
noncomputable section
set_option maxRecDepth 100000
namespace Go.Sy
open Go.Ev Go.Proofs
variable {vars:List VarT}{v:VarT}{s:St}{x l:SvT}{m:ModT}{K:AV->St->Prop}{lo hi b0:Nat}
theorem jgv {s:SvT}{n:Int}(h:qa vars s=true)(h1:v.lo<=n)(h2:n<=v.hi):qa (vars ++ [v]) (s ++ [n])=true:=by
 obtain⟨hl,h3⟩:=qM.1 h;refine qM.2 ⟨by simp[hl],λi q1 q2=>?_⟩;by_cases e:i<vars.length
 .rw[Qbk e,Qbk om];exact h3 i e om
 .have hi:i=vars.length:=by simp at q1;omega
  subst hi;rw[Qbl (μ _),Qbl om];simp only[QbU,hl];exact⟨h1,h2⟩
theorem wN (vars:List VarT)(v:VarT):yI (vars ++ [v])=(yI vars).flatMap (yp v):=by
 unfold yI;rw[Qba];rfl
theorem Qc {s:SvT}:x∈yp v s↔∃ n,v.lo<=n/\n<=v.hi/\x=s ++ [n]:=by
 unfold yp;rw[QaF];constructor
 .rintro ⟨i,hi,rfl⟩;have:=Qbj.1 hi;exact⟨_,om,om,rfl⟩
 .rintro ⟨n,h1,h2,rfl⟩;refine⟨(n - v.lo).toNat,Qbj.2 om,?_⟩;rw[show v.lo+(((n - v.lo).toNat:Nat):Int)=n by omega]
theorem Hq :qa (vars ++ [v]) x=true↔∃ s n,x=s ++ [n]/\qa vars s=true/\v.lo<=n/\n<=v.hi:=by
 constructor
 .intro h;obtain⟨h1,h2⟩:=qM.1 h;rw[ν,Qbb] at h1;have hne:x≠[]:=λe=>by rw[e] at h1;simp at h1
  obtain⟨s,n,rfl⟩:∃ s n,x=s ++ [n]:=⟨x.dropLast,x.getLast hne,(Qcu hne).symm⟩;rw[ν,Qbb] at h1;have hl:s.length=vars.length:=om
  refine⟨s,n,rfl,qM.2 ⟨hl,λi a b=>?_⟩,?_⟩
  .have:=h2 i hae hae;rw[Qbk a,Qbk b] at this;exact this
  .have:=h2 vars.length hac hae;rw[Qbl (μ _),Qbl om] at this;simpa using this
 .rintro ⟨s,n,rfl,h,h1,h2⟩;exact jgv h h1 h2
theorem KX:∀ (k:Nat) (vars:List VarT),vars.length=k->∀ x:SvT,x∈yI vars↔qa vars x=true
 |0,vars,hk,x=>by
  have e:vars=[]:=Qbs.1 hk;subst e;rw[qM];show x∈[[]]↔_;rw[Qaz];constructor
  .rintro rfl;exact⟨rfl,λi h=>by cases h⟩
  .rintro ⟨h,_⟩;exact Qbs.1 h
 |k+1,vars,hk,x=>by
  have hne:vars≠[]:=λe=>by rw[e] at hk;simp at hk
  obtain⟨vs,v,rfl⟩:∃ vs v,vars=vs ++ [v]:=⟨vars.dropLast,vars.getLast hne,(Qcu hne).symm⟩;rw[ν,Qbb] at hk;rw[wN,Hq,Qck];constructor
  .rintro ⟨s,hs,hx⟩;obtain⟨n,h1,h2,rfl⟩:=Qc.1 hx;exact⟨s,n,rfl,(KX k vs om s).1 hs,h1,h2⟩
  .rintro ⟨s,n,rfl,h,h1,h2⟩;exact⟨s,(KX k vs om s).2 h,Qc.2 ⟨n,h1,h2,rfl⟩⟩
theorem WQ :x∈yI vars↔qa vars x=true:=KX _ vars rfl x
theorem jfR:∀ (k:Nat) (vars:List VarT),vars.length=k->(yI vars).Nodup
 |0,vars,hk=>by
  have e:vars=[]:=Qbs.1 hk;subst e;show([[]]:List SvT).Nodup;simp
 |k+1,vars,hk=>by
  have hne:vars≠[]:=λe=>by rw[e] at hk;simp at hk
  obtain⟨vs,v,rfl⟩:∃ vs v,vars=vs ++ [v]:=⟨vars.dropLast,vars.getLast hne,(Qcu hne).symm⟩;rw[ν,Qbb] at hk;rw[wN];refine Gc (jfR k vs om) (λs _=>?_) λs _ t _ hst a ha hb=>?_
  .unfold yp;rw[List.nodup_iff_pairwise_ne,List.pairwise_map];refine List.Pairwise.imp ?_ List.nodup_range;intro i j hij e;have:=(List.append_inj' e rfl).2;simp at this;omega
  .obtain⟨n,_,_,rfl⟩:=Qc.1 ha;obtain⟨m,_,_,e⟩:=Qc.1 hb;exact hst (List.append_inj' e rfl).1
theorem G4 (vars:List VarT):(yI vars).Nodup:=jfR _ vars rfl
def ZB (v:VarT):VarT:=if v.beg=true then { v with lo:=v.first,hi:=v.first } else v
def qY (vars:List VarT):List SvT:=yI (vars.map ZB)
def Qj (vars:List VarT):Prop:=∀ v∈vars,v.beg=true->v.lo<=v.first/\v.first<=v.hi
theorem jiV (hF:Qj m.vars):x∈qY m.vars↔zf m x=true:=by
 unfold qY;rw[WQ];constructor
 .intro h;obtain⟨h1,h2⟩:=qM.1 h;rw[Qad] at h1;have hb:∀ i (a:i<m.vars.length) (b:i<x.length),m.vars[i].lo<=x[i]/\x[i]<=m.vars[i].hi/\(m.vars[i].beg=true->x[i]=m.vars[i].first):=λi a b=>by
   have:=h2 i (by rw[Qad];exact a) b;rw[QbR] at this;unfold ZB at this;split at this
   .rename_i hg;have k:=hF _ (ω a) hg;dsimp only at this;exact⟨om,om,λ_=>by omega⟩
   .rename_i hg;exact⟨this.1,this.2,λk=>absurd k hg⟩
  have hr:qa m.vars x=true:=qM.2 ⟨h1,λi a b=>⟨(hb i a b).1,(hb i a b).2.1⟩⟩;exact(Zn hr).2 λi a b=>(hb i a b).2.2
 .intro h;have hr:qa m.vars x=true:=by
   unfold zf at h;rw[χ] at h;exact h.1
  have hs:=(Zn hr).1 h;obtain⟨h1,h2⟩:=qM.1 hr;refine qM.2 ⟨by rw[Qad];exact h1,λi a b=>?_⟩;rw[Qad] at a;rw[QbR];unfold ZB;split
  .rename_i hg;have:=hs i a b hg;dsimp only;omega
  .exact h2 i a b
theorem Wt (hF:Qj m.vars)(h:x∈qY m.vars):qa m.vars x=true:=by
 have:=(jiV hF).1 h;unfold zf at this;rw[χ] at this;exact this.1
theorem Qa (l:List SvT)(h1:l.Nodup)(h2:∀ x∈l,qa vars x=true):l.length<=JB vars:=by
 rw[<-Xj];exact jc6 h1 λx hx=>WQ.2 (h2 x hx)
theorem Vy {s t:SvT}(hs:qa m.vars s=true)(h:t∈yw m s):qa m.vars t=true:=by
 unfold yw at h;rw[if_pos hs] at h;split at h
 .rw[Qaz.1 h];exact hs
 .rcases uS h with h|⟨w,_,e⟩
  .cases h
  .exact vE e
def gT (m:ModT)(most:Int):Option (List SvT):=if((qY m.vars).length:Int)<=most then Yr (yw m) most 301 0 (qY m.vars) else none
variable {base:Bs}
theorem jsh (hb:NB base)(v:VarT):Tot base 43 [.agg (vaE v)] (.tup [.int .i64 (ZB v).lo,.int .i64 (ZB v).hi]):=by
 refine hb.tot ?_ (by simp[pa,pc,Yz]) rfl;cases hv:v.beg with
 |true=>
  rw[show ZB v={ v with lo:=v.first,hi:=v.first } from if_pos hv];refine jE jqH haa (hb.pur 43 1 dc) ?_;simp only[jlm,jr,ζ,η,θ,κ];rw[(by unfold jb8;simp only[qq];rfl:jb8=_)];repeat' first|apply jb<;>intro _|simp(disch:=try exact dzG) only[hv,r11,δ,ε]
  all_goals exact FzD.tup (.cons (.pc rfl) (.cons (.pc rfl) .nil))
 |false=>
  rw[show ZB v=v from if_neg (by rw[hv];decide)];refine jE jqH haa (hb.pur 43 1 dc) ?_;simp only[jlm,jr,ζ,η,θ,κ];rw[(by unfold jb8;simp only[qq];rfl:jb8=_)];repeat' first|apply jb<;>intro _|simp(disch:=try exact dzG) only[hv,r11,δ,ε]
  all_goals exact FzD.tup (.cons (.pc rfl) (.cons (.pc rfl) .nil))
def KI (P:Program)(t:TypeId)(v h m:AV)(st:St):ER:=(J8 P t (O v) none (some (O h)) (some (O m))).run E0 st
theorem jtG {P:Program}{e:En}{st:St}(t:TypeId)(x h m:A):wK P base (.i (.sl3 t x none (some h) (some m))) e st K=on1 e x λv=>on1 e h λu=>on1 e m λw=>jq (KI P t v u w st) K:=k_3 rfl (λ_=>rfl) K
theorem jnq:Go.Ev.sizeOf γ 2=some 1:=Qa0
theorem jlI {c n:Nat}{ex:Bool}(st:St)(K:AV->St->Prop):jq (KI γ 30 (.slice c 0 n n 1 ex) (.int .i64 (n:Int)) (.int .i64 (n:Int)) st) K=K (.slice c 0 n n 1 true) st:=by
 have e1:QcA 0 n=true:=qw (Qaa _);have e2:QcA n n=true:=qw (μ _);unfold KI J8;simp only[Tryz.underlying30,jnq,O,optF,qD,e1,e2,cond_true,jF,jq];rfl
theorem jot (st:St)(K:AV->St->Prop):jq (KI γ 30 (svV l) (.int .i64 (l.length:Int)) (.int .i64 (l.length:Int)) st) K=K (.xlst l.length (l.map (.int .i64))) st:=by
 have e1:QcA 0 l.length=true:=qw (Qaa _);have e2:QcA l.length l.length=true:=qw (μ _);have e3:Qcy l.length l.length=true:=YT rfl;have e4:QcA (QcC l.length 1) (jQ (l.map (AV.int .i64)))=true:=qw (by rw[jM,Qad];exact QaM (QaG _));have e5:yj (zr (l.map (AV.int .i64)) (QcC 0 1)) (QcC (QcD l.length 0) 1)=l.map (AV.int .i64):=by
  rw[qN,yR,show QcC (QcD l.length 0) 1=(l.map (AV.int .i64)).length from by rw[Qad];exact QaG _];exact Qab
 unfold KI J8 svV;simp only[Tryz.underlying30,jnq,O,optF,qD,e1,e2,e3,e4,e5,cond_true,jF,jq];rfl
theorem In1.lenV {x:AV}(h:In1 s lo hi b0 x l)(st:St):jq (lenV x st) K=K (.int .i64 (l.length:Int)) st:=by
 rcases h with rfl|⟨c,ex,rfl,_⟩<;>rfl
def jn1 (s:St)(x:AV)(l:SvT)(n:Int):Prop:=∃ y c ex s',(∀ (st:St) (K:AV->St->Prop),jq (KI γ 30 x (.int .i64 (l.length:Int)) (.int .i64 (l.length:Int)) st) K=K y st)/\(∀ K:AV->St->Prop,jq (zJ 1 8 y (.slice s.nx 0 1 1 1 true) (nw s [.int .i64 n])) K=K (.slice c 0 (l ++ [n]).length (l ++ [n]).length 1 ex) s')/\Cl s' c ((l ++ [n]).map (.int .i64))/\s.nx<=c/\c<s'.nx/\ApX s.nx s'.nx s s'
theorem In1.snoc {x:AV}{n:Int}(h:In1 s lo hi b0 x l)(hl:l.length<=1000000000000) :
  jn1 s x l n:=by
 have C:=Cl.new s [AV.int .i64 n];have hr:rats (Go.Sy.nw s [.int .i64 n]).h s.nx 0 1=[.int .i64 n]:=by have:=C.ratsP 1 0 hac;simpa using this
 have hv:1<=qp (Go.Sy.nw s [.int .i64 n]).h s.nx:=by rw[C.len];exact μ 1
 have A:ApX s.nx (Go.Sy.nw (Go.Sy.nw s [.int .i64 n]) ((l ++ [n]).map (.int .i64))).nx s (Go.Sy.nw (Go.Sy.nw s [.int .i64 n]) ((l ++ [n]).map (.int .i64))):=⟨by rw[jg,jg];omega,rfl,λc hc h=>(q8 (by rw[jg];omega)).trans (q8 om)⟩;have fin:∀ y,(∀ (st:St) (K:AV->St->Prop),jq (KI γ 30 x (.int .i64 (l.length:Int)) (.int .i64 (l.length:Int)) st) K=K y st)->(∀ K:AV->St->Prop,jq (zJ 1 8 y (.slice s.nx 0 1 1 1 true) (Go.Sy.nw s [.int .i64 n])) K=K (.slice (s.nx+1) 0 (l.length+1) (l.length+1) 1 false) (Go.Sy.nw (Go.Sy.nw s [.int .i64 n]) (l.map (.int .i64) ++ [.int .i64 n])))->jn1 s x l n:=λy h1 h2=>⟨y,s.nx+1,false,_,h1,by rw[ν,QaU];exact h2,Cl.new (Go.Sy.nw s [.int .i64 n]) _,om,Qbf _,A⟩;rcases h with rfl|⟨c,ex,rfl,D,_,_,_⟩
 .refine fin _ jot λK=>?_;obtain⟨m,zl,zz,ks,hg⟩:=C.row;have h4:=C.len;rw[yB hg] at h4;have h4:m=1:=h4;have e1:QcA (QcB 0 (QcC 1 1)) m=true:=qw (by rw[h4];decide);have er:jP zl zz ks (QcC 1 1) 0=[.int .i64 n]:=by
   have h:=C.rats0 (k:=1) rfl;rw[JQ] at h;rw[qi,<-h];exact QaS λi _=>by rw[Jt hg]
  have e3:Qcy (jQ [AV.int .i64 n]) (QcC 1 1)=true:=rfl;have e4:Qcy 1 0=false:=rfl;have f4:QcA (QcC (QcB l.length 1) 8) 140737488355328=true:=qw (by show(l.length+1) * 8<=_;omega);have f5:QcA (QcB l.length 1) 9223372036854775807=true:=qw (by show l.length+1<=_;omega);have f6:QcA (QcC l.length 1) (jQ (l.map (AV.int .i64)))=true:=qw (by rw[jM,Qad];exact QaM (QaG _));have f7:yj (l.map (AV.int .i64)) (QcC l.length 1)=l.map (AV.int .i64):=by rw[qN,show QcC l.length 1=(l.map (AV.int .i64)).length from by rw[Qad];exact QaG _,Qab]
  have e9:yS (l.map (AV.int .i64)) [AV.int .i64 n]=l.map (AV.int .i64) ++ [AV.int .i64 n]:=by rw[yz]
  have e10:QcC (QcB l.length 1) 1=(l.map (AV.int .i64) ++ [AV.int .i64 n]).length:=by rw[ν,Qad];exact QaG _
  simp only[zJ,zF,firstCells,hg,yh,jF,e1,cond_true,er,q7,e3,e4,f4,f5,f6,f7,cond_false,e9,e10,St.alloc_eq,jq];rfl
 .exact fin _ jlI λK=>jei (D.nw _) hac dc om om hv hr
theorem ApL.trx {p:Nat}{t u:St}(a:ApL p s t)(b:ApX lo hi t u)(h:p<=lo):ApL p s u:=⟨ψ a.nx b.nx,b.fr.trans a.fr,λc hc hl=>(b.hp c (.inl om) (Qau hl a.nx)).trans (a.hp c hc hl)⟩
theorem LL.cls {s':St}{v:AV}{ls:List SvT}(h:LL lo hi s v ls)(c:∀ b cs,Cl s b cs->Cl s' b cs):LL lo hi s' v ls:=by
 rcases h with ⟨e,rfl|⟨b,rfl,C,h1,h2⟩⟩|⟨b,cs,ex,rfl,hn,C,h1,h2,I⟩
 .exact .inl ⟨e,.inl rfl⟩
 .exact .inl ⟨e,.inr ⟨b,rfl,c _ _ C,h1,h2⟩⟩
 .exact .inr ⟨b,cs,ex,rfl,hn,c _ _ C,h1,h2,I.mono λx l k=>by
   rcases k with rfl|⟨d,ex,rfl,E,k⟩
   .exact .inl rfl
   .exact .inr ⟨d,ex,rfl,c _ _ E,k⟩⟩
theorem LL.bk {v:AV}{ls:List SvT}(h:LL lo hi s v ls)(st:St):LL lo hi (Go.Sy.bk st s) v ls:=h.cls λb cs C=>⟨C.lt,C.row,C.len,C.cell⟩
theorem Mq.cl {q c:Nat}{l:List SvT}{cs:List AV}(h:Mq s q l)(C:Cl s c cs)(es:List (AV×AV)):Cl (mp s q es) c cs:=C.keep (μ _) (by
 rw[WW,if_neg (λe=>by
  obtain⟨_,_,_,_,hr⟩:=C.row;rw[e,h.2] at hr;cases hr)])
theorem ApX.nm (s:St):ApX s.nx (s.nx+1) s (nmp s):=⟨by rw[jnw];omega,rfl,λc hc h=>by rw[Gz,if_neg om]⟩
theorem In1.v1 {x:AV}(h:In1 s lo hi b0 x l):V1 hi s x l:=h.imp id λ⟨c,ex,e,C,_,h,_⟩=>⟨c,ex,e,C,h⟩
structure KeyP (base:Bs):Prop where
 key:∀ (v:AV) (sv:SvT) (st:St),lend st.h v=some (svV sv)->sv.length<=1000000->(∀ x∈sv,-100000000<=x/\x<=100000000)->base.run 44 [v] st=.ok (.str (Jc sv)) st
theorem KeyP.xb (h:KeyP base){p:Nat}{v:AV}{sv:SvT}{st:St}(h1:V1 p st v sv)(h3:sv.length<=1000000)(h2:∀ x∈sv,-100000000<=x/\x<=100000000)(K Kp:AV->St->Prop):XB γ base 44 [v] st K Kp=K (.str (Jc sv)) st:=by
 have E:=WC (P:=γ) (base:=base) (h.key v sv st h1.lend h3 h2) K Kp;rw[Wk] at E;exact E
theorem Q0 (V:∀ v∈m.vars,-100000000<=v.lo/\v.lo<=100000000/\-100000000<=v.hi/\v.hi<=100000000)(h:qa m.vars x=true):x.length=m.vars.length/\∀ y∈x,-100000000<=y/\y<=100000000:=by
 obtain⟨h1,h2⟩:=qM.1 h;refine⟨h1,λy hy=>?_⟩;obtain⟨i,hi,rfl⟩:=Qbi.1 hy;have:=h2 i om hi;have:=V _ (ω (show i<m.vars.length by omega));omega
theorem jfX (hb:NB base)(m:ModT)(V:∀ v∈m.vars,-100000000<=v.lo/\v.lo<=100000000/\-100000000<=v.hi/\v.hi<=100000000)(hm:m.vars.length<=1000000)(S:SB m.vars)(hF:Qj m.vars)(hc:JB m.vars<=300)(most:Int){st:St}{Kp:AV->St->Prop}(hK:∀ v s',((qY m.vars).length:Int)<=most->LL st.nx s'.nx s' v (qY m.vars)->ApL st.nx st s'->K (.tup [v,.bool true]) s')(hN:∀ s',most<((qY m.vars).length:Int)->ApL st.nx st s'->K (.tup [.nils,.bool false]) s'):XB γ base 21 [.agg (mdE m),.int .i64 most] st K Kp:=by
 have hbn:st.bare.nx=st.nx:=rfl;obtain⟨W,hW⟩:∃ W,W=m.vars.map ZB:=⟨_,rfl⟩;have hWl:m.vars.length=W.length:=by rw[hW,Qad]
 have hfw:qY m.vars=yI W:=by rw[hW];rfl
 have VW:∀ k (h1:k<m.vars.length) (h2:k<W.length),W[k]=ZB m.vars[k]/\VB W[k]/\-100000000<=W[k].lo/\W[k].hi<=100000000:=λk h1 h2=>by
  subst hW;rw[QbR];have a:=S.vb _ (ω h1);have b:=V _ (ω h1);have c:=hF _ (ω h1);refine⟨rfl,?_⟩;unfold VB ZB at *;split
  .rename_i hg;have:=c hg;dsimp only;omega
  .omega
 have VB2:∀ v∈W,VB v:=λv hv=>by
  obtain⟨k,hk,rfl⟩:=Qbi.1 hv;exact(VW k om hk).2.1
 have hcW:JB W<=300:=by rw[<-Xj,<-hfw];exact ψ (Qa _ (G4 _) λx hx=>Wt hF hx) hc
 have hfl:(qY m.vars).length<=300:=by rw[hfw,Xj];exact hcW
 have E43:=λv=>jsh hb v;have A0:ApL st.nx st.bare (nw (nw (nw st.bare (mdE m)) []) [.slice (st.nx+1) 0 0 0 1 true]):=(((ApL.refl st.nx st.bare).nw2 _).nw2 _).nw2 _;have C1:Cl (nw (nw (nw st.bare (mdE m)) []) [.slice (st.nx+1) 0 0 0 1 true]) (st.nx+1) []:=(Cl.new (nw st.bare (mdE m)) []).nw _;have C2:Cl (nw (nw (nw st.bare (mdE m)) []) [.slice (st.nx+1) 0 0 0 1 true]) (st.nx+2) [.slice (st.nx+1) 0 0 0 1 true]:=Cl.new (nw (nw st.bare (mdE m)) []) _;have L0:LL (st.nx+1) (st.nx+3) (nw (nw (nw st.bare (mdE m)) []) [.slice (st.nx+1) 0 0 0 1 true]) (.slice (st.nx+2) 0 1 1 1 true) [[]]:=.inr ⟨st.nx+2,_,true,rfl,by simp,C2,om,om,⟨.inr ⟨st.nx+1,true,rfl,C1,om,om,om⟩,trivial⟩⟩;have n0:(nw (nw (nw st.bare (mdE m)) []) [.slice (st.nx+1) 0 0 0 1 true]).nx=st.nx+3:=rfl;have hfc:(qY m.vars).length=JB W:=by rw[hfw,Xj]
 have fin:∀ {s:St} {v:AV} {h:Nat},(JB W:Int)<=most->LL (st.nx+1) h s v (yI W)->h<=s.nx->ApL st.nx st.bare s->K (.tup [v,.bool true]) (bk st s):=λ{s v h} q L hh a=>hK _ _ (by rw[hfc];exact q) (by rw[hfw];exact(((L.down (Nat.le_succ _)).up hh).bk st)) ⟨a.nx,rfl,a.hp⟩;have fin2:∀ {s:St},most<(JB W:Int)->ApL st.nx st.bare s->K (.tup [.nils,.bool false]) (bk st s):=λ{s} q a=>hN _ (by rw[hfc];exact q) ⟨a.nx,rfl,a.hp⟩;refine zP jug haa (hb.at0 21 dc dc _ _) ?_;simp only[jpP,jr,ζ,η,θ,κ];rw[(by unfold jkw;simp only[qq];rfl:jkw=_)];generalize hp:st.nx=p at *;repeat' first|apply jb<;>intro _|simp(disch:=try exact dzG) only[hbn,r11,δ,ε]
 refine jV m.vars.length (λk L s=>(∃ hi v,LL (p+1) hi s v (yI (W.take k))/\hi<=s.nx/\Has L 6 v)/\p+1<=s.nx/\ApL p st.bare s/\Has L 18 (.lst m.vars.length (fl vaE m.vars))/\Has L 1 (.int .i64 most)) ?_ (λk L s hk hI hi hn=>?_) (λL s hI=>?_)
 .refine⟨⟨p+3,_,L0,om,?_⟩,om,A0,?_,?_⟩<;>exact hsX
 .obtain⟨⟨h,v,LS,hn1,i6⟩,n1,AS,i18,i1⟩:=hI;obtain⟨hva,hvb,hl1,hl2⟩:=VW k hk om;have hcnt:=jdU VB2 (k+1);rw[<-Xj,G5 om,ZZ] at hcnt;have hel:=λx (hx:x∈yI (W.take k))=>ku hx;rw[G5 om];generalize hls:yI (W.take k)=ls at *;generalize hvk:m.vars[k]=vk at *;have E43:=E43 vk;rw[<-hva] at E43;generalize W[k]=va at *;have hel:∀ x∈ls,x.length<=1000000:=λx hx=>by have:=hel x hx;rw[Qal] at this;omega
  have eL:=λ(st:St) (K:AV->St->Prop)=>LS.lenV (K:=K) st;obtain⟨u,hu⟩:∃ u,u=wr (nw s [.str [],AV.int IntKind.i64 0,AV.str [],AV.int IntKind.i64 0,AV.int IntKind.i64 0,AV.bool false,AV.int IntKind.i64 0]) s.nx 0 (vaE vk):=⟨_,rfl⟩;have un:u.nx=s.nx+1:=by rw[hu];rfl
  have LU:LL (p+1) h u v ls:=by rw[hu];exact(LS.keep (ApX.nw s _) (.inl hn1)).keep (ApX.wr _ _ _ _) (.inl hn1)
  have AU:ApL p st.bare u:=by rw[hu];exact(AS.nw2 _).wr2 om _ _
  have LN:LL (s.nx+1) (s.nx+1) u .nils []:=.inl ⟨rfl,.inl rfl⟩;repeat' first|apply jb<;>intro _|simp(disch:=try exact dzG) only[ja i6,ja i1,ja i18,ja hi,ja hn,hvk,eL,E43,r11,δ,ε]
  rw[<-hu];have hr0:0<(va.hi - va.lo+1).toNat:=by have:=hvb.1;omega
  have hl3:ls.length<=300:=by
   have:=Nat.le_mul_of_pos_right ls.length hr0;omega
  refine jV ls.length (λk2 L s2=>(∃ h2 v2,LL (s.nx+1) h2 s2 v2 ((ls.take k2).flatMap (yp va))/\h2<=s2.nx/\Has L 9 v2)/\LL (p+1) h s2 v ls/\s.nx+1<=s2.nx/\ApL p st.bare s2/\Has L 10 (.int .i64 va.lo)/\Has L 11 (.int .i64 va.hi)/\Has L 18 (.lst m.vars.length (fl vaE m.vars))/\Has L 20 (.int .i64 (k:Int))/\Has L 19 (.int .i64 (m.vars.length:Int))/\Has L 29 v/\Has L 1 (.int .i64 most)) ?_ (λky Ly sy hky hIy hiy hny=>?_) (λLy sy hIy=>?_)
  .refine⟨⟨s.nx+1,_,LN,om,?_⟩,LU,om,AU,?_,?_,?_,?_,?_,?_,?_⟩;all_goals exact hsX
  .obtain⟨⟨h2,v2,LY2,hn2,j9⟩,LY,m2,AY,j10,j11,j18,j20,j19,j29,j1⟩:=hIy;obtain⟨b,cs,ex,rfl,hne,CB,hb1,hb2,IN⟩:∃ b cs ex,v=.slice b 0 ls.length ls.length 1 ex/\ls≠[]/\Cl sy b cs/\p+1<=b/\b<h/\InL sy (p+1) h b cs ls:=by
    rcases LY with ⟨e,_⟩|q
    .rw[e] at hky;exact absurd hky (Qas _)
    .exact q
   have gx:rat sy.h b ky=cs.getD ky .bad:=CB.cell ky (by rw[IN.len];exact hky);have X:=IN.get hky;have hlen:qp sy.h b=ls.length:=by rw[CB.len,IN.len]
   have hlx:=hel _ (ω hky);have hS:=jjw (v:=va) hky;generalize cs.getD ky .bad=x at gx X;generalize hly:ls[ky]=ly at *;have fin0:(Qae (va.lo - va.lo).toNat).map (λ(i:Nat)=>ly ++ [va.lo+(i:Int)])=[]:=by rw[Int.sub_self];rfl
   have hbound:∀ n:Int,va.lo<=n->n<=va.hi->((ls.take ky).flatMap (yp va) ++ (Qae (n - va.lo).toNat).map λ(i:Nat)=>ly ++ [va.lo+(i:Int)]).length<JB W:=λn h1 hn=>by
    rw[ν,ZZ,Qad,QbP,Qal,Qbn om];have:=Qav (va.hi - va.lo+1).toNat (show ky+1<=ls.length by omega);rw[QaR] at this;omega
   repeat' first|apply jb<;>intro _|simp(disch:=try exact dzG) only[ja j9,ja j10,ja j11,ja j18,ja j20,ja j19,ja j29,ja j1,ja hiy,ja hny,gx,r11,δ,ε]
   refine yA (λmm L s3=>∃ (n:Int),va.lo<=n/\n<=va.hi+1/\(mm:Int)=va.hi+1 - n/\(∃ h3 v3,LL (s.nx+1) h3 s3 v3 ((ls.take ky).flatMap (yp va) ++ (Qae (n - va.lo).toNat).map λ(i:Nat)=>ly ++ [va.lo+(i:Int)])/\h3<=s3.nx/\Has L 9 v3)/\LL (p+1) h s3 (.slice b 0 ls.length ls.length 1 ex) ls/\In1 s3 (p+1) h b x ly/\s.nx+1<=s3.nx/\ApL p st.bare s3/\Has L 10 (.int .i64 va.lo)/\Has L 11 (.int .i64 va.hi)/\Has L 18 (.lst m.vars.length (fl vaE m.vars))/\Has L 20 (.int .i64 (k:Int))/\Has L 19 (.int .i64 (m.vars.length:Int))/\Has L 29 (.slice b 0 ls.length ls.length 1 ex)/\Has L 1 (.int .i64 most)/\Has L 31 (.int .i64 (ky:Int))/\Has L 30 (.int .i64 (ls.length:Int))/\Has L 13 x/\Has L 14 (.int .i64 n)) ?_ (va.hi+1 - va.lo).toNat ?_
   .rintro mm L s3 ⟨n,q1,q2,q3,⟨h3,v3,LZ,hn3,z9⟩,LO,XZ,m3,AZ,z10,z11,z18,z20,z19,z29,z1,z31,z30,z13,z14⟩;unfold WB;by_cases hle:n<=va.hi
    .have hbn:=hbound n q1 hle;obtain⟨y,c,ex2,s4,e1,e2,C4,hc1,hc2,A4⟩:=XZ.snoc (n:=n) om;have eX:=λ(st:St) (K:AV->St->Prop)=>XZ.lenV (K:=K) st;have eZ:=λ(st:St) (K:AV->St->Prop)=>LZ.lenV (K:=K) st;have n4:=A4.nx;have fr:∀ {lo hi v' ls'},LL lo hi s3 v' ls'->hi<=s3.nx->LL lo hi (nw s4 [.slice c 0 (ly ++ [n]).length (ly ++ [n]).length 1 ex2]) v' ls':=λk hh=>(k.keep A4 (.inl om)).keep (ApX.nw s4 _) (.inl om);obtain⟨v6,s6,e6,L6,A6⟩:=(fr LZ hn3).app (bytes:=24) (xc:=1) (xx:=true) (Cl.new s4 _) (.inr ⟨c,ex2,rfl,C4.nw _,om,om⟩) (by rw[jg];omega) (by rw[jg];omega) om om;have eW:wq (n+1)=n+1:=kD _ om om;have n6:=A6.nx;rw[jg] at n6;have hR:(Qae (n+1 - va.lo).toNat).map (λ(i:Nat)=>ly ++ [va.lo+(i:Int)])=(Qae (n - va.lo).toNat).map (λ(i:Nat)=>ly ++ [va.lo+(i:Int)]) ++ [ly ++ [n]]:=by
      rw[show(n+1 - va.lo).toNat=(n - va.lo).toNat+1 by omega,Qce,QaU,ζ,η];rw[show va.lo+((n - va.lo).toNat:Int)=n by omega]
     rw[QaE,<-hR] at L6;by_cases hge:most<=(((ls.take ky).flatMap (yp va) ++ (Qae (n - va.lo).toNat).map λ(i:Nat)=>ly ++ [va.lo+(i:Int)]).length:Int)
     .repeat' first|apply jb<;>intro _|simp(disch:=try exact dzG) only[ja z9,ja z10,ja z11,ja z13,ja z14,ja z1,eZ,hle,hge,r11,δ,ε]
      exact fin2 om AZ
     have A6':ApL p st.bare s6:=((AZ.trx A4 om).nw2 _).trx A6 om;repeat' first|apply jb<;>intro _|simp(disch:=try exact dzG) only[ja z9,ja z10,ja z11,ja z13,ja z14,ja z1,jtG,eX,eZ,e1,e2,e6,hle,hge,Vd,eW,r11,δ,ε]
     refine⟨mm - 1,om,n+1,om,om,om,⟨s6.nx,v6,L6,μ _,?_⟩,(fr LO om).keep A6 (.inl om),?_,om,A6',?_,?_,?_,?_,?_,?_,?_,?_,?_,?_,?_⟩
     .simp(disch:=decide) only[jm,ju]
     .exact((XZ.keep A4 (.inl om)).keep (ApX.nw s4 _) (.inl om)).keep A6 (.inl om)
     all_goals exact hsX
    .have hnh:n=va.hi+1:=om
     subst hnh;have hst:yp va ly=(Qae (va.hi+1 - va.lo).toNat).map (λ(i:Nat)=>ly ++ [va.lo+(i:Int)]):=by
      unfold yp;rw[show va.hi - va.lo+1=va.hi+1 - va.lo by omega]
     rw[<-hst,<-hS] at LZ;repeat' first|apply jb<;>intro _|simp(disch:=try exact dzG) only[ja z9,ja z10,ja z11,ja z13,ja z14,hle,r11,δ,ε]
     refine⟨⟨⟨h3,v3,LZ,hn3,?_⟩,LO,m3,AZ,?_,?_,?_,?_,?_,?_,?_⟩,?_,?_⟩;all_goals exact hsX
   .refine⟨va.lo,Int.le_refl _,by have:=hvb.1;omega,by have:=hvb.1;omega,⟨h2,v2,by rw[fin0,QaO];exact LY2,hn2,?_⟩,LY,X,m2,AY,?_,?_,?_,?_,?_,?_,?_,?_,?_,?_,?_⟩;all_goals exact hsX
  .obtain⟨⟨h2,v2,LY2,hn2,j9⟩,LY,m2,AY,j10,j11,j18,j20,j19,j29,j1⟩:=hIy;rw[Qab] at LY2;repeat' first|apply jb<;>intro _|simp(disch:=try exact dzG) only[ja j9,r11,δ,ε]
   refine⟨⟨⟨h2,v2,LY2.down om,hn2,?_⟩,om,AY,?_,?_⟩,?_,?_⟩;all_goals exact hsX
 .obtain⟨⟨h,v,LS,hn1,i6⟩,n1,AS,i18,i1⟩:=hI;rw[hWl,Qab] at LS;have eL:=λ(st:St) (K:AV->St->Prop)=>LS.lenV (K:=K) st;by_cases hgt:most<((yI W).length:Int)
  .repeat' first|apply jb<;>intro _|simp(disch:=try exact dzG) only[ja i6,ja i1,eL,hgt,r11,δ,ε]
   exact fin2 (by rw[Xj] at hgt;exact hgt) AS
  .repeat' first|apply jb<;>intro _|simp(disch:=try exact dzG) only[ja i6,ja i1,eL,hgt,r11,δ,ε]
   exact fin (by rw[Xj] at hgt;omega) LS hn1 AS
variable {base:Bs}
theorem LL.row {lo hi:Nat}{s:St}{v:AV}{ls:List SvT}(h:LL lo hi s v ls){k:Nat}(hk:k<ls.length):∃ (b:Nat) (cs:List AV) (ex:Bool),v=.slice b 0 ls.length ls.length 1 ex/\qp s.h b=ls.length/\rat s.h b k=cs.getD k .bad/\In1 s lo hi b (cs.getD k .bad) ls[k]:=by
 rcases h with ⟨e,_⟩|⟨b,cs,ex,rfl,hn,C,h1,h2,I⟩
 .rw[e] at hk;exact absurd hk (Qas _)
 .exact⟨b,cs,ex,rfl,by rw[C.len,I.len],C.cell k (by rw[I.len];exact hk),I.get hk⟩
def Uu:Option (List SvT)->AV
 |some o=>.tup [.lst o.length (fl svE o),.bool true]
 |none=>.tup [.lst 0 [],.bool false]
theorem jcT {s:St}:G0 (Uu none) (.tup [.nils,.bool false]) s:=FzD.tup (.cons FzD.nils (.cons (.pc rfl) .nil))
theorem jps (hb:NB base)(hC:CloneP base)(hkp:KeyP base)(m:ModT)(B:ModB m)(V:∀ v∈m.vars,-100000000<=v.lo/\v.lo<=100000000/\-100000000<=v.hi/\v.hi<=100000000)(S:SB m.vars)(hF:Qj m.vars)(hc:JB m.vars<=300)(most:Int):Tot base 23 [.agg (mdE m),.int .i64 most] (Uu (gT m most)):=by
 have hm:=B.vars;have C0:Cl (nw st0 (mdE m)) 0 (mdE m):=Cl.new st0 (mdE m);have f1:(nw st0 (mdE m)).nx=1:=rfl;have hnd:(qY m.vars).Nodup:=G4 _;have hgd:∀ x∈qY m.vars,qa m.vars x=true:=λx hx=>Wt hF hx;have hfl:(qY m.vars).length<=300:=ψ (Qa _ hnd hgd) hc;have ho:gT m most=if((qY m.vars).length:Int)<=most then Yr (yw m) most 301 0 (qY m.vars) else none:=rfl
 rw[ho];clear ho;refine hb.tot ?_ (by simp[pa,pc,Ju]) rfl;refine jE jue haa (hb.pur 23 1 dc) ?_;simp only[jpN,jr,ζ,η,θ,κ];rw[(by unfold jku;simp only[qq];rfl:jku=_)];repeat' first|apply jb<;>intro _|simp(disch:=try exact dzG) only[r11,δ,ε]
 refine jfX hb m V hm S hF hc most (λv s1 hle LF AF=>?_) (λs1 hgt _=>?_);rotate_left
 .rw[if_neg om];repeat' first|apply jb<;>intro _|simp(disch:=try exact dzG) only[r11,δ,ε]
  exact jcT
 rw[if_pos hle];obtain⟨R,hR⟩:∃ R,R=Yr (yw m) most 301 0 (qY m.vars):=⟨_,rfl⟩;rw[<-hR];have n1:=AF.nx;rw[f1] at n1 AF LF;have C1:Cl s1 0 (mdE m):=AF.cl 0 _ om C0;clear C0 f1 AF;generalize qY m.vars=F at *;obtain⟨s2,hs2⟩:∃ s2,s2=nmp s1:=⟨_,rfl⟩;have n2:s2.nx=s1.nx+1:=by rw[hs2];rfl
 have M2:Mq s2 s1.nx []:=hs2▸Mq.new s1;have L2:LL 1 s1.nx s2 v F:=by rw[hs2];exact LF.keep (ApX.nm s1) (.inl (μ _))
 have C2:Cl s2 0 (mdE m):=by rw[hs2];exact(ApX.nm s1).cl 0 _ (.inl om) C1
 have eL:=λ(st:St) (K:AV->St->Prop)=>LF.lenV (K:=K) st;repeat' first|apply jb<;>intro _|simp(disch:=try exact dzG) only[jnF,jm8,eL,r11,δ,ε]
 rw[<-hs2];clear hs2 LF C1;generalize s1.nx=q at *;refine jV F.length (λk L s=>LL 1 q s v F/\Mq s q (F.take k)/\Cl s 0 (mdE m)/\q+1<=s.nx/\Has L 24 v/\Has L 6 v/\Has L 8 (.map q)/\Has L 2 (.ptr 0 0)/\Has L 1 (.int .i64 most)) ?_ (λk L s hk hI hi hn=>?_) (λL s hI=>?_)
 .refine⟨L2,M2,C2,om,?_,?_,?_,?_,?_⟩<;>exact hsX
 .obtain⟨LS,MS,CS,n3,i24,i6,i8,i2,i1⟩:=hI;obtain⟨b,cs,ex,rfl,hlen,gx,X⟩:=LS.row hk;have hbd:=Q0 V (hgd _ (ω hk));have hS:=yt hk;have hnm:F[k]∉F.take k:=by
   have:=hnd.sublist (List.take_sublist (k+1) F);rw[hS,QbJ] at this;exact λh=>this.2.2 _ h _ hac rfl
  generalize cs.getD k .bad=x at gx X;generalize F[k]=t at *;have e44:=hkp.xb X.v1 (by rw[hbd.1];exact hm) hbd.2;have eW:wq ((k:Int)+1)=(k:Int)+1:=kD _ om om;have eU:=λ(K:AV->St->Prop)=>jnv (K:=K) (n:=(k:Int)+1) MS hnm (by rw[Qal,Qbn om];omega);repeat' first|apply jb<;>intro _|simp(disch:=try exact dzG) only[ja i24,ja i6,ja i8,ja i2,ja i1,ja hi,ja hn,gx,hlen,e44,Vd,eW,jbN,eU,r11,δ,ε]
  rw[hS];refine⟨⟨LS.cls λ_ _ C=>MS.cl C _,MS.put _,MS.cl CS _,n3,?_,?_,?_,?_,?_⟩,?_,?_⟩<;>exact hsX
 .obtain⟨L3,M3,C3,n3,i24,i6,i8,i2,i1⟩:=hI;rw[Qab] at M3;repeat' first|apply jb<;>intro _|simp(disch:=try exact dzG) only[ja i6,ja i8,ja i2,ja i1,r11,δ,ε]
  refine yA (λmm L s=>∃ (i:Nat) (out:List SvT) (h:Nat) (w:AV),mm+i=301/\i<=out.length/\out.Nodup/\Yr (yw m) most mm i out=R/\(∀ x∈out,qa m.vars x=true)/\LL 1 h s w out/\h<=s.nx/\1<=s.nx/\Mq s q out/\Cl s 0 (mdE m)/\Has L 6 w/\Has L 8 (.map q)/\Has L 2 (.ptr 0 0)/\Has L 1 (.int .i64 most)/\Has L 11 (.int .i64 (i:Int))) ?_ 301 ?_
  .rintro mm L s ⟨i,out,h,w,q1,q2,q3,q4,q5,LW,hh,n5,MW,CW,z6,z8,z2,z1,z11⟩;unfold WB;have q6:out.length<=300:=ψ (Qa _ q3 q5) hc;obtain⟨n,rfl⟩:∃ n,mm=n+1:=⟨mm - 1,om⟩;have eL:=λ(st:St) (K:AV->St->Prop)=>LW.lenV (K:=K) st;by_cases hlt:i<out.length
   .obtain⟨b,cs,ex,rfl,hlen,gx,X⟩:=LW.row hlt;rw[Yr,Qaf hlt] at q4;dsimp only at q4;have hr:=q5 _ (ω hlt);have hnx:∀ t∈yw m out[i],qa m.vars t=true:=λt ht=>Vy hr ht;generalize cs.getD i .bad=x at gx X;generalize out[i]=si at *;obtain⟨A,ha⟩:∃ A,A=Z2 most (yw m si) out:=⟨_,rfl⟩;rw[<-ha] at q4
    (have zz:=@CW.r;repeat' first|apply jb<;>intro _|simp(disch:=try exact jW) only[ja z6,ja z8,ja z2,ja z1,ja z11,gx,hlen,hlt,eL,CW.q,CW.r,r11,δ,ε])
    refine jsT hb hC m B si (by rw[(Q0 V hr).1];omega) (X.v1.up hh) λs2 a=>?_;have n6:=a.nx;have LN:=LW.keep (ApX.of a) (.inl hh);have MN:=MW.keep a.nx (a.hp q MW.1 MW.1);have CN:=a.cl 0 _ om CW;have hin:i<out.length:=hlt;clear X gx hlen eL;have hts:(yw m si).length<=1000001:=ψ jaB (by have:=B.moves;omega);generalize yw m si=ts at *;repeat' first|apply jb<;>intro _|simp(disch:=try exact dzG) only[ja z6,ja z8,ja z2,ja z1,ja z11,r11,δ,ε]
    refine jV ts.length (λk2 L s=>(∃ out2 h2 w2,Z2 most (ts.drop k2) out2=A/\i<out2.length/\out2.Nodup/\(∀ x∈out2,qa m.vars x=true)/\LL 1 h2 s w2 out2/\h2<=s.nx/\Mq s q out2/\Has L 6 w2)/\1<=s.nx/\Cl s 0 (mdE m)/\Has L 48 (.lst ts.length (fl svE ts))/\Has L 8 (.map q)/\Has L 2 (.ptr 0 0)/\Has L 1 (.int .i64 most)/\Has L 11 (.int .i64 (i:Int))) ?_ (λky Ly sy hky hIy hiy hny=>?_) (λLy sy hIy=>?_)
    .refine⟨⟨out,h,_,ha.symm,hin,q3,q5,LN,om,MN,?_⟩,om,CN,?_,?_,?_,?_,?_⟩;all_goals exact hsX
    .obtain⟨⟨out2,h2,w2,a1,a2,a3,a4,LY,hh2,MY,j6⟩,n7,CY,j48,j8,j2,j1,j11⟩:=hIy;have hrt:=hnx _ (ω hky);have a9:out2.length<=300:=ψ (Qa _ a3 a4) hc;rw[QbW hky,Z2] at a1;have eT:=λ(st:St) (K:AV->St->Prop)=>uI (st:=st) (K:=K) hky;generalize ts[ky]=t at *;have e44:=hkp.xb (st:=sy) (p:=0) (.inl rfl:V1 0 sy (svV t) t) (by rw[(Q0 V hrt).1];exact hm) (Q0 V hrt).2;have tp:(svV t).plain=true:=rfl;have tcl:(svV t).cells.length=1:=rfl;have tc:(svV t).cells=[svV t]:=rfl;have tl:lall AV.cell [svV t]=true:=rfl;have tl':lall AV.cell (svV t).cells=true:=rfl;by_cases ht:t∈out2
     .rw[if_pos ht] at a1;obtain⟨n,hn1,eK⟩:=joK MY ht;have hgt:(0:Int)<(n:Int):=om
      repeat' first|apply jb<;>intro _|simp(disch:=try exact dzG) only[ja j6,ja j8,ja j2,ja j1,ja j11,ja j48,ja hiy,ja hny,eT,e44,UG,eK,hgt,tc,r11,δ,ε]
      refine⟨⟨⟨out2,h2,w2,a1,a2,a3,a4,LY,hh2,MY,?_⟩,n7,CY,?_,?_,?_,?_,?_⟩,?_,?_⟩<;>exact hsX
     .rw[if_neg ht] at a1;by_cases hge:most<=(out2.length:Int)
      .rw[if_pos hge] at a1;subst a1;have eK:=λK=>jfb (K:=K) MY ht;have eY:=λ(st:St) (K:AV->St->Prop)=>LY.lenV (K:=K) st;have hgt:¬ (0:Int)<0:=dc
       repeat' first|apply jb<;>intro _|simp(disch:=try exact dzG) only[ja j6,ja j8,ja j2,ja j1,ja j11,ja j48,ja hiy,ja hny,eT,e44,UG,eK,eY,hge,hgt,tc,r11,δ,ε]
       rw[<-q4];exact jcT
      rw[if_neg hge] at a1;have eK:=λK=>jfb (K:=K) MY ht;have eY:=λ(st:St) (K:AV->St->Prop)=>LY.lenV (K:=K) st;have n0:(nw sy [svV t]).nx=sy.nx+1:=rfl;have LY':LL 1 h2 (nw sy [svV t]) w2 out2:=LY.keep (ApX.nw sy _) (.inl hh2);have MY':Mq (nw sy [svV t]) q out2:=MY.keep om (q8 (Qbg MY.1));obtain⟨w6,s6,e6,L6,A6,M6⟩:=LY'.appM (bytes:=24) (xc:=1) (xx:=true) (Cl.new sy [svV t]) (.inl rfl) om om om om;have n6:=A6.nx;have MZ:Mq s6 q out2:=MY'.keep n6 (M6 q _ MY'.1 MY'.2);have CZ:Cl s6 0 (mdE m):=A6.cl 0 _ (.inl om) (CY.nw _);have eZ:=λ(st:St) (K:AV->St->Prop)=>L6.lenV (K:=K) st;have eU:=λ(K:AV->St->Prop)=>jnv (K:=K) (n:=((out2 ++ [t]).length:Int)) MZ ht (by rw[ν];rfl);have hgt:¬ (0:Int)<0:=dc
      repeat' first|apply jb<;>intro _|simp(disch:=try exact dzG) only[ja j6,ja j8,ja j2,ja j1,ja j11,ja j48,ja hiy,ja hny,eT,e44,UG,jbN,eK,eY,eZ,hge,hgt,tc,e6,eU,r11,δ,ε]
      refine⟨⟨⟨out2 ++ [t],s6.nx,w6,a1,by rw[ν];omega,by rw[QbJ];exact⟨a3,by simp,λa ha b hb e=>ht (by rw[Qaz] at hb;rw[<-hb,<-e];exact ha)⟩,λx hx=>?_,L6.cls λ_ _ C=>MZ.cl C _,μ _,MZ.put _,?_⟩,by show 1<=s6.nx;omega,MZ.cl CZ _,?_,?_,?_,?_,?_⟩,?_,?_⟩
      .rcases Qar.1 hx with h|h
       .exact a4 x h
       .rw[Qaz.1 h];exact hrt
      all_goals exact hsX
    .obtain⟨⟨out2,h2,w2,a1,a2,a3,a4,LY,hh2,MY,j6⟩,n7,CY,j48,j8,j2,j1,j11⟩:=hIy;rw[Qbw,Z2] at a1;have a9:out2.length<=300:=ψ (Qa _ a3 a4) hc;rw[<-a1] at q4;have eW:wq ((i:Int)+1)=((i+1:Nat):Int):=kD _ om om;repeat' first|apply jb<;>intro _|simp(disch:=try exact dzG) only[ja j6,ja j8,ja j2,ja j1,ja j11,Vd,eW,r11,δ,ε]
     refine⟨n,om,i+1,out2,h2,w2,om,om,a3,q4,a4,LY,hh2,n7,MY,CY,?_,?_,?_,?_,?_⟩;all_goals exact hsX
   .have hio:i=out.length:=om
    rw[Yr,List.getElem?_eq_none om] at q4;rw[<-q4];repeat' first|apply jb<;>intro _|simp(disch:=try exact dzG) only[ja z6,ja z8,ja z2,ja z1,ja z11,eL,hlt,r11,δ,ε]
    exact FzD.tup (.cons (LW.fzd (d:=5) (Qaa _)) (.cons (.pc rfl) .nil))
  .refine⟨0,F,q,_,rfl,Qaa _,hnd,hR.symm,hgd,L3,om,om,M3,C3,?_,?_,?_,?_,?_⟩;all_goals first
    |(show Has _ 11 (.int .i64 0);simp(disch:=decide) only[ju];done)
    |(simp(disch:=decide) only[jm,ju];done)
    |(simp(disch:=decide) only[jm];assumption)
theorem G7 (hb:NB base)(m:ModT)(hm:m.vars.length<=1000000)(sv:SvT)(hs:sv.length<=1099511627776):Tot base 20 [.agg (mdE m),svV sv] (.bool (zf m sv)):=by
 refine hb.tot ?_ (by unfold svV;simp[pa,pc,Ju,zM]) rfl;have E:=kz hb m sv hm hs;unfold svV at *;refine jE juh haa (hb.pur 20 1 dc) ?_;simp only[jpQ,jr,ζ,η,θ,κ];rw[(by unfold jkx;simp only[qq];rfl:jkx=_)];cases h1:qa m.vars sv with
 |false=>
  rw[h1] at E;repeat' first|apply jb<;>intro _|simp(disch:=try exact dzG) only[E,JH,r11,δ,ε]
  all_goals exact G0.v (by unfold zf;rw[h1];rfl) rfl
 |true=>
  rw[h1] at E;have hl:=(qM.1 h1).1;repeat' first|apply jb<;>intro _|simp(disch:=try exact dzG) only[E,JH,r11,δ,ε]
  refine jV m.vars.length (λk L st=>(∀ j (h1:j<m.vars.length) (h2:j<sv.length),j<k->m.vars[j].beg=true->sv[j]=m.vars[j].first)/\1<=st.nx/\Has L 1 (.lst sv.length (sv.map (.int .i64)))/\Has L 12 (.lst m.vars.length (fl vaE m.vars))) ?_ (λk L s hk hI hi hn=>?_) (λL s hI=>?_)
  .refine⟨λj h1 h2 hj=>absurd hj (Qas _),by(first|omega|(simp only[jg,jn,jt,jp,jo];first|done|omega)),?_,?_⟩<;>exact hsX
  .obtain⟨h0,n1,i1,i12⟩:=hI;have hks:k<sv.length:=om
   cases hbg:m.vars[k].beg with
   |false=>
    repeat' first|apply jb<;>intro _|simp(disch:=try exact dzG) only[ja i1,ja i12,ja hi,ja hn,Qx,hbg,r11,δ,ε]
    refine⟨⟨λj h1 h2 hj hb2=>?_,om,?_,?_⟩,?_,?_⟩
    .by_cases e:j=k
     .subst e;rw[hbg] at hb2;cases hb2
     .exact h0 j h1 h2 om hb2
    all_goals exact hsX
   |true=>
    by_cases hq:sv[k]=m.vars[k].first
    .have hq2:=hq;repeat' first|apply jb<;>intro _|simp(disch:=try exact dzG) only[ja i1,ja i12,ja hi,ja hn,Qx,hbg,hq,r11,δ,ε]
     refine⟨⟨λj h1 h2 hj hb2=>?_,om,?_,?_⟩,?_,?_⟩
     .by_cases e:j=k
      .subst e;exact hq
      .exact h0 j h1 h2 om hb2
     all_goals exact hsX
    .have hq':¬ m.vars[k].first=sv[k]:=λe=>hq e.symm
     repeat' first|apply jb<;>intro _|simp(disch:=try exact dzG) only[ja i1,ja i12,ja hi,ja hn,Qx,hbg,hq,hq',r11,δ,ε]
     exact G0.v (congrArg AV.bool (jip h1 hk hks hbg hq).symm) rfl
  .obtain⟨h0,n1,i1,i12⟩:=hI;repeat' first|apply jb<;>intro _|simp(disch:=try exact dzG) only[r11,δ,ε]
   exact G0.v (congrArg AV.bool ((Zn h1).2 λi h1 h2=>h0 i h1 h2 h1).symm) rfl
variable {base:Bs}
theorem jtZ (hb:NB base)(m:ModT){enums:List EnumT}(hm:m.vars.length<=1000000)(mv:MoveT)(K:MoveK m.vars enums mv)(sv:SvT)(hs:sv.length<=1000000000000) :
  Tot base 50 [.agg (mdE m),.agg (moE mv),svV sv] (.bool (H6 m.vars mv sv)):=by
 refine hb.tot ?_ (by unfold svV;simp[pa,pc,Ju,wk,zM]) rfl;have E1:=kz hb m sv hm om;have fW:=jiB (Cl.new (nw st0 (mdE m)) (moE mv));have f1:(nw st0 (mdE m)).nx=1:=rfl;rw[f1] at fW;have hd:H6 m.vars mv sv=(qa m.vars sv && decide (zQ sv mv.when=1) && mv.acts.all (inB m.vars sv)):=rfl;have hal:=K.len;unfold svV at *;refine jE jt1 haa (hb.pur 50 1 dc) ?_;simp only[jpA,jr,ζ,η,θ,κ];rw[(by unfold jkh;simp only[qq];rfl:jkh=_)];cases h1:qa m.vars sv with
 |false=>
  rw[h1] at E1 hd;repeat' first|apply jb<;>intro _|simp(disch:=try exact dzG) only[fW,E1,r11,δ,ε]
  all_goals exact G0.v (by rw[hd];rfl) rfl
 |true=>
  have hl:=(qM.1 h1).1;rw[h1] at E1 hd;have E3:=KN hb sv om mv.when K.when.sz (by rw[hl];exact K.when.numb);unfold svV at E3;by_cases h3:zQ sv mv.when=1
  .rw[h3] at E3;rw[decide_eq_true h3,Qbu,Qbu] at hd;repeat' first|apply jb<;>intro _|simp(disch:=try exact dzG) only[fW,E1,E3,r11,δ,ε]
   refine jV mv.acts.length (λk L s=>(mv.acts.take k).all (inB m.vars sv)=true/\2<=s.nx/\Cl s 0 (mdE m)/\Has L 2 (.lst sv.length (sv.map (.int .i64)))/\Has L 3 (.ptr 0 0)/\Has L 22 (.lst mv.acts.length (fl seE mv.acts))) ?_ (λk L s hk hI hi hn=>?_) (λL s hI=>?_)
   .refine⟨rfl,by(first|omega|(simp only[jg,jn,jt,jp,jo];first|done|omega)),by(try exact cyG),?_,?_,?_⟩<;>exact hsX
   .obtain⟨a0,n2,C0,i2,i3,i22⟩:=hI;have ka:=K.acts _ (ω hk);have E18:=KN hb sv om mv.acts[k].to ka.2.2.sz (by rw[hl];exact ka.2.2.numb);unfold svV at E18;have hS:=jb4 (p:=inB m.vars sv) hk;rw[a0,Qbu] at hS;have gv0:=ka.1;have gv1:=ka.2.1;have hz:mv.acts[k].var.toNat<m.vars.length:=om
    have hin:inB m.vars sv mv.acts[k]=(decide (m.vars[mv.acts[k].var.toNat].lo<=zQ sv mv.acts[k].to) && decide (zQ sv mv.acts[k].to<=m.vars[mv.acts[k].var.toNat].hi)):=by
     unfold inB;rw[Qak,Qaf hz];rfl
    have hno:inB m.vars sv mv.acts[k]=false->mv.acts.all (inB m.vars sv)=false:=λh=>List.all_eq_false.2 ⟨_,ω hk,by rw[h];decide⟩;generalize zQ sv mv.acts[k].to=n at E18 hin
    (have zz:=C0.r;repeat' first|apply jb<;>intro _|simp(disch:=try exact jW) only[ja i2,ja i3,ja i22,ja hi,ja hn,Uv,E18,C0.q,C0.r,r11,δ,ε])
    all_goals first
     |(refine G0.v ?_ rfl;rw[hd,hno (by rw[hin,Qcb,decide_eq_false_iff_not,decide_eq_false_iff_not];omega)];done)
     |(refine⟨⟨by rw[hS,hin,χ,decide_eq_true_eq,decide_eq_true_eq];omega,om,(C0.nw _).wrO om _ _,?_,?_,?_⟩,?_,?_⟩<;>exact hsX)
   .obtain⟨a0,n2,C0,i2,i3,i22⟩:=hI;rw[Qab] at a0;repeat' first|apply jb<;>intro _|simp(disch:=try exact dzG) only[r11,δ,ε]
    exact G0.v (by rw[hd,a0]) rfl
  .rw[decide_eq_false h3] at hd;repeat' first|apply jb<;>intro _|simp(disch:=try exact dzG) only[fW,E1,E3,h3,r11,δ,ε]
   all_goals first|exact G0.v (by rw[hd];simp) rfl
variable {base:Bs}
theorem jmR (hb:NB base)(m:ModT)(M:ModK m)(hm:m.vars.length<=1000000)(sv:SvT)(hs:sv.length<=1000000000000):Tot base 28 [.agg (mdE m),svV sv] (.lst (yw m sv).length (fl svE (yw m sv))):=by
 refine hb.tot ?_ (by unfold svV;simp[pa,pc,Ju,zM]) rfl;have E1:=kz hb m sv hm om;have EC:=λ(mv:MoveT) (hv:mv∈m.moves)=>jtZ hb m hm mv (M.moves mv hv) sv hs;have hml:=M.len;have hd:yw m sv=if qa m.vars sv=true then(if(zV m.vars sv m.moves []).length=0 then [sv] else zV m.vars sv m.moves []) else []:=rfl
 have f1:(nw st0 (mdE m)).nx=1:=rfl;have C1:Cl (nw (nw st0 (mdE m)) []) 1 []:=f1▸Cl.new (nw st0 (mdE m)) [];have L0:LL 1 2 (nw (nw st0 (mdE m)) []) (.slice 1 0 0 0 1 true) []:=.inl ⟨rfl,.inr ⟨1,rfl,C1,μ _,Qbf _⟩⟩;unfold svV at *;refine jE jua haa (hb.pur 28 1 dc) ?_;simp only[jpJ,jr,ζ,η,θ,κ];rw[(by unfold jkq;simp only[qq];rfl:jkq=_)];cases h1:qa m.vars sv with
 |false=>
  rw[h1] at E1 hd;rw[if_neg dc] at hd;repeat' first|apply jb<;>intro _|simp(disch:=try exact dzG) only[E1,r11,δ,ε]
  all_goals
   rw[hd];exact L0.fzd (d:=6) (Qaa _)
 |true=>
  have hl:=(qM.1 h1).1;rw[h1] at E1 hd;rw[if_pos rfl] at hd;repeat' first|apply jb<;>intro _|simp(disch:=try exact dzG) only[E1,r11,δ,ε]
  unfold mdE at EC;refine jV m.moves.length (λk L s=>(∃ hi v ls,zV m.vars sv (m.moves.take k) []=ls/\LL 1 hi s v ls/\hi<=s.nx/\Has L 5 v)/\Cl s 0 (mdE m)/\Has L 1 (.lst sv.length (sv.map (.int .i64)))/\Has L 2 (.ptr 0 0)/\Has L 18 (.lst m.moves.length (fl moE m.moves))) ?_ (λk L s hk hI hi hn=>?_) (λL s hI=>?_)
  .refine⟨⟨2,_,[],rfl,L0,by(first|omega|(simp only[jg,jn,jt,jp,jo];first|done|omega)),?_⟩,by(try exact cyG),?_,?_,?_⟩<;>exact hsX
  .obtain⟨⟨h,v,ls,a1,LS,hn1,i5⟩,C0,i1,i2,i18⟩:=hI;have n0:=C0.lt;have EC:=EC _ (ω hk);have dcn:=jmw M.vars (M.moves _ (ω hk)) h1;have hS:=jfe hk a1;have hll:ls.length<=1000000:=by
    have:=@UB m.vars sv (m.moves.take k) [];rw[a1,Qal] at this;simp at this;omega
   have hlx:∀ x∈ls,x.length=m.vars.length:=λx hx=>by
    rw[<-a1] at hx;rcases uS hx with h|⟨w,_,e⟩
    .cases h
    .exact(qM.1 (vE e)).1
   have K1:=M.moves _ (ω hk);generalize hmv:m.moves[k]=mv at *;have hal:=K1.len;obtain⟨u,hu⟩:∃ u,u=wr (nw s [.int .i64 0,.int .i64 0,.str [],AV.nils,AV.int IntKind.i64 0,AV.int IntKind.i64 0,AV.nils]) s.nx 0 (moE mv):=⟨_,rfl⟩;have un:u.nx=s.nx+1:=by rw[hu];rfl
   have LU:LL 1 h u v ls:=by rw[hu];exact(LS.keep (ApX.nw s _) (.inl hn1)).keep (ApX.wr _ _ _ _) (.inl hn1)
   have CU0:Cl u 0 (mdE m):=by rw[hu];exact(C0.nw _).wrO om _ _
   have CU7:Cl u s.nx (moE mv):=by rw[hu];exact(Cl.new s _).wr0 (by rw[uU];rfl)
   cases hc:H6 m.vars mv sv with
   |false=>
    rw[hc] at EC;rw[dcn.1,hc,if_neg (λh=>by cases h.1)] at hS
    (have zz:=C0.r;repeat' first|apply jb<;>intro _|simp(disch:=try exact jW) only[ja i1,ja i2,ja i5,ja i18,ja hi,ja hn,hmv,EC,C0.q,C0.r,r11,δ,ε])
    rw[<-hu];refine⟨⟨⟨h,v,ls,hS,LU,om,?_⟩,CU0,?_,?_,?_⟩,?_,?_⟩<;>exact hsX
   |true=>
    rw[hc] at EC;rw[dcn.1,hc,dcn.2 hc] at hS;obtain⟨v',s',e,w,q⟩:=jsK (s:=nw u []) (lo:=u.nx) (hi:=u.nx+1) (bytes:=8) (z:=1) (n:=0) (cs:=[]) (cs2:=sv.map (.int .i64)) (n2:=sv.length) (v:=.slice u.nx 0 0 0 1 true) (Lw.new (s:=u) (z:=1) (μ _) (Qbf _)) (μ _) hac dc om om;obtain⟨b0,ex0,rfl,_,_,C,hb0,hb1⟩:=w;rw[Qam] at C;rw[Qaj] at e;have n1:=q.nx;rw[jg] at n1;have LW:LL 1 h s' v ls:=(LU.keep (ApX.nw u _) (.inl om)).keep (ApX.of q) (.inl om);have CW0:Cl s' 0 (mdE m):=q.cl 0 _ om (CU0.nw _);have CW7:Cl s' s.nx (moE mv):=q.cl _ _ om (CU7.nw _);rw[un] at e;rw[hu] at e
    (have zz:=aI C0.r @CW7.r;repeat' first|apply jb<;>intro _|simp(disch:=try exact jW) only[ja i1,ja i2,ja i5,ja i18,ja hi,ja hn,hmv,EC,e,C0.q,CW7.q,C0.r,CW7.r,r11,δ,ε])
    refine jV mv.acts.length (λk2 L s2=>(∃ out b ex,Jk sv (mv.acts.take k2) sv=out/\out.length=sv.length/\Cl s2 b (out.map (.int .i64))/\u.nx<=b/\Has L 8 (.slice b 0 out.length out.length 1 ex))/\u.nx<=s2.nx/\LL 1 h s2 v ls/\Cl s2 0 (mdE m)/\Has L 1 (.lst sv.length (sv.map (.int .i64)))/\Has L 2 (.ptr 0 0)/\Has L 5 v/\Has L 18 (.lst m.moves.length (fl moE m.moves))/\Has L 20 (.int .i64 (k:Int))/\Has L 19 (.int .i64 (m.moves.length:Int))/\Has L 32 (.lst mv.acts.length (fl seE mv.acts))) ?_ (λky Ly sy hky hIy hiy hny=>?_) (λLy sy hIy=>?_)
    .refine⟨⟨sv,b0,ex0,rfl,rfl,C,hb0,?_⟩,om,LW,CW0,?_,?_,?_,?_,?_,?_,?_⟩;all_goals exact hsX
    .obtain⟨⟨out,b,ex,o1,o2,C2,hb2,j8⟩,m2,LY,CY0,j1,j2,j5,j18,j20,j19,j32⟩:=hIy;have ka:=K1.acts _ (ω hky);have E18:=KN hb sv om mv.acts[ky].to ka.2.2.sz (by rw[hl];exact ka.2.2.numb);unfold svV at E18;have hS2:=jov hky o1;have CA:Cl (wr (nw sy [.int .i64 0,.int .i64 0,.int .i64 0,.str [],AV.nils,AV.int IntKind.i64 0,AV.int IntKind.i64 0]) sy.nx 0 (seE mv.acts[ky])) sy.nx (seE mv.acts[ky]):=(Cl.new sy _).wr0 (by rw[YD];rfl);have sm:=sq3 (h:=(wr (nw sy [.int .i64 0,.int .i64 0,.int .i64 0,.str [],AV.nils,AV.int IntKind.i64 0,AV.int IntKind.i64 0]) sy.nx 0 (seE mv.acts[ky])).h) (b:=sy.nx) (o:=0) (v:=.int .i64 mv.acts[ky].var) (by rw[CA.len,YD];decide) ((CA.cell 0 (by rw[YD];decide)).trans rfl) rfl;have hbn:=C2.lt;have hlen:qp sy.h b=out.length:=by rw[C2.len,Qad]
     have gv0:=ka.1;have gv1:mv.acts[ky].var<(out.length:Int):=om
     have hz:mv.acts[ky].var.toNat+1<=out.length:=om
     have LY2:LL 1 h (wr (wr (nw sy [.int .i64 0,.int .i64 0,.int .i64 0,.str [],AV.nils,AV.int IntKind.i64 0,AV.int IntKind.i64 0]) sy.nx 0 (seE mv.acts[ky])) b mv.acts[ky].var.toNat [AV.int IntKind.i64 (zQ sv mv.acts[ky].to)]) v ls:=((LY.keep (ApX.nw sy _) (.inl om)).keep (ApX.wr _ _ _ _) (.inl om)).keep (ApX.wr _ _ _ _) (.inl om);generalize zQ sv mv.acts[ky].to=n at E18 hS2 LY2;repeat' first|apply jb<;>intro _|simp(disch:=try exact dzG) only[ja j1,ja j8,ja j32,ja hiy,ja hny,Uv,E18,sm,r11,δ,ε]
     have hC2:Cl (wr (wr (nw sy [.int .i64 0,.int .i64 0,.int .i64 0,.str [],AV.nils,AV.int IntKind.i64 0,AV.int IntKind.i64 0]) sy.nx 0 (seE mv.acts[ky])) b mv.acts[ky].var.toNat [AV.int IntKind.i64 n]) b ((out.set mv.acts[ky].var.toNat n).map (.int .i64)):=by
      rw[<-Hf _ _ _ om];exact((C2.nw _).wrO om _ _).wr _ _
     refine⟨⟨⟨_,b,ex,hS2,by rw[Qbx];exact o2,hC2,hb2,?_⟩,om,LY2,((CY0.nw _).wrO om _ _).wrO om _ _,?_,?_,?_,?_,?_,?_,?_⟩,?_,?_⟩;all_goals first
      |(simp(disch:=decide) only[jm,ju,Qbx];done)
      |(simp(disch:=decide) only[jm,Qbx];assumption)
    .obtain⟨⟨out,b,ex,o1,o2,C2,hb2,j8⟩,m2,LY,CY0,j1,j2,j5,j18,j20,j19,j32⟩:=hIy;rw[Qab] at o1;rw[o1] at hS;have E32:=λK Kp=>(jfW hb ls (by unfold BIG;omega) out om (λx hx=>by rw[hlx x hx];omega)).xb (aZ':=[v,.slice b 0 out.length out.length 1 ex]) (st:=sy) (qK LY.lend (qK (VH C2 hac (zM _)) zO)) (λst=>hb.no 32 dc _ _) K Kp;by_cases hin:out∈ls
     .rw[if_neg (λh=>h.2 hin)] at hS;rw[decide_eq_true hin] at E32;repeat' first|apply jb<;>intro _|simp(disch:=try exact dzG) only[ja j1,ja j2,ja j5,ja j8,ja j18,E32,JH,r11,δ,ε]
      refine⟨⟨⟨h,v,ls,hS,LY,om,?_⟩,CY0,?_,?_,?_⟩,?_,?_⟩<;>exact hsX
     .rw[if_pos ⟨rfl,hin⟩] at hS;rw[decide_eq_false hin] at E32;obtain⟨v2,s2,e2,LN,AN⟩:=(LY.keep (ApX.nw sy [.slice b 0 out.length out.length 1 ex]) (.inl om)).app (bytes:=24) (xc:=1) (xx:=true) (Cl.new sy [.slice b 0 out.length out.length 1 ex]) (.inr ⟨b,ex,rfl,C2.nw _,om,om⟩) (by rw[jg];omega) (by rw[jg];omega) om om;repeat' first|apply jb<;>intro _|simp(disch:=try exact dzG) only[ja j1,ja j2,ja j5,ja j8,ja j18,E32,JH,e2,r11,δ,ε]
      refine⟨⟨⟨s2.nx,v2,_,hS,LN,μ _,?_⟩,AN.cl 0 _ (.inl dc) (CY0.nw _),?_,?_,?_⟩,?_,?_⟩;all_goals exact hsX
  .obtain⟨⟨h,v,ls,a1,LS,hn1,i5⟩,C0,i1,i2,i18⟩:=hI;rw[Qab] at a1;rw[a1] at hd;have eL:=λ(st:St) (K:AV->St->Prop)=>LS.lenV (K:=K) st;by_cases h0:ls.length=0
   .have h0':(ls.length:Int)=0:=om
    rw[if_pos h0] at hd;have e0:ls=[]:=Qbs.1 h0;subst e0;have n0:=C0.lt;obtain⟨v2,s2,e2,LN,AN⟩:=(LS.keep (ApX.nw s [.lst sv.length (sv.map (.int .i64))]) (.inl hn1)).app (l:=sv) (bytes:=24) (xc:=1) (xx:=true) (Cl.new s [.lst sv.length (sv.map (.int .i64))]) (.inl rfl) (by rw[jg];omega) (by rw[jg];omega) dc dc;repeat' first|apply jb<;>intro _|simp(disch:=try exact dzG) only[ja i1,ja i2,ja i5,eL,h0',e2,r11,δ,ε]
    rw[hd];exact LN.fzd (d:=6) (Qaa _)
   .have h0':¬ (ls.length:Int)=0:=om
    rw[if_neg h0] at hd;repeat' first|apply jb<;>intro _|simp(disch:=try exact dzG) only[ja i1,ja i2,ja i5,eL,h0',r11,δ,ε]
    rw[hd];exact LS.fzd (d:=6) (Qaa _)
variable {base:Bs}
variable {m:ModT}{α:Type}{enums:List EnumT}
def LF (lo hi:Nat)(s:St)(v:AV)(ls:List SvT):Prop:=(ls=[]/\∃ b,v=.slice b 0 0 0 1 true/\Cl s b []/\lo<=b/\b<hi)\/∃ b,v=.slice b 0 ls.length ls.length 1 false/\ls≠[]/\Cl s b (fl svE ls)/\lo<=b/\b<hi
theorem jnS:∀ ls:List SvT,fl svE ls=ls.map svV
 |[]=>rfl
 |l :: ls=>by
  have:=jnS ls;rw[Xh,this];rfl
theorem ji9 {s:St}{lo hi b:Nat}:∀ ls:List SvT,InL s lo hi b (fl svE ls) ls
 |[]=>trivial
 |l :: ls=>⟨.inl rfl,ji9 ls⟩
section
variable {lo hi:Nat} {s s':St} {v:AV} {ls:List SvT}
theorem LF.ll (h:LF lo hi s v ls):LL lo hi s v ls:=by
 rcases h with ⟨e,b,rfl,C,h1,h2⟩|⟨b,rfl,hn,C,h1,h2⟩
 .exact .inl ⟨e,.inr ⟨b,rfl,C,h1,h2⟩⟩
 .exact .inr ⟨b,_,false,rfl,hn,C,h1,h2,ji9 ls⟩
theorem LF.keep (h:LF lo hi s v ls){lo2 hi2:Nat}(a:ApX lo2 hi2 s s')(hh:hi<=lo2\/hi2<=lo):LF lo hi s' v ls:=by
 rcases h with ⟨e,b,rfl,C,h1,h2⟩|⟨b,rfl,hn,C,h1,h2⟩
 .exact .inl ⟨e,b,rfl,a.cl _ _ om C,h1,h2⟩
 .exact .inr ⟨b,rfl,hn,a.cl _ _ om C,h1,h2⟩
theorem LF.row (h:LF lo hi s v ls){k:Nat}(hk:k<ls.length):∃ b,v=.slice b 0 ls.length ls.length 1 false/\qp s.h b=ls.length/\rat s.h b k=svV ls[k]:=by
 rcases h with ⟨rfl,_⟩|⟨b,rfl,hn,C,h1,h2⟩
 .exact absurd hk (Qas _)
 .have hl:=zH w8 ls;refine⟨b,rfl,by rw[C.len,hl,QaG],?_⟩;rw[C.cell k (by rw[hl];omega),show fl svE ls=ls.map svV from jnS ls];simp[hk]
theorem LF.app {bytes bv xc:Nat}{xx:Bool}{l:SvT}(h:LF lo hi s v ls)(C:Cl s bv [svV l])(hl:lo<=s.nx)(hhi:hi<=s.nx)(hby:(ls.length+1) * bytes<=140737488355328)(h63:ls.length+1<=9223372036854775807) :
  ∃ v' s',(∀ K:AV->St->Prop,jq (zJ 1 bytes v (.slice bv 0 1 xc 1 xx) s) K=K v' s')/\LF lo s'.nx s' v' (ls ++ [l])/\ApX lo hi s s':=by
 have hr:rats s.h bv 0 1=[svV l]:=by have:=C.ratsP 1 0 hac;simpa using this
 have hv1:1<=qp s.h bv:=by rw[C.len];exact μ 1
 rcases h with ⟨rfl,b,rfl,D,h1,h2⟩|⟨b,rfl,hn,D,h1,h2⟩
 .exact⟨_,_,λK=>jei (cs:=[]) D rfl dc hby h63 hv1 hr,.inr ⟨s.nx,rfl,by simp,Cl.new s _,hl,Qbf _⟩,⟨Nat.le_succ _,rfl,λc hc h=>q8 om⟩⟩
 .have e1:=zH w8 ls;have V:Lv lo hi s (.slice b 0 ls.length ls.length 1 false) ls.length (fl svE ls) 1:=.inr ⟨b,rfl,Qbv.2 hn,by rw[e1],D,h1,h2⟩;refine⟨_,_,λK=>JK V dc hby h63 hv1,.inr ⟨s.nx,by rw[ν];rfl,by simp,?_,hl,by rw[jp];omega⟩,⟨by rw[jp];omega,Yw _ _ _,λc hc h=>WX om om⟩⟩;rw[hr,QH];exact D.ap [svV l]
end
theorem jvi {s:St}{v1 v2 u1 u2:AV}{m:Nat}(h1:FzD m 9 s v1 u1)(h2:FzD m 9 s v2 u2):∃ ks,Fza s [v1,v2] [u1,u2] ks:=by
 obtain⟨k1,e1,_⟩:=h1;obtain⟨k2,e2,_⟩:=h2;refine⟨k1 ++ k2,?_⟩;unfold Fza;simp only[fzs,e1,e2];simp
def Js (m:ModT):List SvT:=JX (yw m) 301 0 ((yI m.vars).filter (zf m))
theorem jdD {p:α->Bool}{l:List α}{k:Nat}(hk:k<l.length):(l.take (k+1)).filter p=if p l[k]=true then(l.take k).filter p ++ [l[k]] else(l.take k).filter p:=by
 rw[yt hk,List.filter_append];cases h:p l[k]<;>simp[h]
theorem jbd  [DecidableEq α] {t:α}{ts out:List α}:QP (t :: ts) out=if t∈out then QP ts out else QP ts (out ++ [t]):=by
 show QP ts (if t∈out then out else out ++ [t])=_;split<;>rfl
theorem jkb (hb:NB base)(m:ModT)(M:ModK m)(V:∀ v∈m.vars,-100000000<=v.lo/\v.lo<=100000000/\-100000000<=v.hi/\v.hi<=100000000)(hm:m.vars.length<=1000000)(S:SB m.vars)(hc:JB m.vars<=300):Tot base 22 [.agg (mdE m)] (.lst (Js m).length (fl svE (Js m))):=by
 obtain⟨R,hR⟩:∃ R,R=Js m:=⟨_,rfl⟩;rw[<-hR];have hR:JX (yw m) 301 0 ((yI m.vars).filter (zf m))=R:=hR.symm;have E19:=jfY hb m V hm S hc;have E20:=λx (hx:x∈yI m.vars)=>G7 hb m hm x (by rw[ku hx];omega);have hgd:∀ x∈(yI m.vars).filter (zf m),qa m.vars x=true:=λx hx=>WQ.1 (List.mem_filter.1 hx).1;have hnd:((yI m.vars).filter (zf m)).Nodup:=(G4 _).filter _;have hal:=Xj m.vars;have hml:=M.len;refine hb.tot ?_ (by simp[pa,pc,Ju]) rfl;have f1:(nw st0 (mdE m)).nx=1:=rfl;have C0:Cl (nw (nw st0 (mdE m)) []) 0 (mdE m):=(Cl.new st0 (mdE m)).nw _;have C1:Cl (nw (nw st0 (mdE m)) []) 1 []:=f1▸Cl.new (nw st0 (mdE m)) [];have L0:LF 1 2 (nw (nw st0 (mdE m)) []) (.slice 1 0 0 0 1 true) []:=.inl ⟨rfl,1,rfl,C1,μ _,Qbf _⟩;generalize hA:yI m.vars=A at *;refine jE juf haa (hb.pur 22 1 dc) ?_;simp only[jpO,jr,ζ,η,θ,κ];rw[(by unfold jkv;simp only[qq];rfl:jkv=_)];repeat' first|apply jb<;>intro _|simp(disch:=try exact dzG) only[E19,r11,δ,ε]
 refine jV A.length (λk L s=>(∃ hi v,LF 1 hi s v ((A.take k).filter (zf m))/\hi<=s.nx/\Has L 3 v)/\1<=s.nx/\Cl s 0 (mdE m)/\Has L 1 (.ptr 0 0)/\Has L 11 (.lst A.length (fl svE A))) ?_ (λk L s hk hI hi hn=>?_) (λL s hI=>?_)
 .refine⟨⟨2,_,L0,by(first|omega|(simp only[jg,jn,jt,jp,jo];first|done|omega)),?_⟩,by(first|omega|(simp only[jg,jn,jt,jp,jo];first|done|omega)),C0,?_,?_⟩<;>exact hsX
 .obtain⟨⟨h,v,LS,hn1,i3⟩,n1,CS,i1,i11⟩:=hI;have E:=E20 _ (ω hk);have eT:=λ(st:St) (K:AV->St->Prop)=>uI (st:=st) (K:=K) hk;have hfl:((A.take k).filter (zf m)).length<=300:=ψ (List.length_filter_le _ _) (by rw[Qal];omega);rw[jdD hk];generalize A[k]=t at *;have tp:(svV t).plain=true:=rfl;have tcl:(svV t).cells.length=1:=rfl;have tc:(svV t).cells=[svV t]:=rfl;have tl:lall AV.cell [svV t]=true:=rfl;have tl':lall AV.cell (svV t).cells=true:=rfl;unfold mdE at E;cases hs:zf m t with
  |false=>
   rw[hs] at E;rw[if_neg dc]
   (have zz:=@CS.r;repeat' first|apply jb<;>intro _|simp(disch:=try exact jW) only[ja i3,ja i1,ja i11,ja hi,ja hn,eT,E,CS.q,CS.r,r11,δ,ε])
   refine⟨⟨⟨h,v,LS,hn1,?_⟩,n1,CS,?_,?_⟩,?_,?_⟩<;>exact hsX
  |true=>
   rw[hs] at E;rw[if_pos rfl];have n0:(nw s [svV t]).nx=s.nx+1:=rfl;obtain⟨v6,s6,e6,L6,A6⟩:=(LS.keep (ApX.nw s [svV t]) (.inl hn1)).app (bytes:=24) (xc:=1) (xx:=true) (Cl.new s [svV t]) om om om om;have n6:=A6.nx
   (have zz:=@CS.r;repeat' first|apply jb<;>intro _|simp(disch:=try exact jW) only[ja i3,ja i1,ja i11,ja hi,ja hn,eT,E,tc,e6,CS.q,CS.r,r11,δ,ε])
   refine⟨⟨⟨s6.nx,v6,L6,μ _,?_⟩,om,A6.cl 0 _ (.inl om) (CS.nw _),?_,?_⟩,?_,?_⟩;all_goals exact hsX
 .obtain⟨⟨h0,v0,LS,hn1,i3⟩,n1,CS,i1,i11⟩:=hI;rw[Qab] at LS;repeat' first|apply jb<;>intro _|simp(disch:=try exact dzG) only[ja i3,ja i1,r11,δ,ε]
  refine yA (λmm L s=>∃ (i:Nat) (out:List SvT) (h:Nat) (w:AV),mm+i=301/\i<=out.length/\out.Nodup/\JX (yw m) mm i out=R/\(∀ x∈out,qa m.vars x=true)/\LF 1 h s w out/\h<=s.nx/\1<=s.nx/\Cl s 0 (mdE m)/\Has L 3 w/\Has L 1 (.ptr 0 0)/\Has L 6 (.int .i64 (i:Int))) ?_ 301 ?_
  .rintro mm L s ⟨i,out,h,w,q1,q2,q3,q4,q5,LW,hh,n5,CW,z3,z1,z6⟩;unfold WB;have q6:out.length<=300:=ψ (Qa _ q3 q5) hc;obtain⟨n,rfl⟩:∃ n,mm=n+1:=⟨mm - 1,om⟩;have eL:=λ(st:St) (K:AV->St->Prop)=>LW.ll.lenV (K:=K) st;by_cases hlt:i<out.length
   .obtain⟨b,rfl,hlen,gx⟩:=LW.row hlt;rw[JX,Qaf hlt] at q4;dsimp only at q4;have hr:=q5 _ (ω hlt);have hnx:∀ t∈yw m out[i],qa m.vars t=true:=λt ht=>Vy hr ht;have E28:=jmR hb m M hm out[i] (by rw[(Q0 V hr).1];omega);have hts:(yw m out[i]).length<=1000001:=ψ jaB om;generalize out[i]=si at *;generalize yw m si=ts at *;obtain⟨A2,ha⟩:∃ A2,A2=QP ts out:=⟨_,rfl⟩;rw[<-ha] at q4;unfold mdE at E28;have hin:i<out.length:=hlt
    (have zz:=@CW.r;repeat' first|apply jb<;>intro _|simp(disch:=try exact jW) only[ja z3,ja z1,ja z6,gx,hlen,hlt,eL,E28,CW.q,CW.r,r11,δ,ε])
    refine jV ts.length (λk2 L s=>(∃ out2 h2 w2,QP (ts.drop k2) out2=A2/\i<out2.length/\out2.Nodup/\(∀ x∈out2,qa m.vars x=true)/\LF 1 h2 s w2 out2/\h2<=s.nx/\Has L 3 w2)/\1<=s.nx/\Cl s 0 (mdE m)/\Has L 36 (.lst ts.length (fl svE ts))/\Has L 1 (.ptr 0 0)/\Has L 6 (.int .i64 (i:Int))) ?_ (λky Ly sy hky hIy hiy hny=>?_) (λLy sy hIy=>?_)
    .refine⟨⟨out,h,_,ha.symm,hin,q3,q5,LW,hh,?_⟩,n5,CW,?_,?_,?_⟩;all_goals exact hsX
    .obtain⟨⟨out2,h2,w2,a1,a2,a3,a4,LY,hh2,j3⟩,n7,CY,j36,j1,j6⟩:=hIy;have hrt:=hnx _ (ω hky);have a9:out2.length<=300:=ψ (Qa _ a3 a4) hc;rw[QbW hky,jbd] at a1;have eT:=λ(st:St) (K:AV->St->Prop)=>uI (st:=st) (K:=K) hky;generalize ts[ky]=t at *;have E32:=λK Kp=>(jfW hb out2 (by unfold BIG;omega) t (by rw[(Q0 V hrt).1];omega) (λx hx=>by rw[(Q0 V (a4 x hx)).1];omega)).xb (st:=sy) (aZ':=[w2,svV t]) (qK LY.ll.lend (qK (show V1 0 sy (svV t) t from .inl rfl).lend zO)) (λst=>hb.no 32 dc _ _) K Kp;have tp:(svV t).plain=true:=rfl;have tcl:(svV t).cells.length=1:=rfl;have tc:(svV t).cells=[svV t]:=rfl;have tl:lall AV.cell [svV t]=true:=rfl;have tl':lall AV.cell (svV t).cells=true:=rfl;by_cases ht:t∈out2
     .rw[if_pos ht] at a1;rw[decide_eq_true ht] at E32;repeat' first|apply jb<;>intro _|simp(disch:=try exact dzG) only[ja j3,ja j1,ja j6,ja j36,ja hiy,ja hny,eT,E32,JH,r11,δ,ε]
      refine⟨⟨⟨out2,h2,w2,a1,a2,a3,a4,LY,hh2,?_⟩,n7,CY,?_,?_,?_⟩,?_,?_⟩<;>exact hsX
     .rw[if_neg ht] at a1;rw[decide_eq_false ht] at E32;have n0:(nw sy [svV t]).nx=sy.nx+1:=rfl;obtain⟨w6,s6,e6,L6,A6⟩:=(LY.keep (ApX.nw sy [svV t]) (.inl hh2)).app (bytes:=24) (xc:=1) (xx:=true) (Cl.new sy [svV t]) om om om om;have n6:=A6.nx;repeat' first|apply jb<;>intro _|simp(disch:=try exact dzG) only[ja j3,ja j1,ja j6,ja j36,ja hiy,ja hny,eT,E32,JH,tc,e6,r11,δ,ε]
      refine⟨⟨⟨out2 ++ [t],s6.nx,w6,a1,by rw[ν];omega,by rw[QbJ];exact⟨a3,by simp,λa ha b hb e=>ht (by rw[Qaz] at hb;rw[<-hb,<-e];exact ha)⟩,λx hx=>?_,L6,μ _,?_⟩,om,A6.cl 0 _ (.inl om) (CY.nw _),?_,?_,?_⟩,?_,?_⟩
      .rcases Qar.1 hx with h|h
       .exact a4 x h
       .rw[Qaz.1 h];exact hrt
      all_goals exact hsX
    .obtain⟨⟨out2,h2,w2,a1,a2,a3,a4,LY,hh2,j3⟩,n7,CY,j36,j1,j6⟩:=hIy;rw[Qbw] at a1;have a9:out2.length<=300:=ψ (Qa _ a3 a4) hc;rw[<-a1] at q4;have eW:wq ((i:Int)+1)=((i+1:Nat):Int):=kD _ om om;repeat' first|apply jb<;>intro _|simp(disch:=try exact dzG) only[ja j3,ja j1,ja j6,Vd,eW,r11,δ,ε]
     refine⟨n,om,i+1,out2,h2,w2,om,om,a3,q4,a4,LY,hh2,n7,CY,?_,?_,?_⟩;all_goals exact hsX
   .have hio:i=out.length:=om
    rw[JX,List.getElem?_eq_none om] at q4;rw[<-q4];repeat' first|apply jb<;>intro _|simp(disch:=try exact dzG) only[ja z3,ja z1,ja z6,eL,hlt,r11,δ,ε]
    exact LW.ll.fzd (d:=6) (Qaa _)
  .refine⟨0,_,h0,_,rfl,Qaa _,hnd,hR,hgd,LS,hn1,n1,CS,?_,?_,?_⟩;all_goals first
    |(show Has _ 6 (.int .i64 0);simp(disch:=decide) only[ju];done)
    |(simp(disch:=decide) only[jm,ju];done)
    |(simp(disch:=decide) only[jm];assumption)
theorem GH {p:α->Bool}{a:α}:∀ {l:List α},l.Nodup->a∈l->(∀ x∈l,p x=true↔x=a)->l.filter p=[a]
 |x :: l,hn,hm,h=>by
  rw[List.nodup_cons] at hn;by_cases e:x=a
  .subst e;rw[List.filter_cons_of_pos ((h x hac).2 rfl),List.filter_eq_nil_iff.2 λy hy hp=>?_];exact hn.1 (((h y (by simp[hy])).1 hp)▸hy)
  .rw[List.filter_cons_of_neg λhp=>e ((h x hac).1 hp)];rcases QaJ.1 hm with rfl|hm
   .exact absurd rfl e
   .exact GH hn.2 hm λy hy=>h y (by simp[hy])
theorem Ku {β:Type}{p:α->Bool}{f g:α->List β}:∀ {l:List α},(∀ x∈l,g x=if p x=true then f x else [])->l.flatMap g=(l.filter p).flatMap f
 |[],_=>rfl
 |x :: l,h=>by
  have ih:=Ku (l:=l) λy hy=>h y (by simp[hy]);rw[QaZ,ih,h x hac];cases hp:p x<;>simp[hp]
theorem jlD (v:VarT)(s:SvT):(yp v s).Nodup:=by
 unfold yp;rw[List.nodup_iff_pairwise_ne,List.pairwise_map];refine List.Pairwise.imp ?_ List.nodup_range;intro i j hij e;have:=(List.append_inj' e rfl).2;simp at this;omega
def Beg (vars:List VarT)(x:SvT):Prop:=∀ i (h1:i<vars.length) (h2:i<x.length),vars[i].beg=true->x[i]=vars[i].first
theorem jmD {vs:List VarT}{v:VarT}{x:SvT}{n:Int}(hl:x.length=vs.length):Beg (vs ++ [v]) (x ++ [n])↔Beg vs x/\(v.beg=true->n=v.first):=by
 constructor
 .intro h;refine⟨λi a b hb=>?_,λhb=>?_⟩
  .have:=h i hae hae;rw[Qbk a,Qbk b] at this;exact this hb
  .have:=h vs.length hac hae;rw[Qbl (μ _),Qbl om] at this;simpa using this (by simpa using hb)
 .rintro ⟨h1,h2⟩ i a b hb;by_cases e:i<vs.length
  .rw[Qbk e] at hb;rw[Qbk e,Qbk om];exact h1 i e om hb
  .have hi:i=vs.length:=by simp at a;omega
   subst hi;rw[Qbl (μ _)] at hb;rw[Qbl (μ _),Qbl om];simp only[QbU,hl] at hb ⊢;exact h2 hb
open Classical in
theorem GE:∀ (k:Nat) (vars:List VarT),vars.length=k->Qj vars->∀ p:SvT->Bool,(∀ x∈yI vars,p x=true↔Beg vars x)->(yI vars).filter p=qY vars
 |0,vars,hk,hF,p,hp=>by
  have e:vars=[]:=Qbs.1 hk;subst e;have:p []=true:=(hp [] (by show []∈[[]];simp)).2 λi h=>absurd h (Qas _);show List.filter p [[]]=[[]];simp[this]
 |k+1,vars,hk,hF,p,hp=>by
  have hne:vars≠[]:=λe=>by rw[e] at hk;simp at hk
  obtain⟨vs,v,rfl⟩:∃ vs v,vars=vs ++ [v]:=⟨vars.dropLast,vars.getLast hne,(Qcu hne).symm⟩;rw[ν,Qbb] at hk;have ih:=GE k vs om (λw hw=>hF w (by simp[hw])) (λx=>decide (Beg vs x)) λx _=>by simp
  have hv:=hF v hac;have e1:qY (vs ++ [v])=(qY vs).flatMap (yp (ZB v)):=by
   unfold qY;rw[QaU,ζ,η,wN]
  rw[e1,<-ih,wN,List.filter_flatMap];refine Ku λx hx=>?_;have hl:=ku hx;have hq:∀ n,v.lo<=n->n<=v.hi->(p (x ++ [n])=true↔Beg vs x/\(v.beg=true->n=v.first)):=λn h1 h2=>(hp _ (by rw[wN];exact Qck.2 ⟨x,hx,Qc.2 ⟨n,h1,h2,rfl⟩⟩)).trans (jmD hl);by_cases hB:Beg vs x
  .rw[if_pos (by simpa using hB)];cases hb:v.beg with
   |false=>
    rw[show ZB v=v from if_neg (by rw[hb];decide)];refine List.filter_eq_self.2 λa ha=>?_;obtain⟨n,h1,h2,rfl⟩:=Qc.1 ha;exact(hq n h1 h2).2 ⟨hB,λh=>by rw[hb] at h;cases h⟩
   |true=>
    have hv:=hv hb;have e2:yp (ZB v) x=[x ++ [v.first]]:=by
     rw[show ZB v={ v with lo:=v.first,hi:=v.first } from if_pos hb];unfold yp;dsimp only;rw[show(v.first - v.first+1).toNat=1 by omega];simp[Qce]
    rw[e2];refine GH (jlD v x) (Qc.2 ⟨_,hv.1,hv.2,rfl⟩) λa ha=>?_;obtain⟨n,h1,h2,rfl⟩:=Qc.1 ha;rw[hq n h1 h2];constructor
    .rintro ⟨_,h⟩;rw[h hb]
    .intro h;have:=(List.append_inj' h rfl).2;simp at this;exact⟨hB,λ_=>this⟩
  .rw[if_neg (by simpa using hB)];refine List.filter_eq_nil_iff.2 λa ha h=>?_;obtain⟨n,h1,h2,rfl⟩:=Qc.1 ha;exact hB ((hq n h1 h2).1 h).1
theorem UP (hF:Qj m.vars):(yI m.vars).filter (zf m)=qY m.vars:=
 GE _ m.vars rfl hF _ λx hx=>Zn (WQ.1 hx)
theorem jlP (hF:Qj m.vars)(most:Int):gT m most=if((Js m).length:Int)<=most then some (Js m) else none:=by
 unfold gT Js;rw[UP hF];by_cases hm:((qY m.vars).length:Int)<=most
 .rw[if_pos hm,jcU hm]
 .have:=vi (nx:=yw m) 301 0 (qY m.vars);rw[if_neg hm,if_neg om]
theorem gh {P:SvT->Prop}:∀ {ts out:List SvT},out.Nodup->(∀ x∈out,P x)->(∀ t∈ts,P t)->(QP ts out).Nodup/\∀ x∈QP ts out,P x
 |[],out,h1,h2,_=>⟨h1,h2⟩
 |t :: ts,out,h1,h2,h3=>by
  rw[jbd];have h4:∀ u∈ts,P u:=λu hu=>h3 u (by simp[hu]);split
  .exact gh h1 h2 h4
  .rename_i hn;refine gh ?_ (λx hx=>?_) h4
   .rw[QbJ];exact⟨h1,by simp,λa ha b hb e=>hn (by rw[Qaz] at hb;rw[<-hb,<-e];exact ha)⟩
   .rcases Qar.1 hx with h|h
    .exact h2 x h
    .rw[Qaz.1 h];exact h3 t hac
theorem gS {nx:SvT->List SvT}{P:SvT->Prop}(hP:∀ s,P s->∀ t∈nx s,P t):∀ (n i:Nat) (out:List SvT),out.Nodup->(∀ x∈out,P x)->(JX nx n i out).Nodup/\∀ x∈JX nx n i out,P x
 |0,i,out,h1,h2=>⟨h1,h2⟩
 |n+1,i,out,h1,h2=>by
  rw[JX];cases hi:out[i]? with
  |none=>exact⟨h1,h2⟩
  |some s=>
   obtain⟨h3,h4⟩:=gh (ts:=nx s) h1 h2 (hP s (h2 s (List.mem_of_getElem? hi)));exact gS hP n (i+1) _ h3 h4
theorem jgy (hc:JB m.vars<=300):(Js m).length<=300/\∀ x∈Js m,qa m.vars x=true:=by
 obtain⟨h1,h2⟩:=gS (nx:=yw m) (P:=λx=>qa m.vars x=true) (λs hs t ht=>Vy hs ht) 301 0 ((yI m.vars).filter (zf m)) ((G4 _).filter _) λx hx=>WQ.1 (List.mem_filter.1 hx).1;exact⟨ψ (Qa _ h1 h2) hc,h2⟩
def jmV (v:VarT):Prop:=v.beg=true->v.lo<=v.first/\v.first<=v.hi
theorem jd5 {vars:List VarT}:∀ {xs:List Ex} {v u:VarT},jmV v->Ji vars enums v xs=.ok u->jmV u
 |[],v,u,hv,h=>by rw[Ji] at h;cases h;exact hv
 |x :: xs,v,u,hv,h=>by
  rw[Ji] at h;split at h
  .cases h
  .split at h
   .cases h
   .split at h
    .cases h
    .exact jd5 (by intro _;dsimp only;omega) h
theorem ji5 {d:DeclT}{v:VarT}(h:wt enums d=.ok v):jmV v:=by
 unfold wt at h;split at h
 .cases h;intro h;cases h
 .split at h
  .cases h;intro h;cases h
  .split at h
   .cases h
   .split at h
    .cases h
    .split at h
     .cases h
     .cases h;intro h;cases h
theorem jjQ {ts:Lq}{d:DeclT}{b:MT}(hm:Qj m.vars)(h:Q7 m ts d=.ok b):Qj b.1.vars:=by
 unfold Q7 at h;split at h
 .cases h
 .split at h
  .cases h
  .rename_i v hk;unfold wA at h;split at h
   .cases h
   .rename_i u hu;unfold Ux at h;split at h
    .cases h
    .cases h;intro w hw;rcases Qar.1 hw with hw|hw
     .exact hm w hw
     .simp only[Qaz] at hw;rw[hw];exact jd5 (ji5 hk) hu
theorem jrI {src:SrcT}{m:MT}(h:zj src=.ok m):Qj m.1.vars:=by
 unfold zj at h;split at h
 .cases h
 .rename_i b h1;have hb:Qj b.1.vars:=Jo (n:=0) (P:=λ_ (c:MT)=>Qj c.1.vars) (λk c x c' _ hc hr=>by rw[uv hr];exact hc) (λv hv=>by cases hv) h1;split at h
  .cases h
  .rename_i c h2;have hc:Qj c.1.vars:=Jo (n:=0) (P:=λ_ (c:MT)=>Qj c.1.vars) (λk c x c' _ hc hr=>jjQ hc hr) hb h2;exact Jo (n:=0) (P:=λ_ (c:MT)=>Qj c.1.vars) (λk c x c' _ hc hr=>by rw[(KO hr).1];exact hc) hc h
theorem jiA {l f:Lt}(h:(zp l f).c=0):Qj (zp l f).m.vars:=by
 unfold zp at h ⊢;by_cases h1:(yF l).2.1≠0
 .rw[if_pos h1] at h;exact absurd (show((yF l).2.1:Int)=0 from h) om
 .rw[if_neg h1] at h ⊢;cases hm:zj (yF l).1 with
  |er a b c=>
   rw[hm] at h;exact absurd h (vn hm)
  |ok m=>
   rw[hm] at h;dsimp only at h ⊢;by_cases h2:(yo f).2.1≠0
   .rw[if_pos h2] at h;exact absurd (show((yo f).2.1:Int)=0 from h) om
   .rw[if_neg h2] at h ⊢;cases hr:yD m.1.vars m.1.enums true (yo f).1 2 [] with
    |er a b c=>
     rw[hr] at h;exact absurd h (QW hr)
    |ok y=>exact jrI hm
theorem jiz {src:SrcT}(h:(Qr src).2=true):Qj (Qr src).1.vars:=by
 unfold Qr at h ⊢;cases hs:Qm src with
 |none=>rw[hs] at h;cases h
 |some t=>
  rw[hs] at h;dsimp only at h ⊢;split at h
  .cases h
  .rename_i h5;rw[if_neg h5];simp only[χ,decide_eq_true_eq] at h;exact jiA h.1.1
theorem bNe (a b:Bool)(st:St)(K:AV->St->Prop):jq (XO γ .neq 4 false (.bool a) (.bool b) st) K=K (.bool (a != b)) st:=by
 have h:XO γ .neq 4 false (.bool a) (.bool b) st=.ok (.bool (a != b)) st:=by cases a<;>cases b<;>kernel_rfl
 rw[h];rfl
theorem law4_ok (hb:NB base)(h9:∀ st,base.run 9 [] st=.ok (.bool true) st)(hP:PI base)(hC:CloneP base)(hkp:KeyP base)(src:SrcT)(most:Int)(hm:szS src<=1048576):XB γ base 4 [.agg (srE src),.int .i64 most] st0 (λv _=>v=.bool true) λ_ _=>False:=by
 have E9:=λ(st:St) (K Kp:AV->St->Prop)=>WC (P:=γ) (base:=base) (h9 st) K Kp;have E10:=jrt hb hP src (jqO hm);refine zP xs4 haa (hb.at0 4 dc dc _ _) ?_;simp only[ys4,jr,ζ,η,θ,κ];rw[(by unfold zs4;simp only[qq];rfl:zs4=_)];cases h1:(Qr src).2 with
 |false=>
  rw[h1] at E10;repeat' first|apply jb<;>intro _|simp(disch:=try exact dzG) only[E9,E10,r11,δ,ε]
 |true=>
  have hc:=jiy h1;have hF:=jiz h1;rw[h1] at E10;obtain⟨MK,V⟩:=jcR h1;generalize (Qr src).1=m at E10 MK V hc hF;have B:ModB m:=⟨V.len,by have:=MK.len;omega,λv hv=>⟨(MK.moves v hv).len,(MK.moves v hv).when.sz,λa ha=>((MK.moves v hv).acts a ha).2.2.sz⟩⟩;have hml:=MK.len;have E23:=jps hb hC hkp m B V.ends MK.sb hF hc most;rw[jlP hF] at E23;have E22:=jkb hb m MK V.ends V.len MK.sb hc;have hfu:(qY m.vars).length<=(Js m).length:=by
   unfold Js;rw[UP hF];exact vi _ _ _
  have E19:=jfY hb m V.ends V.len MK.sb hc;have E20:=λx (hx:x∈yI m.vars)=>G7 hb m V.len x (by rw[ku hx];have:=V.len;omega);have hfF:∀ x∈qY m.vars,x.length<=1099511627776:=λx hx=>by rw[(Q0 V.ends (Wt hF hx)).1];have:=V.len;omega
  have hal:=Xj m.vars;have hff:=UP hF;have hF3:(qY m.vars).length<=300:=by rw[<-hff];exact ψ (List.length_filter_le _ _) om
  obtain⟨hUl,hUr⟩:=jgy (m:=m) hc;have hUx:∀ x∈Js m,x.length<=1099511627776:=λx hx=>by rw[(Q0 V.ends (hUr x hx)).1];have:=V.len;omega
  clear hUr;have E24:=jmO hb (Js m) (Js m) (by unfold BIG;omega) (by unfold BIG;omega) hUx hUx;rw[decide_eq_true rfl] at E24;generalize Js m=U at *;obtain⟨w0,hw0⟩:∃ w0,w0=wr (nw (nw st0.bare (srE src)) [AV.nils,AV.nils,AV.nils]) 1 0 (mdE m):=⟨_,rfl⟩;have n0:w0.nx=2:=by rw[hw0];rfl
  have f1:(nw st0.bare (srE src)).nx=1:=rfl;have C0:Cl w0 1 (mdE m):=by rw[hw0];exact(f1▸Cl.new (nw st0.bare (srE src)) [AV.nils,AV.nils,AV.nils]).wr0 rfl
  have CN:Cl (nw w0 []) 1 (mdE m):=C0.nw _;have L0:LF 2 3 (nw w0 []) (.slice 2 0 0 0 1 true) []:=.inl ⟨rfl,2,rfl,n0▸Cl.new w0 [],om,om⟩;have nN:(nw w0 []).nx=3:=by rw[jg,n0]
  rw[hw0] at L0 CN nN;generalize hA:yI m.vars=A at *;repeat' first|apply jb<;>intro _|simp(disch:=try exact dzG) only[E9,E10,E19,r11,δ,ε]
  refine jV A.length (λk L s=>(∃ hi v,LF 2 hi s v ((A.take k).filter (zf m))/\hi<=s.nx/\Has L 7 v)/\2<=s.nx/\Cl s 1 (mdE m)/\Has L 5 (.ptr 1 0)/\Has L 1 (.int .i64 most)/\Has L 26 (.lst A.length (fl svE A))) ?_ (λk L s hk hI hi hn=>?_) (λL s hI=>?_)
  .refine⟨⟨3,_,L0,om,?_⟩,om,CN,?_,?_,?_⟩<;>exact hsX
  .obtain⟨⟨h,v,LS,hn1,i7⟩,n1,CS,i5,i1,i26⟩:=hI;have E:=E20 _ (ω hk);have eT:=λ(st:St) (K:AV->St->Prop)=>uI (st:=st) (K:=K) hk;have hfl:((A.take k).filter (zf m)).length<=300:=ψ (List.length_filter_le _ _) (by rw[Qal];omega);rw[jdD hk];generalize A[k]=t at *;have tp:(svV t).plain=true:=rfl;have tcl:(svV t).cells.length=1:=rfl;have tc:(svV t).cells=[svV t]:=rfl;have tl:lall AV.cell [svV t]=true:=rfl;have tl':lall AV.cell (svV t).cells=true:=rfl;unfold mdE at E;cases hs:zf m t with
   |false=>
    rw[hs] at E;rw[if_neg dc]
    (have zz:=@CS.r;repeat' first|apply jb<;>intro _|simp(disch:=try exact jW) only[ja i7,ja i1,ja i5,ja i26,ja hi,ja hn,eT,E,CS.q,CS.r,r11,δ,ε])
    refine⟨⟨⟨h,v,LS,hn1,?_⟩,n1,CS,?_,?_,?_⟩,?_,?_⟩<;>exact hsX
   |true=>
    rw[hs] at E;rw[if_pos rfl];have n0:(nw s [svV t]).nx=s.nx+1:=rfl;obtain⟨v6,s6,e6,L6,A6⟩:=(LS.keep (ApX.nw s [svV t]) (.inl hn1)).app (bytes:=24) (xc:=1) (xx:=true) (Cl.new s [svV t]) om om om om;have n6:=A6.nx
    (have zz:=@CS.r;repeat' first|apply jb<;>intro _|simp(disch:=try exact jW) only[ja i7,ja i1,ja i5,ja i26,ja hi,ja hn,eT,E,tc,e6,CS.q,CS.r,r11,δ,ε])
    refine⟨⟨⟨s6.nx,v6,L6,μ _,?_⟩,om,A6.cl 1 _ (.inl om) (CS.nw _),?_,?_,?_⟩,?_,?_⟩;all_goals exact hsX
  .obtain⟨⟨h,v,LS,hn1,i7⟩,n1,CS,i5,i1,i26⟩:=hI;rw[Qab,hff] at LS;have eL:=λ(st:St) (K:AV->St->Prop)=>LS.ll.lenV (K:=K) st
   (have zz:=@CS.r;repeat' first|apply jb<;>intro _|simp(disch:=try exact jW) only[ja i7,ja i1,ja i5,CS.q,CS.r,r11,δ,ε])
   refine jfX hb m V.ends V.len MK.sb hF hc most (λa s1 hle LA AA=>?_) (λs1 hgt AA=>?_)
   .have C1:=AA.cl 1 _ CS.lt CS;have LV:=LS.keep (ApX.of AA) (.inl hn1);obtain⟨ks,hks⟩:=jvi (m:=0) (LA.fzd (d:=6) (Qaa _)) (LV.ll.fzd (d:=6) (Qaa _));have EA:=λK Kp=>(jel hb (qY m.vars) (qY m.vars) (by unfold BIG;omega) (by unfold BIG;omega) hfF hfF).xf hks (λst=>hb.no 24 dc _ _) K Kp;rw[decide_eq_true rfl] at EA;have eA:=λ(st:St) (K:AV->St->Prop)=>LA.lenV (K:=K) st;by_cases hu:(U.length:Int)<=most
    .rw[if_pos hu] at E23;unfold Uu at E23;unfold mdE at E22 E23
     (have zz:=C1.r;repeat' first|apply jb<;>intro _|simp(disch:=try exact jW) only[ja i7,ja i1,ja i5,E22,E23,E24,EA,eL,eA,hle,hu,bNe,JH,C1.q,C1.r,r11,δ,ε])
    .rw[if_neg hu] at E23;unfold Uu at E23;unfold mdE at E22 E23
     (have zz:=C1.r;repeat' first|apply jb<;>intro _|simp(disch:=try exact jW) only[ja i7,ja i1,ja i5,E22,E23,E24,EA,eL,eA,hle,hu,bNe,JH,C1.q,C1.r,r11,δ,ε])
   .have C1:=AA.cl 1 _ CS.lt CS;have hu:¬ (U.length:Int)<=most:=om
    have hle:¬ ((qY m.vars).length:Int)<=most:=om
    rw[if_neg hu] at E23;unfold Uu at E23;unfold mdE at E22 E23
    (have zz:=C1.r;repeat' first|apply jb<;>intro _|simp(disch:=try exact jW) only[ja i7,ja i1,ja i5,E22,E23,eL,hle,hu,bNe,C1.q,C1.r,r11,δ,ε])
end Go.Sy
end
noncomputable section
namespace Go.Proofs
open Go.Shelf
def Tryz.laysC174_ren:Go.Shelf.Ren:=⟨λ|174=>117|247=>140|245=>141|287=>159|279=>160|280=>161|281=>162|282=>163|321=>171|322=>172|316=>173|171=>175|205=>174|243=>176|246=>177|283=>135|284=>136|285=>137|286=>138|129=>155|317=>154|318=>156|319=>157|320=>158|337=>169|338=>170|n=>n,λ|9=>9|3=>3|2=>2|75=>191|85=>192|4=>4|167=>227|5=>5|53=>122|175=>228|46=>225|168=>230|37=>125|0=>0|210=>241|21=>21|127=>245|145=>248|143=>246|171=>209|173=>212|212=>222|51=>223|20=>20|213=>224|232=>243|233=>244|80=>250|n=>n,λ|15=>1|16=>2|17=>0|18=>3|19=>4|n=>n⟩
theorem Tryz.laysC174:Go.Proofs.LaysC.n174 γ Tryz.laysC174_ren:={
 mixed:=Qa0
 f129:=Tryz.func155.trans (congrArg some Qa0)
 f171:=Tryz.func175.trans (congrArg some Qa0)
 f174:=Tryz.func117.trans (congrArg some Qa0)
 f205:=Tryz.func174.trans (congrArg some Qa0)
 f243:=Tryz.func176.trans (congrArg some Qa0)
 f245:=Tryz.func141.trans (congrArg some Qa0)
 f246:=Tryz.func177.trans (congrArg some Qa0)
 f247:=Tryz.func140.trans (congrArg some Qa0)
 f279:=Tryz.func160.trans (congrArg some Qa0)
 f280:=Tryz.func161.trans (congrArg some Qa0)
 f281:=Tryz.func162.trans (congrArg some Qa0)
 f282:=Tryz.func163.trans (congrArg some Qa0)
 f283:=Tryz.func135.trans (congrArg some Qa0)
 f284:=Tryz.func136.trans (congrArg some Qa0)
 f285:=Tryz.func137.trans (congrArg some Qa0)
 f286:=Tryz.func138.trans (congrArg some Qa0)
 f287:=Tryz.func159.trans (congrArg some Qa0)
 f316:=Tryz.func173.trans (congrArg some Qa0)
 f317:=Tryz.func154.trans (congrArg some Qa0)
 f318:=Tryz.func156.trans (congrArg some Qa0)
 f319:=Tryz.func157.trans (congrArg some Qa0)
 f320:=Tryz.func158.trans (congrArg some Qa0)
 f321:=Tryz.func171.trans (congrArg some Qa0)
 f322:=Tryz.func172.trans (congrArg some Qa0)
 f337:=Tryz.func169.trans (congrArg some Qa0)
 f338:=Tryz.func170.trans (congrArg some Qa0)
 t0:=Tryz.underlying0
 a0:=Tryz.isAgg0
 z0:=Tryz.sizeOf0
 v0:=Tryz.zeroValue0
 t2:=Tryz.underlying2
 a2:=Tryz.isAgg2
 z2:=Tryz.sizeOf2
 v2:=Tryz.zeroValue2
 t3:=Tryz.underlying3
 a3:=Tryz.isAgg3
 z3:=Tryz.sizeOf3
 v3:=Tryz.zeroValue3
 t4:=Tryz.underlying4
 a4:=Tryz.isAgg4
 z4:=Tryz.sizeOf4
 v4:=Tryz.zeroValue4
 t5:=Tryz.underlying5
 a5:=Tryz.isAgg5
 z5:=Tryz.sizeOf5
 v5:=Tryz.zeroValue5
 t9:=Tryz.underlying9
 a9:=Tryz.isAgg9
 z9:=Tryz.sizeOf9
 v9:=Tryz.zeroValue9
 t20:=Tryz.underlying20
 a20:=Tryz.isAgg20
 z20:=Tryz.sizeOf20
 v20:=Tryz.zeroValue20
 t21:=Tryz.underlying21
 a21:=Tryz.isAgg21
 z21:=Tryz.sizeOf21
 v21:=Tryz.zeroValue21
 t37:=Tryz.underlying125
 a37:=Tryz.isAgg125
 z37:=Tryz.sizeOf125
 v37:=Tryz.zeroValue125
 t46:=Tryz.underlying225
 a46:=Tryz.isAgg225
 z46:=Tryz.sizeOf225
 v46:=Tryz.zeroValue225
 t51:=Tryz.underlying223
 a51:=Tryz.isAgg223
 z51:=Tryz.sizeOf223
 v51:=Tryz.zeroValue223
 t53:=Tryz.underlying122
 a53:=Tryz.isAgg122
 z53:=Tryz.sizeOf122
 v53:=Tryz.zeroValue122
 t75:=Tryz.underlying191
 a75:=Tryz.isAgg191
 z75:=Tryz.sizeOf191
 v75:=Tryz.zeroValue191
 t85:=Tryz.underlying192
 a85:=Tryz.isAgg192
 z85:=Tryz.sizeOf192
 v85:=Tryz.zeroValue192
 t127:=Tryz.underlying245
 a127:=Tryz.isAgg245
 z127:=Tryz.sizeOf245
 v127:=Tryz.zeroValue245
 t143:=Tryz.underlying246
 a143:=Tryz.isAgg246
 z143:=Tryz.sizeOf246
 v143:=Tryz.zeroValue246
 t145:=Tryz.underlying248
 a145:=Tryz.isAgg248
 z145:=Tryz.sizeOf248
 v145:=Tryz.zeroValue248
 t167:=Tryz.underlying227
 a167:=Tryz.isAgg227
 z167:=Tryz.sizeOf227
 v167:=Tryz.zeroValue227
 t168:=Tryz.underlying230
 a168:=Tryz.isAgg230
 z168:=Tryz.sizeOf230
 v168:=Tryz.zeroValue230
 t171:=Tryz.underlying209
 a171:=Tryz.isAgg209
 z171:=Tryz.sizeOf209
 v171:=Tryz.zeroValue209
 t173:=Tryz.underlying212
 a173:=Tryz.isAgg212
 z173:=Tryz.sizeOf212
 v173:=Tryz.zeroValue212
 t175:=Tryz.underlying228
 a175:=Tryz.isAgg228
 z175:=Tryz.sizeOf228
 v175:=Tryz.zeroValue228
 t210:=Tryz.underlying241
 a210:=Tryz.isAgg241
 z210:=Tryz.sizeOf241
 v210:=Tryz.zeroValue241
 t212:=Tryz.underlying222
 a212:=Tryz.isAgg222
 z212:=Tryz.sizeOf222
 v212:=Tryz.zeroValue222
 t213:=Tryz.underlying224
 a213:=Tryz.isAgg224
 z213:=Tryz.sizeOf224
 t232:=Tryz.underlying243
 a232:=Tryz.isAgg243
 z232:=Tryz.sizeOf243
 v232:=Tryz.zeroValue243
 t233:=Tryz.underlying244
 a233:=Tryz.isAgg244
 z233:=Tryz.sizeOf244
 v233:=Tryz.zeroValue244
 g15:=Qa0
 g16:=Qa0
 g17:=Qa0
 g18:=Qa0
 g19:=Qa0
 t80:=Tryz.underlying250
 a80:=Tryz.isAgg250
 z80:=Tryz.sizeOf250
 v80:=Tryz.zeroValue250
 i0:=Qa0
 i2:=Qa0
 i3:=Qa0
 i4:=Qa0
 i5:=Qa0
 i9:=Qa0
 i20:=Qa0
 i21:=Qa0
 i37:=Qa0
 i46:=Qa0
 i51:=Qa0
 i53:=Qa0
 i75:=Qa0
 i80:=Qa0
 i85:=Qa0
 i127:=Qa0
 i143:=Qa0
 i145:=Qa0
 i167:=Qa0
 i168:=Qa0
 i171:=Qa0
 i173:=Qa0
 i175:=Qa0
 i210:=Qa0
 i212:=Qa0
 i232:=Qa0
 i233:=Qa0
 m15:=Qa0
 m16:=Qa0
 m17:=Qa0
 m18:=Qa0
 m19:=Qa0
 c0:=Qa0
 c2:=Qa0
 c3:=Qa0
 c4:=Qa0
 c5:=Qa0
 c9:=Qa0
 c20:=Qa0
 c21:=Qa0
 c37:=Qa0
 c46:=Qa0
 c51:=Qa0
 c53:=Qa0
 c75:=Qa0
 c80:=Qa0
 c85:=Qa0
 c127:=Qa0
 c143:=Qa0
 c145:=Qa0
 c167:=Qa0
 c168:=Qa0
 c171:=Qa0
 c173:=Qa0
 c175:=Qa0
 c210:=Qa0
 c212:=Qa0
 c213:=Qa0
 c232:=Qa0
 c233:=by kernel_rfl }
open Go.RowKit in
theorem Tryz.strconv_ParseInt_10_at64_ok (s:ByteArray)(hmax:s.size<=9223372036854775806)(v:Int)(h:Lib.parseIntB 64 s.data.toList=.ok v)(w:World) :
 Calls γ 117 #[.string s,.int .i64 10,.int .i64 64] w λe w'=>e=.returned (.tuple #[.int .i64 v,.nilIface])/\(w'=w\/∃ t,w'=Lib.bytesWorld w 5 t):=Any.strconv_ParseInt_10_at64_ok Tryz.laysC174 s hmax v h w
open Go.RowKit in
theorem Tryz.strconv_ParseInt_10_at64_range (s:ByteArray)(hlim:s.size<=281474976710656)(h:Lib.parseIntB 64 s.data.toList=.range)(ev:Value)(w:World)(hv:w.cell? ⟨2,0,none⟩=some ev)(hev:ev=.nilIface\/∃ te pe,ev=.iface te pe) :
 Calls γ 117 #[.string s,.int .i64 10,.int .i64 64] w λe w'=>∃ N,e=.returned (.tuple #[.int .i64 (Lib.intSat 64 s.data.toList),.iface 230 (.pointer (some ⟨N,0,none⟩))])/\w.heap.size<=N/\w'.heap[N]? = some (.cells #[.string ⟨#[80,97,114,115,101,73,110,116]⟩,.string s,ev] 241 (0,0))/\Below w.heap.size w w':=Any.strconv_ParseInt_10_at64_range Tryz.laysC174 s hlim h ev w hv hev
end Go.Proofs
end
noncomputable section
namespace Go.Proofs
open Go.Shelf Go.RowKit Go.Lib
theorem Tryz.clone_nil (n c:Nat)(w:World):Calls γ 49 #[.slice none n c] w λe w'=>e=.returned (.slice none 0 0)/\w'=w:=by
 have mixed:Tryz.prog.follows .mixedOrders=true:=Qa0
 have t3:=Tryz.underlying2;have a3:=Tryz.isAgg2;have z3:=Tryz.sizeOf2;have v3:=Tryz.zeroValue2;have t4:=Tryz.underlying4;have a4:=Tryz.isAgg4;have z4:=Tryz.sizeOf4;have v4:=Tryz.zeroValue4;have t22:=Tryz.underlying30;have a22:=Tryz.isAgg30;have z22:=Tryz.sizeOf30;have v22:=Tryz.zeroValue30;have q22:∀ (w:World) (a:Option Addr) (n c n' c':Nat),(binOp .eql 30 (.slice a n c) (.slice none n' c')).run γ w=.ok (.bool a.isNone) w:=λw a n c n' c'=>Lib.run_eql_slice_nil w _ _ a n c n' c' Tryz.underlying30
 go_enter Tryz.func49,Tryz.ntmps49
 go_wp2
 go_ret
 exact⟨rfl,rfl⟩
set_option maxRecDepth 100000 in
theorem Tryz.clone_zero (a:Addr)(c:Nat)(w:World):Calls γ 49 #[.slice (some a) 0 c] w λe w'=>∃ v',e=.returned v'/\w'.ownsRow w.heap.size 2 1 v' 0 []/\Below w.heap.size w w':=by
 have mixed:Tryz.prog.follows .mixedOrders=true:=Qa0
 have t3:=Tryz.underlying2;have a3:=Tryz.isAgg2;have z3:=Tryz.sizeOf2;have v3:=Tryz.zeroValue2;have t4:=Tryz.underlying4;have a4:=Tryz.isAgg4;have z4:=Tryz.sizeOf4;have v4:=Tryz.zeroValue4;have t22:=Tryz.underlying30;have a22:=Tryz.isAgg30;have z22:=Tryz.sizeOf30;have v22:=Tryz.zeroValue30;have i3:(Tryz.prog.info? 2).map (λi=>(i.zero,i.size,i.bytes))=some (some (Value.int IntKind.i64 0),1,8):=Qa0
 obtain⟨i0,hi,hz0,hz1,hz2⟩:=info_parts i3;have q22:∀ (w:World) (a:Option Addr) (n c n' c':Nat),(binOp .eql 30 (.slice a n c) (.slice none n' c')).run γ w=.ok (.bool a.isNone) w:=λw a n c n' c'=>Lib.run_eql_slice_nil w _ _ a n c n' c' Tryz.underlying30;have u22:∀ w,Sem.run γ (underlying 30) w=.ok (TypeDesc.slice 2) w:=run_underlying t22
 go_enter Tryz.func49,Tryz.ntmps49
 go_wp2_with (at_builtin;refine wpList_append_own _ rfl _ _ 30 rfl w.heap.size 2 i0 (.int .i64 0) 1 8 t22 hi hz0 hz1 hz2 rfl dc _ _ _ rfl (World.ownsRow_made w #[] 0 (μ _) (Qaa _) rfl) a 0 c [] rfl rfl (by intro j u hj;simp at hj) (by intro u hu;cases hu) (by unfold maxLen;omega) om hac ?_)
 intro v' w1 hown hgrow hnil
 go_wp2
 go_ret
 refine⟨v',rfl,by simpa using hown,?_⟩;exact((Below.refl _ w).alloc (μ _) _).grown hgrow hac (by intro k hk;simp[Value.ownBlock] at hk;omega)
end Go.Proofs
end
noncomputable section
set_option maxRecDepth 100000
namespace Go.Sy
open Go.Ev Go.Proofs
open Go.RowKit (Below)
theorem ZP:okP γ=true:=Qa0
theorem gC:Tryz.prog.follows .mixedOrders=true:=Qa0
theorem jtz:ji8 (GL γ 10000000 400 9 [] st0)=true:=Qa0
def HY (l:Ls):Prop:=∀ c∈l,48<=c.toNat/\c.toNat<=57
theorem jau:∀ (l:Ls) (acc:Nat),HY l->(acc+1) * 10 ^ l.length<=100000000->Lib.parseUintM 18446744073709551615 acc l=.ok ((l.map UInt8.toNat).foldl (λv c=>10 * v+(c - 48)) acc)
 |[],acc,_,_=>rfl
 |c :: r,acc,hd,h=>by
  have hc:=hd c hac;rw[ξ,Nat.pow_succ] at h;have hp:1<=10 ^ r.length:=Nat.one_le_pow _ _ dc;have hacc:(acc+1) * 10<=100000000:=by
   have:(acc+1) * 10 * 1<=(acc+1) * 10 * 10 ^ r.length:=Nat.mul_le_mul_left _ hp;have e:(acc+1) * 10 * 10 ^ r.length=(acc+1) * (10 ^ r.length * 10):=by rw[Nat.mul_assoc,Nat.mul_comm 10]
   omega
  unfold Lib.parseUintM;rw[if_pos hc,if_neg om,if_neg om,jau r _ (λd hd'=>hd d (by simp[hd']))]
  .show _=Lib.NumEnd.ok ((r.map UInt8.toNat).foldl _ (10 * acc+(c.toNat - 48)));rw[Nat.mul_comm acc 10]
  .refine ψ ?_ h;have e:(acc+1) * (10 ^ r.length * 10)=((acc+1) * 10) * 10 ^ r.length:=by rw[Nat.mul_comm (10 ^ r.length),Nat.mul_assoc]
   rw[e];exact Qav _ om
theorem Ud:∀ (l:Ls) (acc:Nat),HY l->(∃ u,Lib.parseUintM 18446744073709551615 acc l=.ok u)\/Lib.parseUintM 18446744073709551615 acc l=.range
 |[],acc,_=>.inl ⟨acc,rfl⟩
 |c :: r,acc,hd=>by
  have hc:=hd c hac;unfold Lib.parseUintM;rw[if_pos hc];by_cases h1:1844674407370955162<=acc
  .rw[if_pos h1];exact .inr rfl
  .rw[if_neg h1];by_cases h2:18446744073709551615<acc * 10+(c.toNat - 48)
   .rw[if_pos h2];exact .inr rfl
   .rw[if_neg h2];exact Ud r _ λd hd'=>hd d (by simp[hd'])
theorem jav {l:Ls}(hne:l≠[])(hd:HY l):Lib.parseIntB 64 l=Lib.signlessC (2 ^ 63) (Lib.parseUintM 18446744073709551615 0 l):=by
 obtain⟨c,r,rfl⟩:=List.exists_cons_of_ne_nil hne;have hc:=hd c hac;rw[Lib.parseIntB_plain 64 c r om om];unfold Lib.parseUintB;rw[if_neg hac]
theorem jiO {l:Ls}(hne:l≠[])(hd:HY l)(h7:l.length<=7):Lib.parseIntB 64 l=.ok (v8 (l.map UInt8.toNat):Int):=by
 have hle:10 ^ l.length<=10 ^ 7:=Nat.pow_le_pow_right dc h7;have e7:10 ^ 7=10000000:=dc
 rw[jav hne hd,jau l 0 hd om];have hv:=jof (s:=l.map UInt8.toNat) (n:=l.length) hac h7 (λc hc=>by
  obtain⟨b,hb,rfl⟩:=QaF.1 hc;have:=hd b hb;unfold qo;simp;omega)
 show Lib.signlessC _ (.ok (v8 (l.map UInt8.toNat)))=_;generalize v8 (l.map UInt8.toNat)=v at hv;unfold Lib.signlessC;simp;omega
end Go.Sy
end
noncomputable section
namespace Go.Proofs
open Go.Shelf
def Tryz.laysM176_ren:Go.Shelf.Ren:=⟨λ|176=>62|249=>83|288=>107|283=>135|284=>136|285=>137|286=>138|129=>155|317=>154|318=>156|319=>157|320=>158|337=>169|338=>170|n=>n,λ|37=>125|2=>2|3=>3|53=>122|4=>4|9=>9|171=>209|0=>0|173=>212|212=>222|51=>223|5=>5|20=>20|213=>224|46=>225|232=>243|233=>244|n=>n,λ|17=>0|18=>3|19=>4|n=>n⟩
theorem Tryz.laysM176:Go.Proofs.LaysM.n176 γ Tryz.laysM176_ren:={
 mixed:=Qa0
 f129:=Tryz.func155.trans (congrArg some Qa0)
 f176:=Tryz.func62.trans (congrArg some Qa0)
 f249:=Tryz.func83.trans (congrArg some Qa0)
 f283:=Tryz.func135.trans (congrArg some Qa0)
 f284:=Tryz.func136.trans (congrArg some Qa0)
 f285:=Tryz.func137.trans (congrArg some Qa0)
 f286:=Tryz.func138.trans (congrArg some Qa0)
 f288:=Tryz.func107.trans (congrArg some Qa0)
 f317:=Tryz.func154.trans (congrArg some Qa0)
 f318:=Tryz.func156.trans (congrArg some Qa0)
 f319:=Tryz.func157.trans (congrArg some Qa0)
 f320:=Tryz.func158.trans (congrArg some Qa0)
 f337:=Tryz.func169.trans (congrArg some Qa0)
 f338:=Tryz.func170.trans (congrArg some Qa0)
 t0:=Tryz.underlying0
 a0:=Tryz.isAgg0
 z0:=Tryz.sizeOf0
 v0:=Tryz.zeroValue0
 t2:=Tryz.underlying2
 a2:=Tryz.isAgg2
 z2:=Tryz.sizeOf2
 v2:=Tryz.zeroValue2
 t3:=Tryz.underlying3
 a3:=Tryz.isAgg3
 z3:=Tryz.sizeOf3
 v3:=Tryz.zeroValue3
 t4:=Tryz.underlying4
 a4:=Tryz.isAgg4
 z4:=Tryz.sizeOf4
 v4:=Tryz.zeroValue4
 t5:=Tryz.underlying5
 a5:=Tryz.isAgg5
 z5:=Tryz.sizeOf5
 v5:=Tryz.zeroValue5
 t9:=Tryz.underlying9
 a9:=Tryz.isAgg9
 z9:=Tryz.sizeOf9
 v9:=Tryz.zeroValue9
 t20:=Tryz.underlying20
 a20:=Tryz.isAgg20
 z20:=Tryz.sizeOf20
 v20:=Tryz.zeroValue20
 t37:=Tryz.underlying125
 a37:=Tryz.isAgg125
 z37:=Tryz.sizeOf125
 v37:=Tryz.zeroValue125
 t46:=Tryz.underlying225
 a46:=Tryz.isAgg225
 z46:=Tryz.sizeOf225
 v46:=Tryz.zeroValue225
 t51:=Tryz.underlying223
 a51:=Tryz.isAgg223
 z51:=Tryz.sizeOf223
 v51:=Tryz.zeroValue223
 t53:=Tryz.underlying122
 a53:=Tryz.isAgg122
 z53:=Tryz.sizeOf122
 v53:=Tryz.zeroValue122
 t171:=Tryz.underlying209
 a171:=Tryz.isAgg209
 z171:=Tryz.sizeOf209
 v171:=Tryz.zeroValue209
 t173:=Tryz.underlying212
 a173:=Tryz.isAgg212
 z173:=Tryz.sizeOf212
 v173:=Tryz.zeroValue212
 t212:=Tryz.underlying222
 a212:=Tryz.isAgg222
 z212:=Tryz.sizeOf222
 v212:=Tryz.zeroValue222
 t213:=Tryz.underlying224
 a213:=Tryz.isAgg224
 z213:=Tryz.sizeOf224
 t232:=Tryz.underlying243
 a232:=Tryz.isAgg243
 z232:=Tryz.sizeOf243
 v232:=Tryz.zeroValue243
 t233:=Tryz.underlying244
 a233:=Tryz.isAgg244
 z233:=Tryz.sizeOf244
 v233:=Tryz.zeroValue244
 g17:=Qa0
 g18:=Qa0
 g19:=Qa0
 i0:=Qa0
 i2:=Qa0
 i3:=Qa0
 i4:=Qa0
 i5:=Qa0
 i9:=Qa0
 i20:=Qa0
 i37:=Qa0
 i46:=Qa0
 i51:=Qa0
 i53:=Qa0
 i171:=Qa0
 i173:=Qa0
 i212:=Qa0
 i232:=Qa0
 i233:=Qa0
 m17:=Qa0
 m18:=Qa0
 m19:=by kernel_rfl }
open Go.RowKit Go.Sort Go.Lib in
theorem Tryz.strconv_AppendInt_10 (B n : Nat) (i : Int) (h0 : -9223372036854775808 ≤ i) (h1 : i ≤ 9223372036854775807) (sv : Value) (xs : List Value) (w : World) (hown : w.ownsRow B 5 1 sv n xs) (hBw : B ≤ w.heap.size) (hlim : n + 21 ≤ 140737488355328) (htab : Lib.TabBelow γ B w "internal/strconv.uint64pow10" .u64 Lib.pow10Tab) :
 Calls γ 62 #[sv,.int .i64 i,.int .i64 10] w λe w'=>∃ v',e=.returned v'/\w'.ownsRow B 5 1 v' (n+(Lib.itoa i).length) (xs ++ Lib.byteCells (Lib.itoa i))/\Below B w w'/\Lib.OthersKept 5 none w w':=Any.strconv_AppendInt_10 Tryz.laysM176 B n i h0 h1 sv xs w hown hBw hlim htab
end Go.Proofs
end
noncomputable section
namespace Go.Proofs
open Go.Shelf Go.RowKit Go.Sy
def jsQ (w:World)(p:Option Addr)(s:Lu):Prop:=0<s.length->∃ b o,p=some ⟨b,o,none⟩/\∀ j (h:j<s.length),w.cell? ⟨b,o+j,none⟩=some (.int .i64 s[j])
theorem jew:(Tryz.prog.info? 5).map (λi=>(i.zero,i.size,i.bytes))=some (some (.int .u8 0),1,1):=Qa0
theorem ji7 {s:Lu}{k:Nat}(h:k<s.length):J5 (s.take (k+1))=J5 (s.take k) ++ [32] ++ Lib.itoa s[k]:=by
 have e:s.take (k+1)=s.take k ++ [s[k]]:=by rw[QbQ,Qaf h];rfl
 unfold J5;rw[e,List.flatMap_append];simp
theorem K0 {s:Lu}(hr:∀ l∈s,-9223372036854775808<=l/\l<=9223372036854775807):∀ k,(J5 (s.take k)).length<=22 * k
 |0=>by simp[J5]
 |k+1=>by
  by_cases h:k<s.length
  .have:=K0 hr k;have h2:=hr _ (ω h);have h3:=Lib.itoa_length_le s[k] h2.1 h2.2;rw[ji7 h];simp only[ν,Qbb];omega
  .have:=K0 hr k;rw[Qcj om] at this ⊢;omega
theorem jjZ (w:World):(convert 125 9 (.slice none 0 0)).run γ w=.ok (.string ByteArray.empty) w:=by
 simp[convert,run_underlying Tryz.underlying125,run_underlying Tryz.underlying9,run_underlying Tryz.underlying5,Conv.bytesToString]
set_option maxRecDepth 100000 in
theorem Tryz.key_walk (s:Lu)(p:Option Addr)(C:Nat)(w:World)(hn:s.length<=1000000)(hs:jsQ w p s)(hr:∀ l∈s,-9223372036854775808<=l/\l<=9223372036854775807)
  (htab : Lib.TabIs γ w "internal/strconv.uint64pow10" .u64 Lib.pow10Tab) :
  Calls γ 44 #[.slice p s.length C] w λe w'=>e=.returned (.string ⟨(J5 s).toArray⟩)/\Below w.heap.size w w':=by
 obtain⟨i0,hi,hz0,hz1,hz2⟩:=info_parts jew;have hT:=Lib.tabBelow_of_tabIs htab
 go_enter Tryz.func44,Tryz.ntmps44
 go_wp2_with fail
 go_loopg [3,8] s.length (λg s3 s8 wx=>∃ k,g=s.length - k/\k<=s.length/\s8=.int .i64 k/\wx.ownsRow w.heap.size 5 1 s3 (J5 (s.take k)).length (Lib.byteCells (J5 (s.take k)))/\Below w.heap.size w wx)
 case atStart=>exact⟨0,rfl,Qaa _,rfl,World.ownsRow_nil _ _ _ _,Below.refl _ _⟩
 case round=>
  obtain⟨k,rfl,hk,rfl,hown,hnx⟩:=hrel;by_cases hlt:k<s.length
  .obtain⟨b,o,rfl,hall⟩:=hs om;have hx:=hall k hlt;have hb:b<w.heap.size:=World.block_lt_of_cell? _ _ hx;have hx':=(hnx.cell (p:=⟨b,o+k,none⟩) hb).trans hx;have hlt':(k:Int)<(s.length:Int):=om
   have hk1:IntKind.i64.wrap ((k:Int)+1)=(k:Int)+1:=IntWalk.i64_in _ om;have r2:=hr _ (ω hlt);have r3:=r2.1;have r4:=r2.2;have lK:=K0 hr k;have hS:=ji7 hlt;have LK:=Lib.hid lK;have HS:=Lib.hid hS;clear lK hS r2
   go_wp2_with (at_builtin;refine wpList_append_own _ rfl _ _ 125 rfl w.heap.size 5 i0 (.int .u8 0) 1 1 Tryz.underlying125 hi hz0 hz1 hz2 rfl dc _ _ _ rfl (hown.alloc _) ⟨wr.heap.size,0,none⟩ 1 1 [Value.int .u8 32] rfl rfl (by intro j u' hj;match j,hj with|0,hj=>simp at hj;subst hj;simp[Addr.add]) (by intro u' hu';simp at hu';subst hu';rfl) (by have:=LK.out;unfold maxLen;omega) (by have:=LK.out;omega) (by have:=hnx.size;simp;omega) ?_)
   intro v2 w2 hown2 hgrow _;have hnx2:Below w.heap.size w w2:=(hnx.alloc (by have:=hnx.size;omega) _).grown hgrow (by have:=hnx.size;simp;omega) (λk hk=>(hown.lt k hk).1)
   go_wp2_with (go_at_call 62;refine(Tryz.strconv_AppendInt_10 w.heap.size _ s[k] r3 r4 v2 _ w2 hown2 (by have:=hnx2.size;omega) (by have:=LK.out;simp;omega) (hT.on hnx2)).mono ?_;rintro e w3 ⟨v3,rfl,hown3,hnx3,-⟩)
   go_roundg (s.length - (k+1))
   case measure=>omega
   case rel=>
    have hS:=HS.out;have eL:Lib.byteCells (J5 (s.take k)) ++ [Value.int .u8 32] ++ Lib.byteCells (Lib.itoa s[k])=Lib.byteCells (J5 (s.take (k+1))):=by
     rw[hS,Lib.byteCells_append,Lib.byteCells_append];rfl
    have eN:(J5 (s.take k)).length+1+(Lib.itoa s[k]).length=(J5 (s.take (k+1))).length:=by rw[hS];simp;omega
    exact⟨k+1,rfl,hlt,by simp,by rw[<-eL,<-eN];exact hown3,hnx2.trans hnx3⟩
  .obtain rfl:k=s.length:=om
   rw[Qab] at hown;obtain⟨l,hl⟩:∃ l,l=J5 s:=⟨_,rfl⟩;rw[<-hl] at hown;have HL:=Lib.hid hl;clear hl;rcases hown.2 with ⟨e0,h0⟩|⟨g,cap,cur,rfl,-,-,-,-,-,-⟩
   .subst e0;have hcv:(convert 125 9 (.slice none 0 0)).run γ wr=.ok (.string ByteArray.empty) wr:=jjZ wr
    go_wp2_with fail
    go_ret
    have hl:=HL.out;have h1:J5 s=[]:=by rw[<-hl];exact Qbs.1 h0
    exact⟨by rw[h1];rfl,hnx⟩
   .have hcv:=run_convert_bytes_back (P:=γ) wr 125 9 5 ⟨g,0,none⟩ cap l Tryz.underlying125 Tryz.underlying5 Tryz.underlying9 (λj hj=>hown.cells (g:=g) rfl j _ (by simp[Lib.byteCells,hj]))
    go_wp2_with fail
    go_ret
    have hl:=HL.out;subst hl;exact⟨rfl,hnx⟩
end Go.Proofs
end
noncomputable section
set_option maxRecDepth 100000
namespace Go.Sy
open Go.Ev Go.Proofs
open Go.RowKit (Below)
theorem jgF {l:Ls}(hne:l≠[])(hd:HY l):(∃ v,Lib.parseIntB 64 l=.ok v)\/Lib.parseIntB 64 l=.range:=by
 rw[jav hne hd];rcases Ud l 0 hd with ⟨u,h⟩|h
 .rw[h];unfold Lib.signlessC;by_cases hu:2 ^ 63<=u
  .right;simp only[if_pos hu]
  .left;exact⟨u,by simp only[if_neg hu]⟩
 .rw[h];exact .inr rfl
def jdQ (s:Lt):Bool:=decide (s≠[]) && s.all qo
theorem jdP (s:Lt):jdQ s=true↔W3 s:=by
 unfold jdQ W3;simp
def vJ:qH:=λf args st=>match args with
 |[]=>if f=9 then .ok (.bool true) st else .no
 |[.str s,.int .i64 a,.int .i64 b]=>if f=117/\a=10/\b=64/\jdQ s=true/\s.length<=281474976710656 then(if s.length<=7 then .ok (.tup [.int .i64 (v8 s:Int),.nilif]) st else .ok (.tup [.bad,.bad]) st) else .no
 |[.lst n cs]=>if f=49/\n=0/\cs=[] then .ok (.lst 0 []) st else .no
 |_=>.no
theorem jph (st:St):vJ 9 [] st=.ok (.bool true) st:=rfl
def vv:List AV->Option Lu
 |[]=>some []
 |.int .i64 n :: r=>(vv r).map (n :: ·)
 |_=>none
theorem jaT:∀ l:Lu,vv (l.map (.int .i64))=some l
 |[]=>rfl
 |n :: r=>by
  have:=jaT r;rw[ζ,vv,this];rfl
theorem jdu:∀ {cs:List AV} {l:Lu},vv cs=some l->cs=l.map (.int .i64)
 |[],l,h=>by rw[vv] at h;cases h;rfl
 |x :: r,l,h=>by
  unfold vv at h;split at h
  .rename_i e;cases e
  .rename_i n r' e;cases e;cases hr:vv r with
   |none=>rw[hr] at h;cases h
   |some l'=>
    rw[hr] at h;cases h;rw[jdu hr];rfl
  .cases h
def Zx:List AV->St->ER
 |[.lst n cs],st=>match vv cs with
  |some l=>if n=l.length/\n<=1000000/\∀ x∈l,-100000000<=x/\x<=100000000 then .ok (.str (Jc l)) st else .no
  |none=>.no
 |_,_=>.no
def jtT:qH:=λf args st=>if f=44 then uW Zx args st else vJ f args st
def ZH:Bs:=⟨jtT,jgD⟩
theorem Wj {f:FuncId}(h:f≠44)(args:List AV)(st:St):ZH.run f args st=vJ f args st:=if_neg h
theorem jtP {f:FuncId}(h:f=44)(args:List AV)(st:St):ZH.run f args st=uW Zx args st:=if_pos h
theorem jnY (args:List AV)(st:St):ZH.run 44 args st=uW Zx args st:=jtP rfl args st
theorem baseK_Key:KeyP ZH:=⟨λv sv st h1 h2 h3=>by
 have e:Zx [svV sv] st0=.ok (.str (Jc sv)) st0:=by
  unfold Zx svV;simp only[jaT];exact if_pos ⟨trivial,h2,h3⟩
 have h:Qs st.h [v]=some [svV sv]:=qK h1 zO;rw[jnY];unfold uW;rw[h];simp only[e];rfl⟩
theorem jd8:PI ZH:=λs st hd hl=>by
 have e:vJ 117 [.str s,.int .i64 10,.int .i64 64] st=if(117=117/\(10:Int)=10/\(64:Int)=64/\jdQ s=true/\s.length<=281474976710656) then(if s.length<=7 then .ok (.tup [.int .i64 (v8 s:Int),.nilif]) st else .ok (.tup [.bad,.bad]) st) else .no:=rfl
 rw[Wj dc,e,if_pos ⟨rfl,rfl,rfl,(jdP s).2 hd,hl⟩];exact⟨λh=>if_pos h,λh=>if_neg om⟩
theorem baseW_Clone:CloneP ZH:=⟨λst=>by rw[Wj dc];rfl,λn cs st=>by
 rw[Wj dc];show(if 49=49/\n+1=0/\cs=[] then ER.ok (.lst 0 []) st else .no)=.no;exact if_neg λh=>by simp at h,λc n m x st=>by rw[Wj dc];rfl⟩
theorem Kw (f:FuncId)(args:List AV)(st:St):vJ f args st=.no\/(f=9/\args=[])\/(f=117/\∃ s,args=[.str s,.int .i64 10,.int .i64 64]/\W3 s/\s.length<=281474976710656)\/(f=49/\args=[.lst 0 []]):=by
 unfold vJ;split
 .by_cases h:f=9
  .exact .inr (.inl ⟨h,rfl⟩)
  .exact .inl (if_neg h)
 .rename_i s a b;by_cases h:f=117/\a=10/\b=64/\jdQ s=true/\s.length<=281474976710656
  .obtain⟨h1,rfl,rfl,h4,h5⟩:=h;exact .inr (.inr (.inl ⟨h1,s,rfl,(jdP s).1 h4,h5⟩))
  .exact .inl (if_neg h)
 .rename_i n cs;by_cases h:f=49/\n=0/\cs=[]
  .obtain⟨h1,rfl,rfl⟩:=h;exact .inr (.inr (.inr ⟨h1,rfl⟩))
  .exact .inl (if_neg h)
 .exact .inl rfl
theorem jmG (f:FuncId)(args:List AV)(st:St)(h9:f≠9)(h31:f≠117)(h49:f≠49):vJ f args st=.no:=by
 rcases Kw f args st with h|⟨h,_⟩|⟨h,_⟩|⟨h,_⟩
 .exact h
 .exact absurd h h9
 .exact absurd h h31
 .exact absurd h h49
theorem JO {ι:Inj}{st:St}{w w':World}(hs:Sim ι st.h st.nx w)(b:Below w.heap.size w w'):Sim ι st.h st.nx w'/\Grew ι w ι w':=by
 have gr:Grew ι w ι w':=⟨b.os,b.tape,b.output,b.size,λk hk _=>b.block k hk,λb B S e=>.inl ⟨b,S,e⟩,λB vs h=>.inl h⟩;exact⟨⟨λc B S e=>by
  obtain⟨o,x,h1,h2,h3⟩:=hs.obj c B S e;exact⟨o,x,h1,(b.block B (hs.lt e)).trans h2,h3⟩,hs.gone,hs.inj,hs.born,hs.glob.grew gr⟩,gr⟩
theorem jmF:JG γ vJ:=by
 intro f args st ι w vs hs hv;rcases Kw f args st with h|⟨rfl,rfl⟩|⟨rfl,s,rfl,hd,hl⟩|⟨rfl,rfl⟩
 .rw[h];trivial
 .rw[jph];have hvs:vs = #[]:=by
   have:vs.toList=[]:=by simpa[VRs] using hv
   simpa using this
  subst hvs;have hb:Tryz.f9.body.isSome=true:=Qa0
  obtain⟨c,hc⟩:=Qcv.1 hb;refine⟨(Y0 ZP Tryz.func9 hc).2,Calls.mono (jlL ZP (jfE gC) jtz w ⟨⟨hs.glob.1.1,λb S j _ e=>by cases e⟩,λB vs e=>by cases e⟩) λe w' ⟨he,hos,ht,ho,hsz,hk⟩=>⟨_,he,ι,Le.refl ι,?_,?_,?_,Cleanly.refl ι st⟩⟩
  .simp only[VR]
  .exact(JO hs ⟨hos,ht,ho,hsz,hk⟩).1
  .exact(JO hs ⟨hos,ht,ho,hsz,hk⟩).2
 .simp only[VRs,VR] at hv;obtain⟨v1,l1,e1,⟨bs,rfl,hbs⟩,v2,l2,rfl,rfl,v3,l3,rfl,rfl,rfl⟩:=hv;have hvs:vs = #[.string bs,.int .i64 10,.int .i64 64]:=by
   cases vs;simpa using e1
  subst hvs;have hlen:bs.data.toList.length=s.length:=by rw[<-hbs,Qad]
  have hsz:bs.size=s.length:=by rw[<-hlen,Qao];rfl
  have hne:bs.data.toList≠[]:=λh=>hd.1 (by rw[<-hbs,h];rfl);have hd8:HY bs.data.toList:=λc hc=>by
   have:=hd.2 c.toNat (by rw[<-hbs];exact QaF.2 ⟨c,hc,rfl⟩);unfold qo at this;simp at this;omega
  have hent:Ev.Enters γ 117:=by
   have hb:Tryz.f117.body.isSome=true:=Qa0
   obtain⟨c,hc⟩:=Qcv.1 hb;exact(Y0 ZP Tryz.func117 hc).2
  have okc:∀ v,Lib.parseIntB 64 bs.data.toList=.ok v->Calls γ 117 #[.string bs,.int .i64 10,.int .i64 64] w λe w'=>e=.returned (.tuple #[.int .i64 v,.nilIface])/\Below w.heap.size w w':=λv h=>
   (Tryz.strconv_ParseInt_10_at64_ok bs om v h w).mono λe w' ⟨he,hw⟩=>⟨he,by
    rcases hw with rfl|⟨t,rfl⟩
    .exact⟨rfl,rfl,rfl,μ _,λ_ _=>rfl⟩
    .exact Lib.bytesWorld_below w 5 t⟩
  have hP:=jd8 s st hd hl;rw[Wj dc] at hP;by_cases h7:s.length<=7
  .rw[hP.1 h7];refine⟨hent,(okc _ (jiO hne hd8 om)).mono λe w' ⟨he,hb⟩=>⟨_,he,ι,Le.refl ι,?_,(JO hs hb).1,(JO hs hb).2,Cleanly.refl ι st⟩⟩;rw[hbs];simp only[VR,VRs];exact⟨_,rfl,_,_,rfl,rfl,_,_,rfl,rfl,rfl⟩
  .rw[hP.2 om];refine⟨hent,?_⟩;have fin:∀ (x y:Value) (w':World),Below w.heap.size w w'->JM ι w st st (.tup [.bad,.bad]) (.tuple #[x,y]) w':=λx y w' hb=>by
    refine⟨ι,Le.refl ι,?_,(JO hs hb).1,(JO hs hb).2,Cleanly.refl ι st⟩;simp only[VR,VRs];exact⟨_,rfl,_,_,rfl,trivial,_,_,rfl,trivial,rfl⟩
   rcases jgF hne hd8 with ⟨v,h⟩|h
   .exact(okc v h).mono λe w' ⟨he,hb⟩=>⟨_,he,fin _ _ w' hb⟩
   .obtain⟨te,pe,hg⟩:=hs.glob.1.1.2;exact(Tryz.strconv_ParseInt_10_at64_range bs om h _ w hg (.inr ⟨te,pe,rfl⟩)).mono λe w' ⟨N,he,_,_,hb⟩=>⟨_,he,fin _ _ w' hb⟩
 .have e49:vJ 49 [.lst 0 []] st=.ok (.lst 0 []) st:=rfl;rw[e49];simp only[VRs,VR] at hv;obtain⟨v1,l1,e1,⟨p,C,rfl,-,-,-⟩,rfl⟩:=hv;have hvs:vs = #[.slice p 0 C]:=by
   cases vs;simpa using e1
  subst hvs;have hb:Tryz.f49.body.isSome=true:=Qa0
  obtain⟨c,hc⟩:=Qcv.1 hb;refine⟨(Y0 ZP Tryz.func49 hc).2,?_⟩;cases p with
  |none=>
   refine(Tryz.clone_nil 0 C w).mono λe w' ⟨he,hw⟩=>⟨_,he,ι,Le.refl ι,?_,?_,?_,Cleanly.refl ι st⟩
   .simp only[VR];exact⟨none,0,rfl,μ _,rfl,λh=>absurd h (Qbe _)⟩
   .rw[hw];exact hs
   .rw[hw];exact Grew.refl ι w
  |some a=>
   refine(Tryz.clone_zero a C w).mono λe w' ⟨v',he,ho,hb⟩=>⟨_,he,ι,Le.refl ι,?_,(JO hs hb).1,(JO hs hb).2,Cleanly.refl ι st⟩;simp only[VR];rcases ho.2 with ⟨rfl,_⟩|⟨g,cap,cur,rfl,_⟩
   .exact⟨none,0,rfl,μ _,rfl,λh=>absurd h (Qbe _)⟩
   .exact⟨_,cap,rfl,Qaa _,rfl,λh=>absurd h (Qbe _)⟩
theorem jct {ι:Inj}:∀ {l:Lu} {ys:List Value},VRs ι (l.map (.int .i64)) ys->ys=l.map (Value.int .i64)
 |[],ys,h=>h
 |n :: r,ys,h=>by
  obtain⟨y,ys',rfl,h1,h2⟩:=h;rw[jct h2];show _=Value.int .i64 n :: _;rw[show y=Value.int .i64 n from h1]
theorem jdr (args:List AV)(st:St):Zx args st=.no\/∃ l:Lu,args=[.lst l.length (l.map (.int .i64))]/\l.length<=1000000/\(∀ x∈l,-100000000<=x/\x<=100000000)/\Zx args st=.ok (.str (Jc l)) st:=by
 unfold Zx;split
 .rename_i n cs;cases hl:vv cs with
  |none=>exact .inl rfl
  |some l=>
   dsimp only;by_cases h:n=l.length/\n<=1000000/\∀ x∈l,-100000000<=x/\x<=100000000
   .obtain⟨h1,h2,h3⟩:=h;subst h1;exact .inr ⟨l,by rw[jdu hl],h2,h3,if_pos ⟨rfl,h2,h3⟩⟩
   .exact .inl (if_neg h)
 .exact .inl rfl
theorem ji6:Xv γ 44 Zx:=by
 intro args st ι w vs hs hv;rcases jdr args st with h|⟨l,rfl,h7,hbd,h⟩
 .rw[h];trivial
 .rw[h];simp only[VRs,VR] at hv;obtain⟨v1,l1,e1,⟨p,C,rfl,-,-,hc⟩,rfl⟩:=hv;have hvs:vs = #[.slice p l.length C]:=by
   cases vs;simpa using e1
  subst hvs;have hent:Ev.Enters γ 44:=by
   have hb:Tryz.f44.body.isSome=true:=Qa0
   obtain⟨c,hc⟩:=Qcv.1 hb;exact(Y0 ZP Tryz.func44 hc).2
  have htab : Lib.TabIs γ w "internal/strconv.uint64pow10" .u64 Lib.pow10Tab := by
   obtain⟨t,fz,h0⟩:=hs.glob.1.1.1
   have g0 : Tryz.prog.globalNamed "internal/strconv.uint64pow10" = some 0 := by kernel_rfl
   unfold Lib.TabIs World.var?;simp only[g0,QaV,h0];rfl
  have hin:jsQ w p l:=λh0=>by
   obtain⟨B,o,us,rfl,hg,hb,hr⟩:=hc h0;rw[Qad] at hb hr;refine⟨B,o,rfl,λj hj=>?_⟩;have hu:=jct hr;have e:us[o+j]? = some (Value.int .i64 l[j]):=by
    have:((us.drop o).take l.length)[j]? = some (Value.int .i64 l[j]):=by rw[hu];simp[hj]
    rw[List.getElem?_take_of_lt hj,QbL] at this;exact this
   rw[UM (hs.glob.2 B us hg) om,Qak,e];rfl
  refine⟨hent,(Tryz.key_walk l p C w h7 hin (λx hx=>by have:=hbd x hx;omega) htab).mono λe w' ⟨he,hb⟩=>⟨_,he,ι,Le.refl ι,?_,(JO hs hb).1,(JO hs hb).2,Cleanly.refl ι st⟩⟩;simp only[VR];exact⟨_,rfl,rfl⟩
theorem jmH:JG γ ZH.run:=by
 intro f args st ι w vs hs hv;by_cases h:f=44
 .subst h;rw[jnY];exact jfj ji6 args st ι w vs hs hv
 .rw[Wj h];exact jmF f args st ι w vs hs hv
end Go.Sy
end
noncomputable section
set_option maxRecDepth 100000
namespace Go.Sy
open Go.Ev Go.Proofs
variable {w:World}
theorem joa {ι:Inj}:∀ {cs:List AV} {v:Value},VRs ι cs v.cells.toList->2<=cs.length->VR ι (.agg cs) v
 |a :: b :: r,v,h,_=>by
  cases v;case agg c=>exact⟨c,rfl,h⟩
  all_goals
   exfalso;obtain⟨v1,l1,e1,_,v2,l2,e2,_⟩:=h;simp[Value.cells] at e1;rw[e2] at e1;simp at e1
 |[],v,h,h2=>by simp at h2
 |[a],v,h,h2=>by simp at h2
theorem arg_src {m:SrcT}{v:Value}(h:VRs (frW w) (srE m) v.cells.toList):VR (frW w) (.agg (srE m)) v:=joa h (by rw[uK];decide)
theorem base4_9 (st:St):ZH.run 9 [] st=.ok (.bool true) st:=by rw[Wj dc];rfl
theorem base4_PI:PI ZH:=jd8
theorem base4_NB:NB ZH:=⟨λf h args st=>(Wj (by rintro rfl;simp[Vx] at h) args st).trans <|jmG f args st (by rintro rfl;simp[Vx] at h) (by rintro rfl;simp[Vx] at h) (by rintro rfl;simp[Vx] at h),rfl⟩
theorem law_calls {f:FuncId}{xs:List AV}{vs:Array Value}(h:XB γ ZH f xs st0 (λv _=>v=.bool true) λ_ _=>False)(hg:GW w)(hv:VRs (frW w) xs vs.toList) :
  Calls γ f vs w λe w'=>e=.returned (.bool true)/\w'.os=w.os/\w'.tape=w.tape/\w'.output=w.output/\w.heap.size<=w'.heap.size/\∀ k,k<w.heap.size->w'.heap[k]? = w.heap[k]?:=by
 have h2:=CW.calls ZP (jfE gC) jmH (K:=λv _=>v=.bool true) h.cb (jou hg) hv;refine Calls.mono h2 λe w' ⟨v,x,st',he,hK,ι',_,hv,_,hg,_⟩=>?_;rw[hK] at hv;simp only[VR] at hv;rw[hv] at he;exact⟨he,hg.os,hg.tape,hg.output,hg.size,λk hk=>hg.keep k hk (λb S e=>by cases e)⟩
theorem gw_mk  (h0 : Lib.TabIs γ w "internal/strconv.uint64pow10" .u64 Lib.pow10Tab) (h2 : ∃ te pe, w.cell? ⟨2, 0, none⟩ = some (.iface te pe)) : GW w := by
 have g0 : Tryz.prog.globalNamed "internal/strconv.uint64pow10" = some 0 := by kernel_rfl
 refine⟨?_,h2⟩;unfold Lib.TabIs World.var? at h0;simp only[g0,QaV] at h0;cases e:w.heap[0]? with
 |none=>simp[e] at h0
 |some o=>
  rw[e] at h0;cases o with
  |cells c t f=>
   simp at h0;exact⟨t,f,by rw[h0];rfl⟩
  |_=>simp at h0
end Go.Sy
end
