/-
  Contracts: the code lowered, what it does told by rules, and the contracts of the functions that the law reaches.
-/
import Derived.Test.YtbpohnnpklbmeaaGreatDoorPbSyD
import Derived.Test.YtbpohnnpklbmeaaGreatDoorProg
import Derived.KernelRfl
import Derived.Shelf.LaysC
import Derived.Shelf.Strconv.ParseIntPublic10
set_option linter.unusedVariables false
set_option linter.unusedSimpArgs false
open Int renaming reduceToNat → Qaa, natCast_zero → Qaj, zero_add → Qan, ofNat → Qbh, eq_ofNat_of_zero_le → Qbq, natCast_nonneg → Qcd
open Nat renaming reduceAdd → Qab, reduceSub → Qac, reduceMul → Qad, reduceBEq → Qae, ble → Qao, le_refl → Qaq, beq → Qar, mul → Qat, le_trans → Qav, succ → QaA, add → QaD, le_max_right → QaE, le_max_left → QaI, mul_le_mul_right → QaJ, zero_add → QaL, lt_of_lt_of_le → QaM, zero_le → QaT, lt_or_ge → QaX, sub → Qbc, sub_zero → Qbn, succ_pos → Qbo, add_mul → Qbp, succ_mul → Qbr, not_lt_zero → Qbw, zero_mul → Qby, add_assoc → QbB, mod_eq_of_lt → QbD, succ_lt_succ → QbG, min_eq_left → QbL, add_zero → QbV, le_of_eq → QbY, lt_irrefl → Qcb, ne_of_lt → Qcg, lt_trichotomy → Qcn
open Go.Proofs.Tryz renaming prog → Qaf
open List renaming getD_cons_zero → Qag, getD_cons_succ → Qah, map_cons → Qai, length_append → Qak, length_cons → Qal, map_nil → Qam, length_nil → Qap, getElem_mem → Qau, all_eq_true → Qaw, getElem?_eq_getElem → Qay, cons_append → QaB, append_assoc → QaC, getD_eq_getElem?_getD → QaF, nil_append → QaG, range' → QaH, take_length → QaK, length_map → QaN, getD → QaO, length_take → QaP, length_drop → QaQ, range → QaS, eq_nil_of_length_eq_zero → QaU, cons → QaY, append_nil → Qba, mem_cons → Qbe, all_cons → Qbf, mem_map → Qbi, all_append → Qbk, take_zero → Qbm, map_congr_left → Qbs, range'_succ → Qbu, map_map → QbA, drop_drop → QbC, drop_zero → QbF, getElem_cons_zero → QbH, getElem_cons_succ → QbI, getElem?_take → QbJ, map_append → QbM, singleton_append → QbN, getElem?_append_right → QbO, getElem?_map → QbP, flatMap_cons → QbQ, mem_of_mem_take → QbR, mem_iff_getElem → QbS, getElem?_append_left → QbT, mem_cons_of_mem → QbU, ext_getElem → QbW, map_toArray → QbX, take_succ_cons → QbZ, getElem?_drop → Qcc, take_take → Qce, countP_singleton → Qcf, take_append_drop → Qch, foldr_cons → Qcl, any_eq_false → Qco
open Bool renaming and_eq_true → Qas, not_eq_true' → QaV, eq_iff_iff → QaW, false_eq_true → Qbb, or_eq_true → Qbg, or_eq_false_iff → Qbj, true_eq_false → QbK
open Array renaming length_toList → Qax, getElem?_eq_some_iff → Qaz, replicate → QaZ, getD_eq_getD_getElem? → Qbv, getElem?_toList → Qbz, toList_map → QbE, getElem?_setIfInBounds_ne → Qca, mem_toList_iff → Qci, toList_append → Qcj, getElem?_eq_getElem → Qck
open Option renaming map_some → QaR, getD_some → Qbd, bind_some → Qbl, map_none → Qbt, map_eq_some_iff → Qbx
open Function renaming comp_def → Qcm
noncomputable section
set_option maxRecDepth 100000
namespace Go.Sy
open Go.Ev Go.Proofs
theorem Lx.weak {s:List Nat}{cs:List qe}{ok ok':List Nat->Prop}(h:Lx s cs ok)(k:∀ r,ok' r->ok r):Lx s cs ok':=λrest p ts hr hc=>h rest p ts (k rest hr) hc
def sgc (op:Int):qe:=(if jV ((sgn op).getD 0 0)=true then 4 else 3,sgn op,0)
def inC (x:Ex)(cs:List qe):List qe:=if x.kids.length=0 then cs else (3,[40],0) :: (cs ++ [(3,[41],0)])
inductive Wr:Ex->List qe->Prop
 | num (n:Nat) (l c:Int) (h:n≤1000000):Wr (.mk 1 (n:Int) [] [] l c) [(2,zr n,n)]
 | tru (l c:Int):Wr (.mk 2 1 [] [] l c) [(4,[116,114,117,101],0)]
 | fal (l c:Int):Wr (.mk 2 0 [] [] l c) [(4,[102,97,108,115,101],0)]
 | name (w:List Nat) (l c:Int) (h:nm w=true):Wr (.mk 3 0 w [] l c) [(1,w,0)]
 | one (op:Int) (x:Ex) (cs:List qe) (l c:Int) (h1:5≤op) (h2:op≤13) (h:Wr x cs):Wr (.mk op 0 [] [x] l c) (sgc op :: inC x cs)
 | two (op:Int) (x y:Ex) (cs ds:List qe) (l c:Int) (h1:14≤op) (h2:op≤30) (h:Wr x cs) (k:Wr y ds):Wr (.mk op 0 [] [x,y] l c) (inC x cs ++ sgc op :: inC y ds)
theorem jjm {op:Int}{k:Nat}(h:op=((5+k:Nat):Int))(hk:k<26):sgn op=za.getD k []:=by
 subst h;unfold sgn;rw [if_pos (by omega)]
 congr 1
 omega
theorem jk0 {s:List Nat}(h:s∈[[41],[32],[59],[44]])(r:List Nat):okI (s ++ r):=by
 simp only [Qbe,List.not_mem_nil,or_false] at h;rcases h with rfl | rfl | rfl | rfl <;> (intro c hc; simp at hc; subst hc; decide)
theorem jda (r:List Nat):okS (32 :: r):=by intro c hc; simp at hc; subst hc; decide
theorem uj (r:List Nat):okI (32 :: r):=by intro c hc; simp at hc; subst hc; decide
theorem jee {op:Int}(h1:5≤op)(h2:op≤30):Lx (sgn op ++ [32]) [sgc op] okZ:=by
 obtain ⟨k,hk⟩:∃ k:Nat,op=((5+k:Nat):Int):=⟨(op - 5).toNat,by omega⟩;have hk26:k<26:=by omega
 have e:=jjm hk hk26;unfold sgc;rw [e];have a:∀ k,k<26->(jV ((za.getD k []).getD 0 0)=true∧(za.getD k []).length≤32∧jY qO (za.getD k [])=(za.getD k []).length∧za.getD k []≠[]∧wh (za.getD k [])=true)∨(¬ jV ((za.getD k []).getD 0 0)=true∧za.getD k []∈yz):=by decide
 rcases a k hk26 with ⟨a1,a2,a3,a4,a5⟩ | ⟨a1,a2⟩
 ·rw [if_pos a1];have:=Lx.letters a1 a2 a3 a4;rw [if_pos a5] at this;exact this.app (cs':=[]) (Lx.gap (.inl rfl)) λr _=>uj r
 ·rw [if_neg a1];exact (Lx.signS a2).app (cs':=[]) (Lx.gap (.inl rfl)) λr _=>jda r
def Fst (s:List Nat):Prop:=∃ c s',s=c :: s'∧c≠46∧c≠61∧c≠62∧c≠45
theorem Fst.ok {s:List Nat}(h:Fst s)(r:List Nat):okS (s ++ r):=by
 obtain ⟨c,s',rfl,h⟩:=h;intro d hd;simp at hd; subst hd; exact h
theorem vG {s:List Nat}(h:jV (s.getD 0 0)=true)(h0:s≠[]):Fst s:=by
 cases s with
 | nil=>exact absurd rfl h0
 | cons x s=>
  have h:jV x=true:=h;unfold jV at h; simp at h;exact ⟨x,s,rfl,by omega,by omega,by omega,by omega⟩
theorem kQ {s:List Nat}(h:∀ c∈s,jv c=true)(h0:s≠[]):Fst s:=by
 cases s with
 | nil=>exact absurd rfl h0
 | cons x s=>
  have h:=h x (by simp);unfold jv at h; simp at h;exact ⟨x,s,rfl,by omega,by omega,by omega,by omega⟩
structure Wo (x:Ex):Prop where
 wr:∃ cs,Wr x cs∧Lx (j9 x) cs okI
 fst:x.kids.length=0->Fst (j9 x)
 len:(j9 x).length+2≤40 * yX x
theorem Wo.inn {x:Ex}(h:Wo x):(∃ cs,Wr x cs∧Lx (zN x) (inC x cs) okI)∧Fst (zN x)∧(zN x).length≤40 * yX x:=by
 obtain ⟨⟨cs,h1,h2⟩,h3,h4⟩:=h;by_cases c:x.kids.length=0
 ·have e:zN x=j9 x:=by rw [zN,if_pos c]
  rw [e];exact ⟨⟨cs,h1,by rw [inC,if_pos c]; exact h2⟩,h3 c,by omega⟩
 ·have e:zN x=40 :: (j9 x ++ [41]):=by rw [zN,if_neg c]
  rw [e];refine ⟨⟨cs,h1,?_⟩,⟨40,_,rfl,by decide⟩,by simp; omega⟩;rw [inC,if_neg c];exact (Lx.signA (w:=[40]) (by simp)).app (h2.app ((Lx.signA (w:=[41]) (by simp)).weak (ok':=okI) λ_ _=>trivial) λr _=>jk0 (by simp) r) λ_ _=>trivial
theorem jfm {x:Ex}{k:Ex}(h:wj 4 x=false)(hk:k∈x.kids):wj 4 k=false:=by
 cases x with
 | mk o n nm ks l c=>
  have h:(decide (o=4) || Jc 4 ks)=false:=h;have e:∀ ks:List Ex,Jc 4 ks=false->∀ k∈ks,wj 4 k=false:=by
   intro ks;induction ks with
   | nil=>intro _ k hk; simp at hk
   | cons a ks ih=>
    intro h k hk;have h:(wj 4 a || Jc 4 ks)=false:=h;simp only [Qbj] at h;rcases Qbe.1 hk with rfl | hk
    ·exact h.1
    ·exact ih h.2 k hk
  simp only [Qbj] at h;exact e ks h.2 k hk
theorem jjR {x:Ex}(h:wj 4 x=false):x.op≠4:=by
 cases x with
 | mk o n nm ks l c=>
  have h:(decide (o=4) || Jc 4 ks)=false:=h;simp only [Qbj,decide_eq_false_iff_not] at h;exact h.1
theorem wo:∀ x:Ex,zJ x=true->wj 4 x=false->Wo x:=by
 refine Ex.indk λx ih hs h4=>?_;obtain ⟨h1,h2,h3,h5⟩:=vi hs;have ho:=jjR h4;have kid:∀ k∈x.kids,Wo k:=λk hk=>ih k hk (h2 k hk) (jfm h4 hk);clear ih h2 hs h4;cases x with
 | mk op num name ks l c=>
 simp only [Ex.op,Ex.num,Ex.name,Ex.kids] at *;have sz:yX (.mk op num name ks l c)=yb ks+1:=rfl;unfold Xp at h1;unfold Ye at h3
 match ks,h1,kid,sz with
 | [],h1,_,sz=>
  have hop:1≤op∧op≤4:=by
   simp only [Qap] at h1;split at h1
   ·assumption
   ·split at h1
    ·omega
    ·split at h1 <;> omega
  have sz:yX (.mk op num name [] l c)=1:=rfl;by_cases e1:op=1
  ·subst e1;simp at h3;obtain ⟨n,rfl⟩:∃ n:Nat,num=(n:Int):=⟨num.toNat,by omega⟩;have hn:name=[]:=by simpa using h5
   subst hn;have hl:=QX 6 n (by rw [p7]; omega);have e:j9 (.mk 1 (n:Int) [] [] l c)=zr n:=by
    rw [YX,if_pos rfl,JQ,if_neg (by omega)]; rfl
   obtain ⟨d1,d2,_⟩:=W7 n;exact ⟨⟨_,.num n l c (by omega),by rw [e]; exact Lx.num (by omega)⟩,λ_=>by rw [e]; exact kQ d1 d2,by rw [e,sz]; omega⟩
  ·by_cases e2:op=2
   ·subst e2;simp at h3;have hn:name=[]:=by simpa using h5
    subst hn;rcases h3 with rfl | rfl
    ·have e:j9 (.mk 2 0 [] [] l c)=[102,97,108,115,101]:=by rw [YX,if_neg (by decide),if_pos rfl,if_neg (by decide)]
     have L:=Lx.letters (w:=[102,97,108,115,101]) (by decide) (by decide) (by decide) (by decide);rw [if_pos (by decide)] at L;exact ⟨⟨_,.fal l c,by rw [e]; exact L⟩,λ_=>by rw [e]; exact vG (by decide) (by decide),by rw [e,sz]; decide⟩
    ·have e:j9 (.mk 2 1 [] [] l c)=[116,114,117,101]:=by rw [YX,if_neg (by decide),if_pos rfl,if_pos (by decide)]
     have L:=Lx.letters (w:=[116,114,117,101]) (by decide) (by decide) (by decide) (by decide);rw [if_pos (by decide)] at L;exact ⟨⟨_,.tru l c,by rw [e]; exact L⟩,λ_=>by rw [e]; exact vG (by decide) (by decide),by rw [e,sz]; decide⟩
   ·have e3:op=3:=by omega
    subst e3;simp at h3;obtain ⟨rfl,h3⟩:=h3;have e:j9 (.mk 3 0 name [] l c)=name:=by rw [YX,if_neg (by decide),if_neg (by decide)]
    have hl:name.length≤32:=by (have h:=h3; unfold nm at h; simp only [Qas,decide_eq_true_eq,QaV] at h; exact h.1.1.1.2)
    have hf:jV (name.getD 0 0)=true∧name≠[]:=by
     have h:=h3;unfold nm at h;simp only [Qas,decide_eq_true_eq,QaV] at h;exact ⟨h.1.1.2,h.1.1.1.1⟩
    exact ⟨⟨_,.name name l c h3,by rw [e]; exact Lx.name h3⟩,λ_=>by rw [e]; exact vG hf.1 hf.2,by rw [e,sz]; omega⟩
 | [x],h1,kid,sz=>
  have hop:5≤op∧op≤13:=by
   simp only [Qal,Qap] at h1;split at h1
   ·omega
   ·split at h1
    ·assumption
    ·split at h1 <;> omega
  have hn:name=[]:=by rcases h5 with h | h; omega; exact h
  have hz:num=0:=by
   rw [if_neg (by omega),if_neg (by omega),if_neg (by omega),if_neg (by omega)] at h3;simpa using h3
  subst hn hz;obtain ⟨⟨cs,w1,w2⟩,w3,w4⟩:=(kid x (by simp)).inn;have sz:yX (.mk op 0 [] [x] l c)=yX x+1:=by rw [sz]; simp [yb]
  have sl:=wD op;refine ⟨⟨_,.one op x cs l c hop.1 hop.2 w1,?_⟩,λh=>by simp [Ex.kids] at h,?_⟩
  ·rw [u3];by_cases h6:6<op
   ·rw [if_pos h6];exact (jee (by omega) (by omega)).app w2 λ_ _=>trivial
   ·rw [if_neg h6,Qba];have hw:sgn op∈yz∧sgc op=(3,sgn op,0):=by
     have:op=5∨op=6:=by omega
     rcases this with rfl | rfl <;> decide
    have L:=Lx.signS hw.1;rw [←hw.2] at L;exact L.app w2 λr _=>w3.ok r
  ·rw [u3,sz];simp only [Qak];split <;> simp <;> omega
 | [x,y],h1,kid,sz=>
  have hop:14≤op∧op≤30:=by
   simp only [Qal,Qap] at h1;split at h1
   ·omega
   ·split at h1
    ·omega
    ·split at h1
     ·assumption
     ·omega
  have hn:name=[]:=by rcases h5 with h | h; omega; exact h
  have hz:num=0:=by
   rw [if_neg (by omega),if_neg (by omega),if_neg (by omega),if_neg (by omega)] at h3;simpa using h3
  subst hn hz;obtain ⟨⟨cs,w1,w2⟩,w3,w4⟩:=(kid x (by simp)).inn;obtain ⟨⟨ds,v1,v2⟩,v3,v4⟩:=(kid y (by simp)).inn;have sz:yX (.mk op 0 [] [x,y] l c)=yX x+yX y+1:=by rw [sz]; simp [yb]
  have sl:=wD op;refine ⟨⟨_,.two op x y cs ds l c hop.1 hop.2 w1 v1,?_⟩,λh=>by simp [Ex.kids] at h,?_⟩
  ·rw [u2];have e:zN x ++ [32] ++ sgn op ++ [32] ++ zN y=zN x ++ ([32] ++ ((sgn op ++ [32]) ++ zN y)):=by simp
   rw [e];refine w2.app (cs':=sgc op :: inC y ds) (ok':=okI) (Lx.app (cs:=[]) (cs':=sgc op :: inC y ds) (ok':=okI) (Lx.gap (.inl rfl) (ok:=okZ)) ((jee (by omega) (by omega)).app v2 λ_ _=>trivial) λ_ _=>trivial) λr _=>uj _
  ·rw [u2,sz];simp only [Qak,Qal,Qap];omega
 | x :: y :: z :: r,h1,_,_=>
  simp only [Qal] at h1;split at h1
  ·omega
  ·split at h1
   ·omega
   ·split at h1 <;> omega
end Go.Sy
end
noncomputable section
set_option maxRecDepth 100000
namespace Go.Sy
open Go.Ev Go.Proofs
def At (ts:List Tk):Nat->List qe->Prop
 | _,[]=>True
 | i,c :: cs=>Jf (tk ts i)=c∧At ts (i+1) cs
theorem At.app {ts:List Tk}:∀ {a b:List qe} {i:Nat},At ts i (a ++ b)->At ts i a∧At ts (i+a.length) b
 | [],b,i,h=>⟨trivial,h⟩
 | c :: a,b,i,h=>by
  obtain ⟨h1,h2⟩:=h;obtain ⟨h3,h4⟩:=At.app h2;refine ⟨⟨h1,h3⟩,?_⟩;have e:i+(c :: a).length=i+1+a.length:=by simp; omega
  rw [e]; exact h4
def isC (c:qe)(S:List (List Nat)):Bool:=decide (c.1=3∨c.1=4) && decide (c.2.1∈S)
theorem zS (t:Tk)(S:List (List Nat)):isM t S=isC (Jf t) S:=rfl
def Vk (c:qe):Bool:=q8.all λv=>!isC c v.1
def Fin (f:Nat->Option PR)(x:Ex)(j:Nat):Prop:=∃ N y,unE y=unE x∧∀ n,N≤n->f n=some (.ok y j)
theorem K5 {f:Nat->Option PR}{y x:Ex}{j:Nat}(h:unE y=unE x)(k:∀ n,f (n+1)=some (.ok y j)):Fin f x j:=⟨1,y,h,λn hn=>by
 obtain ⟨m,rfl⟩:∃ m,n=m+1:=⟨n - 1,by omega⟩;exact k m⟩
theorem Fin.step {f g:Nat->Option PR}{x:Ex}{j:Nat}(h:Fin f x j)(k:∀ n,g (n+1)=f n):Fin g x j:=by
 obtain ⟨N,y,h1,h2⟩:=h;refine ⟨N+1,y,h1,λn hn=>?_⟩;obtain ⟨m,rfl⟩:∃ m,n=m+1:=⟨n - 1,by omega⟩;rw [k,h2 m (by omega)]
theorem wT {ts:List Tk}{x:Ex}{i d j:Nat}(h:Fin (λn=>yH ts n i d) x j):∀ l:List Lev,(∀ v∈l,isM (tk ts j) v.1=false)->Fin (λn=>qx ts n l i d) x j
 | [],_=>h.step λn=>by rw [qx]
 | v :: l,hl=>by
  obtain ⟨N,y,h1,h2⟩:=wT h l λw hw=>hl w (by simp [hw]);refine ⟨N+2,y,h1,λn hn=>?_⟩;obtain ⟨m,rfl⟩:∃ m,n=m+2:=⟨n - 2,by omega⟩;show qx ts (m+1+1) (v :: l) i d=_;have q:=h2 (m+1) (by omega);dsimp only at q;rw [qx,q];show yv ts (m+1) v l y j d=_;rw [yv,if_neg (by rw [hl v (by simp)]; decide)]
theorem jao {ts:List Tk}{x y:Ex}{i d j k:Nat}(h:Fin (λn=>yH ts n i d) x j)(h':Fin (λn=>yH ts n (j+1) d) y k):∀ l:List Lev,(∀ v∈l,isM (tk ts k) v.1=false)->(∃ v∈l,isM (tk ts j) v.1=true)->l.Pairwise (λv w=>isM (tk ts j) v.1=true->isM (tk ts j) w.1=false)->Fin (λn=>qx ts n l i d) (yF (tk ts j) x y) k
 | [],_,hx,_=>by obtain ⟨v,hv,_⟩:=hx; simp at hv
 | v :: l,hl,hx,hp=>by
  obtain ⟨hp1,hp2⟩:=List.pairwise_cons.1 hp;have hk:=hl v (by simp);have hl':∀ w∈l,isM (tk ts k) w.1=false:=λw hw=>hl w (by simp [hw]);by_cases hv:isM (tk ts j) v.1=true
  ·obtain ⟨N1,a,a1,a2⟩:=wT h l λw hw=>hp1 w hw hv;obtain ⟨N2,b,b1,b2⟩:=wT h' l hl';obtain ⟨N3,c,c1,c2⟩:=wT h' (v :: l) hl;have un:∀ b,unE b=unE y->unE (yF (tk ts j) a b)=unE (yF (tk ts j) x y):=λb hb=>jg3 rfl a1 hb;by_cases w1:v.2=1
   ·refine ⟨N1+N3+2,yF (tk ts j) a c,un c c1,λn hn=>?_⟩;obtain ⟨m,rfl⟩:∃ m,n=m+2:=⟨n - 2,by omega⟩;show qx ts (m+1+1) (v :: l) i d=_;have q:=a2 (m+1) (by omega);dsimp only at q;rw [qx,q];show yv ts (m+1) v l a j d=_;have c3:=c2 m (by omega);dsimp only at c3;rw [yv,if_pos hv,if_pos w1,c3]
   ·have b3:=λm (hm:N2≤m)=>b2 m hm;by_cases w2:v.2=2
    ·refine ⟨N1+N2+2,yF (tk ts j) a b,un b b1,λn hn=>?_⟩;obtain ⟨m,rfl⟩:∃ m,n=m+2:=⟨n - 2,by omega⟩;show qx ts (m+1+1) (v :: l) i d=_;have q:=a2 (m+1) (by omega);dsimp only at q;rw [qx,q];show yv ts (m+1) v l a j d=_;have q:=b3 m (by omega);dsimp only at q;rw [yv,if_pos hv,if_neg w1,q];show (if v.2=2 then _ else _)=_;rw [if_pos w2]
    ·refine ⟨N1+N2+3,yF (tk ts j) a b,un b b1,λn hn=>?_⟩;obtain ⟨m,rfl⟩:∃ m,n=m+3:=⟨n - 3,by omega⟩;show qx ts (m+1+1+1) (v :: l) i d=_;have q:=a2 (m+1+1) (by omega);dsimp only at q;rw [qx,q];show yv ts (m+1+1) v l a j d=_;have q:=b3 (m+1) (by omega);dsimp only at q;rw [yv,if_pos hv,if_neg w1,q];show (if v.2=2 then _ else _)=_;rw [if_neg w2,yv,if_neg (by rw [hk]; decide)]
  ·obtain ⟨N,z,z1,z2⟩:=jao h h' l hl' (by
    obtain ⟨w,hw,hw2⟩:=hx;rcases Qbe.1 hw with rfl | hw
    ·exact absurd hw2 hv
    ·exact ⟨w,hw,hw2⟩) hp2
   refine ⟨N+2,z,z1,λn hn=>?_⟩;obtain ⟨m,rfl⟩:∃ m,n=m+2:=⟨n - 2,by omega⟩;show qx ts (m+1+1) (v :: l) i d=_;have q:=z2 (m+1) (by omega);dsimp only at q;rw [qx,q];show yv ts (m+1) v l z k d=_;rw [yv,if_neg (by rw [hk]; decide)]
theorem jkV:∀ k,k<17->(q8.any λv=>isC (sgc ((14+k:Nat):Int)) v.1)=true∧q8.Pairwise (λv w=>isC (sgc ((14+k:Nat):Int)) v.1=true->isC (sgc ((14+k:Nat):Int)) w.1=false)∧Yc (sgc ((14+k:Nat):Int)).2.1=some k:=by decide +kernel
theorem jkZ:∀ k,k<9->isC (sgc ((5+k:Nat):Int)) yh=true∧YG (sgc ((5+k:Nat):Int)).2.1=5+k:=by decide +kernel
def gf (x:Ex)(cs:List qe):Prop:=∀ ts i d,At ts i cs->x.kids.length=0->Fin (λn=>yT ts n i d) x (i+cs.length)∧isM (tk ts i) yh=false
def jbW (x:Ex)(cs:List qe):Prop:=∀ ts i d,At ts i cs->d+2 * qI x≤62->Vk (Jf (tk ts (i+cs.length)))=true->Fin (λn=>qx ts n q8 i d) x (i+cs.length)
theorem UF {ts:List Tk}{j:Nat}(h:Vk (Jf (tk ts j))=true):∀ v∈q8,isM (tk ts j) v.1=false:=λv hv=>by
 have:=Qaw.1 h v hv;rw [zS]; simpa using this
theorem jfi {x:Ex}{cs:List qe}(hL:gf x cs)(hT:jbW x cs){ts:List Tk}{i d:Nat}(h:At ts i (inC x cs))(hd:d+2 * qI x≤61):Fin (λn=>yT ts n i d) x (i+(inC x cs).length)∧isM (tk ts i) yh=false:=by
 by_cases c:x.kids.length=0
 ·have e:inC x cs=cs:=by rw [inC,if_pos c]
  rw [e] at h ⊢;exact hL ts i d h c
 ·have e:inC x cs=(3,[40],0) :: (cs ++ [(3,[41],0)]):=by rw [inC,if_neg c]
  rw [e] at h ⊢;obtain ⟨h1,h2⟩:=h;obtain ⟨h3,h4,_⟩:=h2.app;have el:i+((3,[40],0) :: (cs ++ [(3,[41],0)]):List qe).length=i+1+cs.length+1:=by simp; omega
  rw [el];have hd2:2≤qI x:=by
   rw [Qf];cases hk:x.kids with
   | nil=>rw [hk] at c; simp at c
   | cons a l=>
    have e:qN (a :: l)=max (qI a) (qN l):=rfl;have:=Qf a;omega
  obtain ⟨N,y,y1,y2⟩:=hT ts (i+1) (d+1) h3 (by omega) (by rw [h4]; decide);have k1:(tk ts i).kind=3:=congrArg Prod.fst h1;refine ⟨⟨N+1,y,y1,λn hn=>?_⟩,by rw [zS,h1]; decide⟩;obtain ⟨m,rfl⟩:∃ m,n=m+1:=⟨n - 1,by omega⟩;have y3:=y2 m (by omega);dsimp only at y3;show yT ts (m+1) i d=_;rw [yT,if_neg (by omega),if_neg (by omega),if_neg (by rw [zS,h1]; decide),if_neg (by rw [zS,h1]; decide),if_pos (by rw [zS,h1]; decide),if_neg (by omega),y3];show (if isM (tk ts (i+1+cs.length)) [[41]]=true then _ else _)=_;rw [if_pos (by rw [zS,h4]; decide)]
theorem vI {ts:List Tk}{x:Ex}{i d j:Nat}(h:Fin (λn=>yT ts n i d) x j)(k:isM (tk ts i) yh=false):Fin (λn=>yH ts n i d) x j:=h.step λn=>by
 show yH ts (n+1) i d=_;rw [yH,if_neg (by rw [k]; decide)]
theorem jkX {x:Ex}{cs:List qe}(h:Wr x cs):gf x cs∧jbW x cs:=by
 have leaf:∀ {x:Ex} {cs:List qe},x.kids.length=0->gf x cs->gf x cs∧jbW x cs:=λhk hL=>⟨hL,λts i d hA _ hS=>by
  obtain ⟨a,b⟩:=hL ts i d hA hk;exact wT (vI a b) _ (UF hS)⟩
 induction h with
 | num n l c h=>
  refine leaf rfl λts i d hA _=>?_;obtain ⟨h1,_⟩:=hA;have k1:(tk ts i).kind=2:=congrArg Prod.fst h1;have k2:(tk ts i).num=n:=congrArg (λc:qe=>c.2.2) h1;refine ⟨K5 (y:=.mk 1 (tk ts i).num [] [] (tk ts i).line (tk ts i).col) (by simp only [unE,zH,k2]) λm=>?_,by rw [zS,h1]; rfl⟩;show yT ts (m+1) i d=_;rw [yT,if_pos k1]; rfl
 | tru l c=>
  refine leaf rfl λts i d hA _=>?_;obtain ⟨h1,_⟩:=hA;have k1:(tk ts i).kind=4:=congrArg Prod.fst h1;refine ⟨K5 (y:=.mk 2 1 [] [] (tk ts i).line (tk ts i).col) (by simp only [unE,zH]) λm=>?_,by rw [zS,h1]; decide⟩;show yT ts (m+1) i d=_;rw [yT,if_neg (by omega),if_neg (by omega),if_pos (by rw [zS,h1]; decide)]; rfl
 | fal l c=>
  refine leaf rfl λts i d hA _=>?_;obtain ⟨h1,_⟩:=hA;have k1:(tk ts i).kind=4:=congrArg Prod.fst h1;refine ⟨K5 (y:=.mk 2 0 [] [] (tk ts i).line (tk ts i).col) (by simp only [unE,zH]) λm=>?_,by rw [zS,h1]; decide⟩;show yT ts (m+1) i d=_;rw [yT,if_neg (by omega),if_neg (by omega),if_neg (by rw [zS,h1]; decide),if_pos (by rw [zS,h1]; decide)]; rfl
 | name w l c h=>
  refine leaf rfl λts i d hA _=>?_;obtain ⟨h1,_⟩:=hA;have k1:(tk ts i).kind=1:=congrArg Prod.fst h1;have k2:(tk ts i).text=w:=congrArg (λc:qe=>c.2.1) h1;refine ⟨K5 (y:=.mk 3 0 (tk ts i).text [] (tk ts i).line (tk ts i).col) (by simp only [unE,zH,k2]) λm=>?_,by rw [zS,h1]; rfl⟩;show yT ts (m+1) i d=_;rw [yT,if_neg (by omega),if_pos k1]; rfl
 | one op x cs l c h1 h2 h ih=>
  refine ⟨λts i d _ hk=>by simp [Ex.kids] at hk,λts i d hA hd hS=>?_⟩;obtain ⟨k,rfl⟩:∃ k:Nat,op=((5+k:Nat):Int):=⟨(op - 5).toNat,by omega⟩;obtain ⟨o1,o2⟩:=jkZ k (by omega);obtain ⟨a1,a2⟩:=hA;have hdm:qI (.mk ((5+k:Nat):Int) 0 [] [x] l c)=qI x+1:=by
   rw [Qf]; show max (qI x) 0+1=_; omega
  have hd1:=Qf x;have el:i+(sgc ((5+k:Nat):Int) :: inC x cs).length=i+1+(inC x cs).length:=by simp; omega
  rw [el] at hS ⊢;obtain ⟨f1,f2⟩:=jfi ih.1 ih.2 a2 (d:=d+1) (by omega);obtain ⟨N,y,y1,y2⟩:=vI f1 f2;have ot:YG (tk ts i).text=5+k:=by
   have:(tk ts i).text=(sgc ((5+k:Nat):Int)).2.1:=congrArg (λc:qe=>c.2.1) a1;rw [this]; exact o2
  refine wT ⟨N+1,.mk (YG (tk ts i).text:Nat) 0 [] [y] (tk ts i).line (tk ts i).col,by simp only [unE,zH,y1,ot],λn hn=>?_⟩ _ (UF hS);obtain ⟨m,rfl⟩:∃ m,n=m+1:=⟨n - 1,by omega⟩;have y3:=y2 m (by omega);dsimp only at y3;show yH ts (m+1) i d=_;rw [yH,if_pos (by rw [zS,a1]; exact o1),if_neg (by omega),y3]
 | two op x y cs ds l c h1 h2 h k ih ik=>
  refine ⟨λts i d _ hk=>by simp [Ex.kids] at hk,λts i d hA hd hS=>?_⟩;obtain ⟨k,rfl⟩:∃ k:Nat,op=((14+k:Nat):Int):=⟨(op - 14).toNat,by omega⟩;obtain ⟨o1,o2,o3⟩:=jkV k (by omega);obtain ⟨a0,a1,a2⟩:=hA.app;have hdm:qI (.mk ((14+k:Nat):Int) 0 [] [x,y] l c)=max (qI x) (qI y)+1:=by
   rw [Qf]; show max (qI x) (max (qI y) 0)+1=_; omega
  have el:i+(inC x cs ++ sgc ((14+k:Nat):Int) :: inC y ds).length=i+(inC x cs).length+1+(inC y ds).length:=by simp; omega
  rw [el] at hS ⊢;obtain ⟨f1,f2⟩:=jfi ih.1 ih.2 a0 (d:=d) (by omega);obtain ⟨g1,g2⟩:=jfi ik.1 ik.2 a2 (d:=d) (by omega);have T:=jao (vI f1 f2) (vI g1 g2) q8 (UF hS) (by
   obtain ⟨v,hv,hv2⟩:=List.any_eq_true.1 o1;exact ⟨v,hv,by rw [zS,a1]; exact hv2⟩) (o2.imp λ{v w} hvw h=>by
    rw [zS,a1] at h ⊢; exact hvw h)
  obtain ⟨N,z,z1,z2⟩:=T;refine ⟨N,z,?_,z2⟩;rw [z1];have:(tk ts (i+(inC x cs).length)).text=(sgc ((14+k:Nat):Int)).2.1:=congrArg (λc:qe=>c.2.1) a1;unfold yF;rw [this,o3];simp only [unE,zH]
theorem Vx {x:Ex}(h:qZ x=true)(hd:qI x≤30):∃ cs,Lx (j9 x) cs okI∧∀ ts i,At ts i cs->Vk (Jf (tk ts (i+cs.length)))=true->∃ y,zj ts i=.ok y (i+cs.length)∧unE y=unE x:=by
 unfold qZ at h;simp only [Qas,QaV] at h;have hs:=h.1;rw [JK] at hs;simp only [Qas,decide_eq_true_eq] at hs;obtain ⟨⟨cs,w1,w2⟩,_,_⟩:=wo x hs.2 h.2;refine ⟨cs,w2,λts i hA hS=>?_⟩;obtain ⟨N,y,y1,y2⟩:=(jkX w1).2 ts i 0 hA (by omega) hS;refine ⟨y,?_,y1⟩;rw [vX ⟨N,y2⟩];show (if yc 60 y=true then _ else _)=_;rw [if_pos (by rw [jeU y1]; exact h.1)]
end Go.Sy
end
noncomputable section
set_option maxRecDepth 100000
namespace Go.Sy
open Go.Ev Go.Proofs
section
variable {s w:List Nat} {cs ds:List qe} {ok:List Nat->Prop}
theorem jjw (r:List Nat):okS (10 :: r):=by intro c hc; simp at hc; subst hc; decide
theorem Lx.sp (h:Lx s cs ok):Lx (32 :: s) cs ok:=Lx.app (s:=[32]) (cs:=[]) (ok:=okZ) (Lx.gap (.inl rfl)) h λ_ _=>trivial
theorem Lx.nl (h:Lx s cs ok):Lx (10 :: s) cs ok:=Lx.app (s:=[10]) (cs:=[]) (ok:=okZ) (Lx.gap (.inr rfl)) h λ_ _=>trivial
theorem Lx.wsp (k:Lx w ds okI)(h:Lx s cs ok):Lx (w ++ 32 :: s) (ds ++ cs) ok:=k.app h.sp λr _=>uj _
theorem Lx.ssp (k:w∈yz)(h:Lx s cs ok):Lx (w ++ 32 :: s) ((3,w,0) :: cs) ok:=(Lx.signS k).app h.sp λr _=>jda _
theorem Lx.snl (k:w∈yz)(h:Lx s cs ok):Lx (w ++ 10 :: s) ((3,w,0) :: cs) ok:=(Lx.signS k).app h.nl λr _=>jjw _
end
def jS:List (List Nat)->List Nat
 | []=>[]
 | y :: ys=>44 :: 32 :: (y ++ jS ys)
def jT:List (List qe)->List qe
 | []=>[]
 | y :: ys=>(3,[44],0) :: (y ++ jT ys)
theorem jad (x:List Nat):∀ xs,zi (x :: xs)=x ++ jS xs:=by
 intro xs;rw [zi]
 congr 1
 induction xs with
 | nil=>rfl
 | cons y ys ih=>rw [QbQ,ih]; simp [jS]
theorem jjx (r:List Nat):okI (44 :: r):=by intro c hc; simp at hc; subst hc; decide
theorem U8 {α:Type}{f:α->List Nat}{g:α->List qe}:∀ {ps:List α},(∀ p∈ps,Lx (f p) (g p) okI)->Lx (jS (ps.map f)) (jT (ps.map g)) okI∧∀ r,okI r->okI (jS (ps.map f) ++ r)
 | [],_=>⟨Lx.nil,λr h=>h⟩
 | p :: ps,h=>by
  obtain ⟨i1,i2⟩:=U8 (ps:=ps) λq hq=>h q (by simp [hq]);refine ⟨?_,λr _=>jjx _⟩;exact Lx.app (s:=[44]) (cs:=[(3,[44],0)]) (ok:=okZ) (Lx.signA (by simp)) (Lx.sp ((h p (by simp)).app i1 i2)) λ_ _=>trivial
theorem jej {ts:List Tk}:∀ {us:List Tk} {cs:List qe} {pre post:List Tk},us.map Jf=cs->ts=pre ++ us ++ post->At ts pre.length cs
 | [],cs,pre,post,h,e=>by
  simp at h; subst h; trivial
 | u :: us,cs,pre,post,h,e=>by
  cases cs with
  | nil=>simp at h
  | cons c cs=>
   simp only [Qai,List.cons.injEq] at h;have i:=jej (ts:=ts) (us:=us) (cs:=cs) (pre:=pre ++ [u]) (post:=post) h.2 (by rw [e]; simp);refine ⟨?_,by simpa using i⟩;rw [e,tk];simp [QaF,h.1]
theorem jgL {s:List Nat}{cs:List qe}{ok:List Nat->Prop}(h:Lx s cs ok)(hk:ok [])(hl:s.length≤65536):∃ t,(j7 s).2=(0,0,0)∧At (j7 s).1 0 cs∧Jf (tk (j7 s).1 cs.length)=(5,[],0)∧(j7 s).1.length=cs.length+1∧tk (j7 s).1 cs.length=t:=by
 have h0:yr [] (jC (1,1) s)=([⟨5,[],0,(jC (1,1) s).1,(jC (1,1) s).2⟩],(0,0,0)):=by
  have g:jB []=0:=by have:=Y8 []; simpa using this
  refine jfy ?_;rw [g]; rfl
 obtain ⟨us,e1,e2⟩:=h [] (1,1) _ hk h0;rw [Qba] at e2;have ec:j7 s=(us ++ [⟨5,[],0,(jC (1,1) s).1,(jC (1,1) s).2⟩],(0,0,0)):=by
  rw [j7,if_neg (by omega),e2]
 have el:us.length=cs.length:=by rw [←e1,QaN]
 have et:tk (us ++ [⟨5,[],0,(jC (1,1) s).1,(jC (1,1) s).2⟩]) cs.length=⟨5,[],0,(jC (1,1) s).1,(jC (1,1) s).2⟩:=by
  rw [tk,←el]; simp
 refine ⟨_,by rw [ec],?_,?_,?_,rfl⟩
 ·rw [ec]; exact jej (pre:=[]) e1 (by simp; rfl)
 ·rw [ec]; show Jf (tk _ _)=_; rw [et]; rfl
 ·rw [ec]; simp [el]
theorem jk4:Vk (5,[],0)=true:=by decide
theorem kX {x:Ex}(h:qZ x=true)(hd:qI x≤30)(hz:yX x<500):(QO (j9 x)).2=(0,0,0)∧unE (QO (j9 x)).1=unE x:=by
 obtain ⟨cs,L,R⟩:=Vx h hd;have hl:(j9 x).length+2≤40 * yX x:=by
  unfold qZ at h;simp only [Qas,QaV] at h;exact (wo x (qP (by unfold qZ; simp [h])) h.2).len
 obtain ⟨t,c1,c2,c3,c4,_⟩:=jgL L (λc hc=>by simp at hc) (by omega);obtain ⟨y,y1,y2⟩:=R _ 0 c2 (by rw [QaL,c3]; exact jk4);rw [QaL] at y1;have k5:(tk (j7 (j9 x)).1 cs.length).kind=5:=congrArg Prod.fst c3;have:QO (j9 x)=(y,(0,0,0)):=by
  unfold QO;rw [c1,y1];simp [k5]
 rw [this];exact ⟨rfl,y2⟩
end Go.Sy
end
noncomputable section
set_option maxRecDepth 100000
namespace Go.Sy
open Go.Ev Go.Proofs
def It (s kw:List Nat)(P:List Tk->Nat->Nat->Prop):Prop:=∃ cs,Lx s ((4,kw,0) :: cs) okZ∧∀ ts i,At ts i cs->i+cs.length≤ts.length->P ts i (i+cs.length)
theorem Lx.kw {w s:List Nat}{cs:List qe}{ok:List Nat->Prop}(h1:jV (w.getD 0 0)=true)(h2:w.length≤32)(h3:jY qO w=w.length)(h0:w≠[])(hk:wh w=true)(h:Lx s cs ok):Lx (w ++ 32 :: s) ((4,w,0) :: cs) ok:=by
 have:=Lx.letters h1 h2 h3 h0;rw [if_pos hk] at this;exact this.wsp h
theorem yS {t:Tk}{c:qe}(h:Jf t=c):t.kind=c.1:=congrArg Prod.fst h
theorem yC {t:Tk}{c:qe}(h:Jf t=c):t.text=c.2.1:=congrArg (λc:qe=>c.2.1) h
theorem GW {t:Tk}{c:qe}(h:Jf t=c):t.num=c.2.2:=congrArg (λc:qe=>c.2.2) h
theorem yq {t:Tk}{c:qe}(h:Jf t=c){S:List (List Nat)}(k:isC c S=true):isM t S=true:=by rw [zS,h]; exact k
theorem Ym {t:Tk}{c:qe}(h:Jf t=c){S:List (List Nat)}(k:isC c S=false):¬ isM t S=true:=by rw [zS,h,k]; decide
theorem jb8 {ts:List Tk}:∀ (xs:List (List Nat)) (x:List Nat) (n i:Nat) (vs:List (List Nat)),At ts i ((1,x,0) :: (jT (xs.map λy=>[(1,y,0)]) ++ [(3,[125],0)]))->vs.length+xs.length+1≤32->xs.length+1≤n->Qj ts n i vs=.ok (vs ++ x :: xs) (i+(2 * xs.length+2))
 | [],x,n,i,vs,h,h1,h2=>by
  obtain ⟨a1,a2,_⟩:=h;obtain ⟨n,rfl⟩:∃ m,n=m+1:=⟨n - 1,by omega⟩;simp only [Qap] at h1;rw [Qj,if_pos (yS a1),if_neg (by omega),if_neg (Ym a2 (by decide)),if_pos (yq a2 (by decide)),yC a1];rfl
 | y :: ys,x,n,i,vs,h,h1,h2=>by
  obtain ⟨a1,a2,a3⟩:=h;obtain ⟨n,rfl⟩:∃ m,n=m+1:=⟨n - 1,by simp at h2; omega⟩;simp only [Qal] at h1 h2;have ih:=jb8 ys y n (i+2) (vs ++ [x]) a3 (by simp; omega) (by omega);rw [Qj,if_pos (yS a1),if_neg (by omega),if_pos (yq a2 (by decide)),yC a1];show Qj ts n (i+2) (vs ++ [x])=_;rw [ih];simp; omega
theorem jjK {α:Type}{f:α->qe}:∀ xs:List α,(jT (xs.map λy=>[f y])).length=2 * xs.length
 | []=>rfl
 | x :: xs=>by
  have:=jjK (f:=f) xs;simp only [Qai,jT,Qal,Qak,this,Qap];omega
theorem jhB {e:EnumT}{s:List Nat}(h:zT e=some s):It s [101,110,117,109] λts i j=>∃ e',Xs ts i=.ok e' j∧unN e'=unN e:=by
 unfold zT at h;split at h
 ·rename_i hh;obtain ⟨h1,h2,h3,h4⟩:=hh;simp only [Option.some.injEq] at h;subst h;obtain ⟨name,vals,l,c⟩:=e;dsimp only at *;cases vals with
  | nil=>simp at h2
  | cons x xs=>
   have hx:=Qaw.1 h4;obtain ⟨J1,J2⟩:=U8 (f:=λy:List Nat=>y) (g:=λy=>[((1,y,0):qe)]) (ps:=xs) λp hp=>Lx.name (hx p (by simp [hp]));rw [List.map_id'] at J1 J2;have T:Lx (32 :: ([125] ++ 10 :: [])) [(3,[125],0)] okZ:=Lx.sp (Lx.snl (by decide) Lx.nil);refine ⟨(1,name,0) :: (3,[123],0) :: ([(1,x,0)] ++ (jT (xs.map λy=>[((1,y,0):qe)]) ++ [(3,[125],0)])),?_,λts i hA hl=>?_⟩
   ·have e:[101,110,117,109,32] ++ name ++ [32,123,32] ++ zi (x :: xs) ++ [32,125,10]=[101,110,117,109] ++ 32 :: (name ++ 32 :: ([123] ++ 32 :: (x ++ (jS xs ++ 32 :: ([125] ++ 10 :: []))))):=by
     rw [jad]; simp
    rw [e];refine Lx.kw (by decide) (by decide) (by decide) (by decide) (by decide) ((Lx.name h1).wsp (Lx.ssp (by decide) ?_));exact (Lx.name (hx x (by simp))).app (J1.app T λr _=>uj _) λr _=>by
     rw [QaC]; exact J2 _ (uj _)
   ·obtain ⟨a1,a2,a3⟩:=hA;have jl:=jjK (f:=λy:List Nat=>((1,y,0):qe)) xs;simp only [Qal,Qak,jl,Qap] at hl ⊢;have V:=jb8 xs x ts.length (i+2) [] a3 (by simp at h3 ⊢; omega) (by omega);refine ⟨⟨(tk ts i).text,[] ++ x :: xs,(tk ts i).line,(tk ts i).col⟩,?_,by simp only [unN,yC a1,QaG]⟩;rw [Xs,if_pos (yS a1),if_pos (yq a2 (by decide)),V];show SR.ok _ _=SR.ok _ _;have ei:i+2+(2 * xs.length+2)=i+(0+1+(2 * xs.length+(0+1))+1+1):=by omega
    rw [ei]
 ·cases h
theorem jdc {n:Int}(h:Qz n=true):∃ cs,Lx (JQ n) cs okI∧cs.length≤2∧∀ ts i,At ts i cs->QW ts i=.ok n (i+cs.length)∧¬ (tk ts i).kind=1∧¬ isM (tk ts i) [[98,111,111,108]]=true:=by
 unfold Qz at h;simp only [Qas,decide_eq_true_eq] at h;by_cases h0:n<0
 ·obtain ⟨m,hm⟩:∃ m:Nat,n=-(m:Int):=⟨(-n).toNat,by omega⟩;have e:JQ n=[45] ++ zr m:=by
   rw [JQ,if_pos h0];have:(-n).toNat=m:=by omega
   rw [this]; rfl
  obtain ⟨d1,d2,_⟩:=W7 m;refine ⟨[(3,[45],0),(2,zr m,m)],?_,by simp,λts i hA=>?_⟩
  ·rw [e];exact (Lx.signS (by decide)).app (Lx.num (by omega)) λr _=>(kQ d1 d2).ok r
  ·obtain ⟨a1,a2,_⟩:=hA;have k1:=yS a1;have k2:=yS a2;have n2:=GW a2;dsimp only at k1 k2 n2;refine ⟨?_,by omega,Ym a1 (by decide)⟩;rw [QW,if_pos (yq a1 (by decide)),if_pos k2,n2,hm];rfl
 ·obtain ⟨m,hm⟩:∃ m:Nat,n=(m:Int):=⟨n.toNat,by omega⟩;have e:JQ n=zr m:=by
   rw [JQ,if_neg h0,hm]; rfl
  refine ⟨[(2,zr m,m)],by rw [e]; exact Lx.num (by omega),by simp,λts i hA=>?_⟩;obtain ⟨a1,_⟩:=hA;have k1:=yS a1;have n1:=GW a1;dsimp only at k1 n1;have no:∀ S,¬ isM (tk ts i) S=true:=λS=>Ym a1 (by unfold isC; simp);refine ⟨?_,by omega,no _⟩;rw [QW,if_neg (no _),if_pos k1,n1,hm];rfl
theorem ji1 {d:DeclT}{t:List Nat}(h:zQ d=some t):∃ cs,Lx t cs okI∧∀ ts i,At ts i cs->Zg ts i=.ok (d.ty,d.lo,d.hi) (i+cs.length):=by
 unfold zQ at h;split at h
 ·rename_i ht;split at h
  ·rename_i hs;simp only [Option.some.injEq] at h;subst h;obtain ⟨ac,A1,A2,A3⟩:=jdc hs.1;obtain ⟨bc,B1,B2,B3⟩:=jdc hs.2;refine ⟨ac ++ (3,[46,46],0) :: bc,?_,λts i hA=>?_⟩
   ·rw [QaC];exact A1.app ((Lx.signA (w:=[46,46]) (by simp)).app B1 λ_ _=>trivial) λr _=>by intro c hc; simp at hc; subst hc; decide
   ·obtain ⟨a0,a1,a2⟩:=hA.app;obtain ⟨x1,x2,x3⟩:=A3 ts i a0;obtain ⟨y1,_,_⟩:=B3 ts _ a2;rw [Zg,if_neg x3,if_neg x2,x1];show (if isM (tk ts (i+ac.length)) [[46,46]]=true then _ else _)=_;rw [if_pos (yq a1 (by decide)),y1,ht];simp; omega
  ·cases h
 ·rename_i ht;split at h
  ·rename_i hs;obtain ⟨s1,s2,s3⟩:=hs;simp only [Option.some.injEq] at h;subst h;rcases s3 with s3 | s3
   ·refine ⟨[(4,[98,111,111,108],0)],?_,λts i hA=>?_⟩
    ·have:=Lx.letters (w:=[98,111,111,108]) (by decide) (by decide) (by decide) (by decide);rw [if_pos (by decide)] at this;rw [s3]; exact this
    ·obtain ⟨a1,_⟩:=hA;rw [Zg,if_pos (yq a1 (by decide)),s1,s2,s3]; rfl
   ·refine ⟨[(1,d.ty,0)],Lx.name s3,λts i hA=>?_⟩;obtain ⟨a1,_⟩:=hA;rw [Zg,if_neg (Ym a1 (by unfold isC; simp)),if_pos (yS a1),yC a1,s1,s2]; rfl
  ·cases h
theorem jhD {d:DeclT}{s:List Nat}(h:zV d=some s)(hd:ZW d=false):It s [118,97,114] λts i j=>∃ e',Xt ts i=.ok e' j∧unD e'=unD d:=by
 cases ht:zQ d with
 | none=>rw [Ww ht] at h; cases h
 | some t=>
  rw [U5 ht] at h;split at h
  ·rename_i hh;obtain ⟨h1,h2,h3⟩:=hh;simp only [Option.some.injEq] at h;subst h;obtain ⟨tc,T1,T2⟩:=ji1 ht;have hb:∃ bc,Lx (Jh d.begins ++ [59,10]) bc okZ∧(∀ r,okI (Jh d.begins ++ [59,10] ++ r))∧∀ ts i,At ts i bc->∃ bs,Yy ts i=.ok bs (i+bc.length)∧bs.map unE=d.begins.map unE:=by
    cases hb:d.begins with
    | nil=>
     refine ⟨[(3,[59],0)],(Lx.signA (w:=[59]) (by simp)).app (s':=[10]) (cs':=[]) (Lx.nl Lx.nil) λ_ _=>trivial,λr=>by intro c hc; simp [Jh] at hc; subst hc; decide,λts i hA=>?_⟩;obtain ⟨a1,_⟩:=hA;exact ⟨[],by rw [Yy,if_neg (Ym a1 (by decide)),if_pos (yq a1 (by decide))]; rfl,rfl⟩
    | cons x xs=>
     rw [hb] at h1 h3;cases xs with
     | cons y ys=>simp at h1
     | nil=>
      have hw:qZ x=true:=by simpa using h3
      have hdx:qI x≤30:=by
       unfold ZW at hd;rw [hb] at hd;simpa [zU] using hd
      obtain ⟨xc,X1,X2⟩:=Vx hw hdx;refine ⟨(3,[61],0) :: (xc ++ [(3,[59],0)]),?_,λr=>by intro c hc; simp [Jh] at hc; subst hc; decide,λts i hA=>?_⟩
      ·have e:Jh [x] ++ [59,10]=32 :: ([61] ++ 32 :: (j9 x ++ ([59] ++ 10 :: []))):=by simp [Jh]
       rw [e];refine Lx.sp (Lx.ssp (by decide) (X1.app ((Lx.signA (w:=[59]) (by simp)).app (s':=10 :: []) (cs':=[]) (Lx.nl Lx.nil) λ_ _=>trivial) λr _=>?_));intro c hc; simp at hc; subst hc; decide
      ·obtain ⟨a1,a2⟩:=hA;obtain ⟨a3,a4,_⟩:=a2.app;obtain ⟨y,y1,y2⟩:=X2 ts _ a3 (by rw [a4]; decide);refine ⟨[y],?_,by simp [y2]⟩;rw [Yy,if_pos (yq a1 (by decide)),y1];show (if isM (tk ts (i+1+xc.length)) [[59]]=true then _ else _)=_;rw [if_pos (yq a4 (by decide))];simp; omega
   obtain ⟨bc,B1,B2,B3⟩:=hb;refine ⟨(1,d.name,0) :: (3,[58],0) :: (tc ++ bc),?_,λts i hA hl=>?_⟩
   ·have e:[118,97,114,32] ++ d.name ++ [32,58,32] ++ t ++ Jh d.begins ++ [59,10]=[118,97,114] ++ 32 :: (d.name ++ 32 :: ([58] ++ 32 :: (t ++ (Jh d.begins ++ [59,10])))):=by simp
    rw [e];exact Lx.kw (by decide) (by decide) (by decide) (by decide) (by decide) ((Lx.name h2).wsp (Lx.ssp (by decide) (T1.app B1 λr _=>B2 r)))
   ·obtain ⟨a1,a2,a3⟩:=hA;obtain ⟨a4,a5⟩:=a3.app;obtain ⟨bs,b1,b2⟩:=B3 ts _ a5;refine ⟨⟨(tk ts i).text,d.ty,d.lo,d.hi,bs,(tk ts i).line,(tk ts i).col⟩,?_,by simp only [unD,yC a1,b2]⟩;rw [Xt,if_pos (yS a1),if_pos (yq a2 (by decide)),T2 ts _ a4];show (match Yy ts (i+1+1+tc.length) with | .er t=>SR.er t | .ok bs k=>_)=_;rw [b1];show SR.ok _ _=SR.ok _ _;have ei:i+1+1+tc.length+bc.length=i+((1,d.name,0) :: (3,[58],0) :: (tc ++ bc):List qe).length:=by simp; omega
    rw [ei]
  ·cases h
end Go.Sy
end
noncomputable section
set_option maxRecDepth 100000
namespace Go.Sy
open Go.Ev Go.Proofs
structure Aw (a:AsT)(cs:List qe):Prop where
 lx:Lx (j9 a.to) cs okI
 rd:∀ ts i,At ts i cs->Vk (Jf (tk ts (i+cs.length)))=true->∃ y,zj ts i=.ok y (i+cs.length)∧unE y=unE a.to
theorem jla {a:AsT}(h:wt a=true)(hd:zU a.to=false):nm a.name=true∧∃ cs,Aw a cs:=by
 unfold wt at h;simp only [Qas] at h;obtain ⟨cs,h1,h2⟩:=Vx h.2 (by simpa [zU] using hd);exact ⟨h.1,cs,h1,h2⟩
open Classical in
def awC (a:AsT):List qe:=if h:∃ cs,Aw a cs then h.choose else []
theorem jlO {a:AsT}(h:∃ cs,Aw a cs):Aw a (awC a):=by
 unfold awC; rw [dif_pos h]; exact h.choose_spec
def Qi (a:AsT):List qe:=(1,a.name,0) :: (3,[58,61],0) :: awC a
theorem jeb {a:AsT}(h:nm a.name=true)(w:Aw a (awC a)):Lx (zy a) (Qi a) okI:=by
 have e:zy a=a.name ++ 32 :: ([58,61] ++ 32 :: j9 a.to):=by unfold zy; simp
 rw [e];exact (Lx.name h).wsp (Lx.ssp (by decide) w.lx)
theorem UR (y:List qe)(ys:List (List qe)):jT (y :: ys)=(3,[44],0) :: (y ++ jT ys):=rfl
theorem jea {ts:List Tk}:∀ (xs:List AsT) (x:AsT) (n i:Nat) (vs:List AsT),(∀ a∈x :: xs,Aw a (awC a))->At ts i (Qi x ++ (jT (xs.map Qi) ++ [(3,[59],0)]))->vs.length+xs.length+1≤32->xs.length+1≤n->∃ ys,QS ts n i vs=.ok (vs ++ ys) (i+(Qi x ++ (jT (xs.map Qi) ++ [(3,[59],0)])).length)∧ys.map unA=(x :: xs).map unA
 | xs,x,n,i,vs,hw,h,h1,h2=>by
  obtain ⟨n,rfl⟩:∃ m,n=m+1:=⟨n - 1,by omega⟩;obtain ⟨a0,a3⟩:=h.app;obtain ⟨a1,a2,a4⟩:=a0;have al:(Qi x).length=(awC x).length+2:=by simp [Qi]
  cases xs with
  | nil=>
   obtain ⟨b1,_⟩:=a3;simp only [Qap] at h1;have ei:i+1+1+(awC x).length=i+(Qi x).length:=by omega
   obtain ⟨y,y1,y2⟩:=(hw x (by simp)).rd ts (i+1+1) a4 (by rw [ei,b1]; decide);refine ⟨[⟨(tk ts i).text,y,(tk ts i).line,(tk ts i).col⟩],?_,by simp only [Qai,Qam,unA,y2,yC a1]⟩;rw [QS,if_pos (yS a1),if_neg (by omega),if_pos (yq a2 (by decide)),y1];show (if isM (tk ts (i+1+1+(awC x).length)) [[44]]=true then _ else _)=_;rw [ei,if_neg (Ym b1 (by decide)),if_pos (yq b1 (by decide))];show SR.ok _ _=SR.ok _ _;simp only [Qam,jT,QaG,Qak,Qal,Qap,al];rw [show i+((awC x).length+2)+1=i+((awC x).length+2+(0+1)) from by omega]
  | cons z zs=>
   rw [Qai,UR] at a3;obtain ⟨b1,b2⟩:=a3;simp only [Qal] at h1 h2;have ei:i+1+1+(awC x).length=i+(Qi x).length:=by omega
   obtain ⟨y,y1,y2⟩:=(hw x (by simp)).rd ts (i+1+1) a4 (by rw [ei,b1]; decide);have b2:At ts (i+(Qi x).length+1) ((Qi z ++ jT (List.map Qi zs)) ++ [(3,[59],0)]):=b2;rw [QaC] at b2;obtain ⟨ys,r1,r2⟩:=jea zs z n (i+(Qi x).length+1) (vs ++ [⟨(tk ts i).text,y,(tk ts i).line,(tk ts i).col⟩]) (λa ha=>hw a (by simp at ha ⊢; exact .inr ha)) b2 (by simp; omega) (by omega);refine ⟨⟨(tk ts i).text,y,(tk ts i).line,(tk ts i).col⟩ :: ys,?_,?_⟩
   ·rw [QS,if_pos (yS a1),if_neg (by omega),if_pos (yq a2 (by decide)),y1];show (if isM (tk ts (i+1+1+(awC x).length)) [[44]]=true then _ else _)=_;rw [ei,if_pos (yq b1 (by decide)),r1];show SR.ok _ _=SR.ok _ _;rw [QaC,QbN]
    congr 1
    simp only [Qai,UR,Qak,Qal,Qap];omega
   ·rw [Qai,r2];simp only [Qai,unA,y2,yC a1]
theorem jgp:∀ xs:List (List qe),xs.length≤(jT xs).length
 | []=>QaT _
 | z :: zs=>by
  have:=jgp zs;rw [UR]; simp only [Qal,Qak]; omega
theorem jg8 {r:RuleT}{s:List Nat}(h:zw r=some s)(hd:YO r=false):It s [119,104,101,110] λts i j=>∃ r',Xi ts i=.ok r' j∧unR r'=unR r:=by
 unfold zw at h;split at h
 ·rename_i hh;obtain ⟨h1,h2,h3,h4⟩:=hh;simp only [Option.some.injEq] at h;subst h;obtain ⟨w,acts⟩:=r;unfold YO at hd;simp only [Qbj] at hd;obtain ⟨hd1,hd2⟩:=hd;dsimp only at *;obtain ⟨wc,W1,W2⟩:=Vx h1 (by simpa [zU] using hd1);cases acts with
  | nil=>simp at h2
  | cons x xs=>
   have hx:∀ a∈x :: xs,nm a.name=true∧Aw a (awC a):=λa ha=>by
    obtain ⟨n1,n2⟩:=jla (Qaw.1 h4 a ha) (Qco.1 hd2 a ha |> λh=>by simpa using h);exact ⟨n1,jlO n2⟩
   obtain ⟨J1,J2⟩:=U8 (f:=zy) (g:=Qi) (ps:=xs) λp hp=>jeb (hx p (by simp [hp])).1 (hx p (by simp [hp])).2;have T:Lx ([59] ++ 10 :: []) [(3,[59],0)] okZ:=(Lx.signA (w:=[59]) (by simp)).app (s':=10 :: []) (cs':=[]) (Lx.nl Lx.nil) λ_ _=>trivial;refine ⟨wc ++ (4,[100,111],0) :: (Qi x ++ (jT (xs.map Qi) ++ [(3,[59],0)])),?_,λts i hA hl=>?_⟩
   ·have e:[32,32,119,104,101,110,32] ++ j9 w ++ [32,100,111,32] ++ zi ((x :: xs).map zy) ++ [59,10]=32 :: 32 :: ([119,104,101,110] ++ 32 :: (j9 w ++ 32 :: ([100,111] ++ 32 :: (zy x ++ (jS (xs.map zy) ++ ([59] ++ 10 :: [])))))):=by
     rw [Qai,jad]; simp
    rw [e];refine Lx.sp (Lx.sp (Lx.kw (by decide) (by decide) (by decide) (by decide) (by decide) (W1.wsp (Lx.kw (by decide) (by decide) (by decide) (by decide) (by decide) ?_))));have o59:∀ r,okI ([59] ++ 10 :: [] ++ r):=λr=>by intro c hc; simp at hc; subst hc; decide
    exact (jeb (hx x (by simp)).1 (hx x (by simp)).2).app (J1.app T λr _=>o59 r) λr _=>by
     rw [QaC]; exact J2 _ (o59 r)
   ·obtain ⟨a0,a1,a2⟩:=hA.app;obtain ⟨y,y1,y2⟩:=W2 ts i a0 (by rw [a1]; decide);have hle:=jgp (xs.map Qi);rw [QaN] at hle;obtain ⟨ys,r1,r2⟩:=jea xs x ts.length (i+wc.length+1) [] (λa ha=>(hx a ha).2) a2 (by simp at h3 ⊢; omega) (by simp at hl; omega);refine ⟨⟨y,ys⟩,?_,by simp only [unR,y2,r2]⟩;rw [Xi,y1];show (if isM (tk ts (i+wc.length)) [[100,111]]=true then _ else _)=_;rw [if_pos (yq a1 (by decide)),r1];show SR.ok _ _=SR.ok _ _;rw [QaG]
    congr 1
    simp only [Qak,Qal];omega
 ·cases h
theorem its {α β:Type}{f:α->Option (List Nat)}{kw:List Nat}{P:α->List Tk->Nat->Nat->Prop}:∀ {xs:List α} {t:List Nat},qF (xs.map f)=some t->(∀ x∈xs,∀ s,f x=some s->It s kw (P x))->∃ cc:List (List qe),cc.length=xs.length∧Lx t (cc.flatMap λc=>(4,kw,0) :: c) okZ∧∀ k (h1:k<xs.length) (h2:k<cc.length),∀ ts i,At ts i cc[k]->i+cc[k].length≤ts.length->P xs[k] ts i (i+cc[k].length)
 | [],t,h,_=>⟨[],rfl,by simp [qF] at h; subst h; exact Lx.nil,λk h1=>by simp at h1⟩
 | x :: xs,t,h,hi=>by
  rw [Qai] at h;cases hx:f x with
  | none=>rw [hx] at h; simp [qF] at h
  | some a=>
   rw [hx,qF] at h;cases hc:qF (xs.map f) with
   | none=>rw [hc] at h; simp at h
   | some b=>
    rw [hc] at h;simp at h;obtain ⟨c,c1,c2⟩:=hi x (by simp) a hx;obtain ⟨cc,e1,e2,e3⟩:=its (α:=α) (β:=β) hc λy hy=>hi y (by simp [hy]);refine ⟨c :: cc,by simp [e1],?_,λk h1 h2=>?_⟩
    ·rw [←h,QbQ];exact c1.app e2 λ_ _=>trivial
    ·cases k with
     | zero=>exact c2
     | succ k=>exact e3 k (by simpa using h1) (by simpa using h2)
end Go.Sy
end
noncomputable section
set_option maxRecDepth 100000
namespace Go.Sy
open Go.Ev Go.Proofs
def fl4 (kw:List Nat):List (List qe)->List qe
 | []=>[]
 | c :: cc=>(4,kw,0) :: (c ++ fl4 kw cc)
theorem GB (kw:List Nat):∀ cc,(cc.flatMap λc=>(4,kw,0) :: c)=fl4 kw cc
 | []=>rfl
 | c :: cc=>by rw [QbQ,GB kw cc]; rfl
theorem wS (kw:List Nat):∀ cc,cc.length≤(fl4 kw cc).length
 | []=>QaT _
 | c :: cc=>by
  have:=wS kw cc;simp only [fl4,Qal,Qak]; omega
theorem HT {ts:List Tk}:∀ (xs:List RuleT) (cc:List (List qe)) (n i:Nat) (vs:List RuleT),cc.length=xs.length->(∀ k (h1:k<xs.length) (h2:k<cc.length),∀ ts i,At ts i cc[k]->i+cc[k].length≤ts.length->∃ r',Xi ts i=.ok r' (i+cc[k].length)∧unR r'=unR xs[k])->At ts i (fl4 [119,104,101,110] cc ++ [(3,[125],0)])->i+(fl4 [119,104,101,110] cc).length≤ts.length->vs.length+xs.length≤32->xs.length+1≤n->∃ rs,z8 ts n i vs=.ok (vs ++ rs) (i+(fl4 [119,104,101,110] cc).length+1)∧rs.map unR=xs.map unR
 | [],cc,n,i,vs,hc,hr,h,hl,h1,h2=>by
  cases cc with
  | cons c cc=>simp at hc
  | nil=>
   obtain ⟨n,rfl⟩:∃ m,n=m+1:=⟨n - 1,by omega⟩;obtain ⟨a1,_⟩:=h;refine ⟨[],?_,rfl⟩;rw [z8,if_neg (Ym a1 (by decide)),if_pos (yq a1 (by decide)),Qba];rfl
 | x :: xs,cc,n,i,vs,hc,hr,h,hl,h1,h2=>by
  cases cc with
  | nil=>simp at hc
  | cons c cc=>
   obtain ⟨n,rfl⟩:∃ m,n=m+1:=⟨n - 1,by omega⟩;simp only [Qal] at h1 h2 hc;have h:At ts i ((4,[119,104,101,110],0) :: ((c ++ fl4 [119,104,101,110] cc) ++ [(3,[125],0)])):=h;obtain ⟨a1,a2⟩:=h;rw [QaC] at a2;obtain ⟨a3,a4⟩:=a2.app;simp only [fl4,Qal,Qak] at hl;obtain ⟨r',r1,r2⟩:=hr 0 (by simp) (by simp) ts (i+1) a3 (by show i+1+c.length≤_; omega);obtain ⟨rs,s1,s2⟩:=HT xs cc n (i+1+c.length) (vs ++ [r']) (by omega) (λk k1 k2=>hr (k+1) (by simpa using k1) (by simpa using k2)) a4 (by omega) (by simp; omega) (by omega);refine ⟨r' :: rs,?_,by rw [Qai,s2]; exact congrArg (· :: _) r2⟩;rw [z8,if_pos (yq a1 (by decide)),if_neg (by omega),r1];show z8 ts n (i+1+c.length) (vs ++ [r'])=_;rw [s1];show SR.ok _ _=SR.ok _ _;rw [QaC,QbN]
   congr 1
   simp only [fl4,Qak,Qal];omega
theorem jhm {p:ProcT}{s:List Nat}(h:Jb p=some s)(hd:YP p=false):It s [112,114,111,99,101,115,115] λts i j=>∃ p',Xk ts i=.ok p' j∧unP p'=unP p:=by
 unfold Jb at h;split at h
 ·rename_i hh;obtain ⟨h1,h2⟩:=hh;cases hc:qF (p.rules.map zw) with
  | none=>rw [hc] at h; cases h
  | some t=>
   rw [hc] at h;simp only [Option.some.injEq] at h;subst h;obtain ⟨cc,c1,c2,c3⟩:=its (β:=Nat) hc (P:=λr ts i j=>∃ r',Xi ts i=.ok r' j∧unR r'=unR r) λr hr s hs=>jg8 hs (by
    unfold YP at hd;have:=Qco.1 hd r hr;simpa using this)
   rw [GB] at c2;have cl:=wS [119,104,101,110] cc;refine ⟨(1,p.name,0) :: (3,[123],0) :: (fl4 [119,104,101,110] cc ++ [(3,[125],0)]),?_,λts i hA hl=>?_⟩
   ·have e:[112,114,111,99,101,115,115,32] ++ p.name ++ [32,123,10] ++ t ++ [125,10]=[112,114,111,99,101,115,115] ++ 32 :: (p.name ++ 32 :: ([123] ++ 10 :: (t ++ ([125] ++ 10 :: [])))):=by simp
    rw [e];exact Lx.kw (by decide) (by decide) (by decide) (by decide) (by decide) ((Lx.name h1).wsp (Lx.snl (by decide) (c2.app (Lx.snl (by decide) Lx.nil) λ_ _=>trivial)))
   ·obtain ⟨a1,a2,a3⟩:=hA;simp only [Qal,Qak,Qap] at hl;obtain ⟨rs,r1,r2⟩:=HT p.rules cc ts.length (i+1+1) [] c1 c3 a3 (by omega) (by simp; omega) (by omega);refine ⟨⟨(tk ts i).text,rs,(tk ts i).line,(tk ts i).col⟩,?_,by simp only [unP,yC a1,r2]⟩;have r1:z8 ts ts.length (i+2) []=_:=r1;rw [Xk,if_pos (yS a1),if_pos (yq a2 (by decide)),r1];show SR.ok _ _=SR.ok _ _;rw [QaG]
    congr 1
    simp only [Qak,Qal,Qap];omega
 ·cases h
section
variable {ts:List Tk}
theorem jcG:∀ (xs:List EnumT) (cc:List (List qe)) (n i:Nat) (m:SrcT) (rest:List qe),cc.length=xs.length->(∀ k (h1:k<xs.length) (h2:k<cc.length),∀ ts i,At ts i cc[k]->i+cc[k].length≤ts.length->∃ r',Xs ts i=.ok r' (i+cc[k].length)∧unN r'=unN xs[k])->At ts i (fl4 [101,110,117,109] cc ++ rest)->i+(fl4 [101,110,117,109] cc).length≤ts.length->m.enums.length+xs.length≤32->∃ rs,yU ts (n+xs.length) i m=yU ts n (i+(fl4 [101,110,117,109] cc).length) { m with enums:=m.enums ++ rs }∧rs.map unN=xs.map unN
 | [],cc,n,i,m,rest,hc,hr,h,hl,h1=>by
  cases cc with
  | cons c cc=>simp at hc
  | nil=>exact ⟨[],by simp [fl4],rfl⟩
 | x :: xs,cc,n,i,m,rest,hc,hr,h,hl,h1=>by
  cases cc with
  | nil=>simp at hc
  | cons c cc=>
   simp only [Qal] at h1 hc;have h:At ts i ((4,[101,110,117,109],0) :: ((c ++ fl4 [101,110,117,109] cc) ++ rest)):=h;obtain ⟨a1,a2⟩:=h;rw [QaC] at a2;obtain ⟨a3,a4⟩:=a2.app;simp only [fl4,Qal,Qak] at hl;obtain ⟨r',r1,r2⟩:=hr 0 (by simp) (by simp) ts (i+1) a3 (by show i+1+c.length≤_; omega);obtain ⟨rs,s1,s2⟩:=jcG xs cc n (i+1+c.length) { m with enums:=m.enums ++ [r'] } rest (by omega) (λk k1 k2=>hr (k+1) (by simpa using k1) (by simpa using k2)) a4 (by omega) (by simp; omega);refine ⟨r' :: rs,?_,by rw [Qai,s2]; exact congrArg (· :: _) r2⟩;show yU ts (n+xs.length+1) i m=_;rw [Vl,if_pos (yq a1 (by decide)),if_pos (yC a1),if_neg (by omega),r1];show yU ts (n+xs.length) (i+1+c.length) { m with enums:=m.enums ++ [r'] }=_;rw [s1];simp only [fl4,Qak,Qal,QaC,QbN]
   congr 1
   omega
theorem jcH:∀ (xs:List DeclT) (cc:List (List qe)) (n i:Nat) (m:SrcT) (rest:List qe),cc.length=xs.length->(∀ k (h1:k<xs.length) (h2:k<cc.length),∀ ts i,At ts i cc[k]->i+cc[k].length≤ts.length->∃ r',Xt ts i=.ok r' (i+cc[k].length)∧unD r'=unD xs[k])->At ts i (fl4 [118,97,114] cc ++ rest)->i+(fl4 [118,97,114] cc).length≤ts.length->m.vars.length+xs.length≤32->∃ rs,yU ts (n+xs.length) i m=yU ts n (i+(fl4 [118,97,114] cc).length) { m with vars:=m.vars ++ rs }∧rs.map unD=xs.map unD
 | [],cc,n,i,m,rest,hc,hr,h,hl,h1=>by
  cases cc with
  | cons c cc=>simp at hc
  | nil=>exact ⟨[],by simp [fl4],rfl⟩
 | x :: xs,cc,n,i,m,rest,hc,hr,h,hl,h1=>by
  cases cc with
  | nil=>simp at hc
  | cons c cc=>
   simp only [Qal] at h1 hc;have h:At ts i ((4,[118,97,114],0) :: ((c ++ fl4 [118,97,114] cc) ++ rest)):=h;obtain ⟨a1,a2⟩:=h;rw [QaC] at a2;obtain ⟨a3,a4⟩:=a2.app;simp only [fl4,Qal,Qak] at hl;obtain ⟨r',r1,r2⟩:=hr 0 (by simp) (by simp) ts (i+1) a3 (by show i+1+c.length≤_; omega);obtain ⟨rs,s1,s2⟩:=jcH xs cc n (i+1+c.length) { m with vars:=m.vars ++ [r'] } rest (by omega) (λk k1 k2=>hr (k+1) (by simpa using k1) (by simpa using k2)) a4 (by omega) (by simp; omega);refine ⟨r' :: rs,?_,by rw [Qai,s2]; exact congrArg (· :: _) r2⟩;show yU ts (n+xs.length+1) i m=_;rw [Vl,if_pos (yq a1 (by decide)),if_neg (by rw [yC a1]; decide),if_pos (yC a1),if_neg (by omega),r1];show yU ts (n+xs.length) (i+1+c.length) { m with vars:=m.vars ++ [r'] }=_;rw [s1];simp only [fl4,Qak,Qal,QaC,QbN]
   congr 1
   omega
theorem jcF:∀ (xs:List ProcT) (cc:List (List qe)) (n i:Nat) (m:SrcT) (rest:List qe),cc.length=xs.length->(∀ k (h1:k<xs.length) (h2:k<cc.length),∀ ts i,At ts i cc[k]->i+cc[k].length≤ts.length->∃ r',Xk ts i=.ok r' (i+cc[k].length)∧unP r'=unP xs[k])->At ts i (fl4 [112,114,111,99,101,115,115] cc ++ rest)->i+(fl4 [112,114,111,99,101,115,115] cc).length≤ts.length->m.procs.length+xs.length≤32->∃ rs,yU ts (n+xs.length) i m=yU ts n (i+(fl4 [112,114,111,99,101,115,115] cc).length) { m with procs:=m.procs ++ rs }∧rs.map unP=xs.map unP
 | [],cc,n,i,m,rest,hc,hr,h,hl,h1=>by
  cases cc with
  | cons c cc=>simp at hc
  | nil=>exact ⟨[],by simp [fl4],rfl⟩
 | x :: xs,cc,n,i,m,rest,hc,hr,h,hl,h1=>by
  cases cc with
  | nil=>simp at hc
  | cons c cc=>
   simp only [Qal] at h1 hc;have h:At ts i ((4,[112,114,111,99,101,115,115],0) :: ((c ++ fl4 [112,114,111,99,101,115,115] cc) ++ rest)):=h;obtain ⟨a1,a2⟩:=h;rw [QaC] at a2;obtain ⟨a3,a4⟩:=a2.app;simp only [fl4,Qal,Qak] at hl;obtain ⟨r',r1,r2⟩:=hr 0 (by simp) (by simp) ts (i+1) a3 (by show i+1+c.length≤_; omega);obtain ⟨rs,s1,s2⟩:=jcF xs cc n (i+1+c.length) { m with procs:=m.procs ++ [r'] } rest (by omega) (λk k1 k2=>hr (k+1) (by simpa using k1) (by simpa using k2)) a4 (by omega) (by simp; omega);refine ⟨r' :: rs,?_,by rw [Qai,s2]; exact congrArg (· :: _) r2⟩;show yU ts (n+xs.length+1) i m=_;rw [Vl,if_pos (yq a1 (by decide)),if_neg (by rw [yC a1]; decide),if_neg (by rw [yC a1]; decide),if_neg (by omega),r1];show yU ts (n+xs.length) (i+1+c.length) { m with procs:=m.procs ++ [r'] }=_;rw [s1];simp only [fl4,Qak,Qal,QaC,QbN]
   congr 1
   omega
end
theorem jeE {m:SrcT}{s:List Nat}(h:JO m=some s)(hd:JT m=false)(hl:s.length≤65536):(Zi s).2=(0,0,0)∧unS (Zi s).1=unS m:=by
 unfold JO at h;split at h
 ·rename_i h0;cases ha:qF (m.enums.map zT) with
  | none=>rw [ha] at h; simp at h
  | some a=>
   cases hb:qF (m.vars.map zV) with
   | none=>rw [ha,hb] at h; simp at h
   | some b=>
    cases hc:qF (m.procs.map Jb) with
    | none=>rw [ha,hb,hc] at h; simp at h
    | some c=>
     rw [ha,hb,hc] at h;simp only [Option.some.injEq] at h;subst h;unfold JT at hd;simp only [Qbj] at hd;obtain ⟨d1,d2⟩:=hd;obtain ⟨ea,a1,a2,a3⟩:=its (β:=Nat) ha (P:=λr ts i j=>∃ r',Xs ts i=.ok r' j∧unN r'=unN r) λr hr s hs=>jhB hs;obtain ⟨eb,b1,b2,b3⟩:=its (β:=Nat) hb (P:=λr ts i j=>∃ r',Xt ts i=.ok r' j∧unD r'=unD r) λr hr s hs=>jhD hs (by
      have:=Qco.1 d1 r hr;simpa using this)
     obtain ⟨ec,c1,c2,c3⟩:=its (β:=Nat) hc (P:=λr ts i j=>∃ r',Xk ts i=.ok r' j∧unP r'=unP r) λr hr s hs=>jhm hs (by
      have:=Qco.1 d2 r hr;simpa using this)
     rw [GB] at a2 b2 c2;have L:=(a2.app b2 λ_ _=>trivial).app c2 λ_ _=>trivial;obtain ⟨t,t1,t2,t3,t4,_⟩:=jgL L trivial hl;have e:Zi (a ++ b ++ c)=(if (j7 (a ++ b ++ c)).2.1≠0 then (Qw,(j7 (a ++ b ++ c)).2) else match yU (j7 (a ++ b ++ c)).1 (j7 (a ++ b ++ c)).1.length 0 Qw with
      | .er t=>(Qw,(151,t.line,t.col))
      | .ok m j=>(m,(0,0,0))):=rfl
     rw [e,t1,if_neg (by decide)];clear e
     revert t2 t3 t4
     generalize (j7 (a ++ b ++ c)).1=ts;intro t2 t3 t4;simp only [Qak] at t3 t4;have n1:=wS [101,110,117,109] ea;have n2:=wS [118,97,114] eb;have n3:=wS [112,114,111,99,101,115,115] ec;obtain ⟨h1,h2,h3⟩:=h0;rw [QaC] at t2;obtain ⟨_,t5⟩:=t2.app;obtain ⟨_,t6⟩:=t5.app;obtain ⟨n,hn⟩:∃ n,ts.length=n+1+m.procs.length+m.vars.length+m.enums.length:=⟨ts.length - (1+m.procs.length+m.vars.length+m.enums.length),by omega⟩;obtain ⟨es,e1,e2⟩:=jcG m.enums ea (n+1+m.procs.length+m.vars.length) 0 Qw _ a1 a3 t2 (by omega) (by show 0+_≤_; omega);obtain ⟨vs,v1,v2⟩:=jcH m.vars eb (n+1+m.procs.length) _ { Qw with enums:=Qw.enums ++ es } _ b1 b3 t5 (by omega) (by show 0+_≤_; omega);obtain ⟨ps,p1,p2⟩:=jcF m.procs ec (n+1) _ { { Qw with enums:=Qw.enums ++ es } with vars:=Qw.vars ++ vs } [] c1 c3 (by rw [Qba]; exact t6) (by omega) (by show 0+_≤_; omega);have ez:0+(fl4 [101,110,117,109] ea).length+(fl4 [118,97,114] eb).length+(fl4 [112,114,111,99,101,115,115] ec).length=(fl4 [101,110,117,109] ea).length+(fl4 [118,97,114] eb).length+(fl4 [112,114,111,99,101,115,115] ec).length:=by omega
     have k5:=yS t3;have fin:yU ts ts.length 0 Qw=.ok ⟨es,vs,ps⟩ ((fl4 [101,110,117,109] ea).length+(fl4 [118,97,114] eb).length+(fl4 [112,114,111,99,101,115,115] ec).length):=by
      rw [hn,e1];refine v1.trans (p1.trans ?_);rw [Vl,ez,if_neg (Ym t3 (by decide)),if_pos k5];rfl
     rw [fin];exact ⟨rfl,by simp only [unS,e2,v2,p2]⟩
 ·cases h
end Go.Sy
end
noncomputable section
set_option maxRecDepth 100000
namespace Go.Sy
open Go.Ev Go.Proofs
def zL4:XC:=(.seq (.ops [(oO 2 (.box (.t 0))),(oO 3 (.box (.t 1))),(oO 4 (.mv (.c (.bool false))))]) (.seq (.seq (.ops [(oc 11 8 []),(oO 12 (.un .not (.t 11)))]) (.cond (.t 12) (.seq (.ops [(oO 4 (.mv (.c (.bool false))))]) .ret) .skip)) (.seq (.seq (.ops [(oo 13 (.ldA 6 (.t 2))),(oc 14 12 [(.t 13)]),(ot 15 14),(og 16 15 (.ldA 6 (.t 2))),⟨(some 17),false,(some (15,true)),(.call (.c (.fn 13 [])) [(.t 16)])⟩,(og 18 15 (.bin .lss (.t 17) (.c (.int .i64 500)))),(oo 19 (.pick (.t 15) (.t 18) (.c (.bool false)))),(ot 20 19),(og 21 20 (.ldA 6 (.t 2))),⟨(some 22),false,(some (20,true)),(.call (.c (.fn 14 [])) [(.t 21)])⟩,(og 23 20 (.bin .leq (.t 22) (.c (.int .i64 30)))),(oO 24 (.pick (.t 20) (.t 23) (.c (.bool false))))]) (.cond (.t 24) (.seq (.ops [(oo 26 (.ldA 6 (.t 2))),(oc 27 16 [(.t 26)]),(oc 28 15 [(.t 27)]),(ot 25 28),(oo 29 (.ext (.t 25) 0)),(oo 30 (.ext (.t 25) 1)),(oO 5 (.alloc [(.int .i64 0),(.int .i64 0),(.str []),.nils,(.int .i64 0),(.int .i64 0)])),(oO 6 (.alloc [(.int .i64 0),(.int .i64 0),(.int .i64 0)])),(os (.st 6 (.t 5) (.t 29))),(os (.st 3 (.t 6) (.t 30)))]) (.seq (.ops [(oo 31 (.ldA 3 (.t 6))),(oo 32 (.build [(.int .i64 0),(.int .i64 0),(.int .i64 0)] [])),(oo 33 (.gen .neq 30 false (.t 31) (.t 32))),(ot 34 33),(oh 35 34 (.ldA 6 (.t 2))),(oh 36 34 (.ldA 6 (.t 5))),⟨(some 37),false,(some (34,false)),(.call (.c (.fn 17 [])) [(.t 35),(.t 36)])⟩,(oh 38 34 (.un .not (.t 37))),(oO 39 (.pick (.t 34) (.c (.bool true)) (.t 38)))]) (.cond (.t 39) (.seq (.ops [(oO 4 (.mv (.c (.bool false))))]) .ret) .skip))) .skip)) (.seq (.ops [(oo 41 (.ldA 3 (.t 3))),(oc 42 18 [(.t 41)]),(ot 40 42),(oo 43 (.ext (.t 40) 0)),(oo 44 (.ext (.t 40) 1)),(oT 7 43),(oT 8 44)]) (.seq (.seq (.ops [(ot 45 8),(oo 46 (.bin .neq (.t 45) (.c (.int .i64 0)))),(ot 47 46),(oh 48 47 (.mv (.t 7))),(oh 49 47 (.lenS (.t 48))),(oh 50 47 (.bin .gtr (.t 49) (.c (.int .i64 9000)))),(oo 51 (.pick (.t 47) (.c (.bool true)) (.t 50))),(ot 52 51),(oh 53 52 (.ldA 3 (.t 3))),⟨(some 54),false,(some (52,false)),(.call (.c (.fn 19 [])) [(.t 53)])⟩,(oO 55 (.pick (.t 52) (.c (.bool true)) (.t 54)))]) (.cond (.t 55) (.seq (.ops [(oO 4 (.mv (.c (.bool true))))]) .ret) .skip)) (.seq (.ops [(ot 57 7),(oc 58 9 [(.t 57)]),(ot 56 58),(oo 59 (.ext (.t 56) 0)),(oo 60 (.ext (.t 56) 1)),(oO 9 (.alloc [.nils,.nils,.nils])),(oO 10 (.alloc [(.int .i64 0),(.int .i64 0),(.int .i64 0)])),(os (.st 3 (.t 9) (.t 59))),(os (.st 3 (.t 10) (.t 60)))]) (.seq (.ops [(oo 61 (.ldA 3 (.t 10))),(oo 62 (.build [(.int .i64 0),(.int .i64 0),(.int .i64 0)] [])),(oo 63 (.gen .eql 30 false (.t 61) (.t 62))),(ot 64 63),(og 65 64 (.ldA 3 (.t 9))),(og 66 64 (.ldA 3 (.t 3))),⟨(some 67),false,(some (64,true)),(.call (.c (.fn 20 [])) [(.t 65),(.t 66)])⟩,(oo 68 (.pick (.t 64) (.t 67) (.c (.bool false)))),(oT 4 68)]) .ret)))))))
def yL4:XF:=⟨[0,1],zL4,[(.t 4)]⟩
theorem xL4:ju Qaf 4=some yL4:=by kernel_rfl
end Go.Sy
end
noncomputable section
set_option maxRecDepth 100000
namespace Go.Sy
open Go.Ev Go.Proofs
variable {base:Bs}
theorem jgE (a b c d e f:Int):(eqF Qaf 20 30).run (.agg [.int .i64 a,.int .i64 b,.int .i64 c]) (.agg [.int .i64 d,.int .i64 e,.int .i64 f])=some (decide (a=d∧b=e∧c=f)):=by
 have h:(eqF Qaf 20 30).run (.agg [.int .i64 a,.int .i64 b,.int .i64 c]) (.agg [.int .i64 d,.int .i64 e,.int .i64 f])=cond (eqI a d) (cond (eqI b e) (cond (eqI c f) (some true) (some false)) (some false)) (some false):=by kernel_rfl
 rw [h,QE,QE,QE];by_cases h1:a=d <;> by_cases h2:b=e <;> by_cases h3:c=f <;> simp [h1,h2,h3]
theorem GD (a b c d e f:Int)(st:St)(K:AV->St->Prop):jf (Zw Qaf .eql 30 false (.agg [.int .i64 a,.int .i64 b,.int .i64 c]) (.agg [.int .i64 d,.int .i64 e,.int .i64 f]) st) K=K (.bool (decide (a=d∧b=e∧c=f))) st:=by
 have h:Zw Qaf .eql 30 false (.agg [.int .i64 a,.int .i64 b,.int .i64 c]) (.agg [.int .i64 d,.int .i64 e,.int .i64 f]) st=jJ ((eqF Qaf 20 30).run (.agg [.int .i64 a,.int .i64 b,.int .i64 c]) (.agg [.int .i64 d,.int .i64 e,.int .i64 f])) λb=>.ok (.bool b) st:=by kernel_rfl
 rw [h,jgE];simp [jJ,jf]
theorem GC (a b c d e f:Int)(st:St)(K:AV->St->Prop):jf (Zw Qaf .neq 30 false (.agg [.int .i64 a,.int .i64 b,.int .i64 c]) (.agg [.int .i64 d,.int .i64 e,.int .i64 f]) st) K=K (.bool (decide (¬ (a=d∧b=e∧c=f)))) st:=by
 have h:Zw Qaf .neq 30 false (.agg [.int .i64 a,.int .i64 b,.int .i64 c]) (.agg [.int .i64 d,.int .i64 e,.int .i64 f]) st=jJ ((eqF Qaf 20 30).run (.agg [.int .i64 a,.int .i64 b,.int .i64 c]) (.agg [.int .i64 d,.int .i64 e,.int .i64 f])) λb=>.ok (.bool (cond b false true)) st:=by kernel_rfl
 rw [h,jgE];by_cases hh:a=d∧b=e∧c=f <;> simp [hh,jJ,jf]
theorem JY {α:Type}{f:α->Nat}:∀ {l:List α} {x:α},x∈l->f x≤(l.map f).sum
 | y :: l,x,h=>by
  rw [Qai,List.sum_cons];rcases Qbe.1 h with rfl | h
  ·omega
  ·have:=JY (f:=f) h; omega
theorem JZ {α:Type}{f:α->Nat}(hf:∀ x,1≤f x):∀ l:List α,l.length≤(l.map f).sum
 | []=>QaT _
 | y :: l=>by
  rw [Qai,List.sum_cons,Qal];have:=JZ hf l;have:=hf y;omega
theorem jcD {xs:List Ex}{x:Ex}(h:x∈xs):szE x≤ya xs:=by rw [←Je]; exact JY h
theorem jeD (xs:List Ex):xs.length≤ya xs:=by rw [←Je]; exact JZ UE xs
theorem jgV {m:SrcT}(h:szS m≤1048576):WrS m:=by
 unfold szS at h;have hB:(1048576:Nat)≤BIG:=by decide
 have l1:=JZ (f:=szN) (λe=>by unfold szN; omega) m.enums;have l2:=JZ (f:=szD) (λe=>by unfold szD; omega) m.vars;have l3:=JZ (f:=szP) (λe=>by unfold szP; omega) m.procs;refine ⟨by omega,λe he=>?_,by omega,λd hd=>?_,by omega,λp hp=>?_⟩
 ·have h0:=JY (f:=szN) he;have e0:szN e=e.name.length+(e.vals.map szV).sum+1:=rfl;have lv:=JZ (f:=szV) (λe=>by unfold szV; omega) e.vals;refine ⟨by omega,by omega,λv hv=>?_⟩;have h1:=JY (f:=szV) hv;have e1:szV v=v.length+1:=rfl;omega
 ·have h0:=JY (f:=szD) hd;have e0:szD d=d.name.length+d.ty.length+ya d.begins+1:=rfl;have:=jeD d.begins;refine ⟨by omega,by omega,by omega,λx hx=>?_⟩;have:=jcD hx;omega
 ·have h0:=JY (f:=szP) hp;have e0:szP p=p.name.length+(p.rules.map szR).sum+1:=rfl;have lr:=JZ (f:=szR) (λe=>by unfold szR; omega) p.rules;refine ⟨by omega,by omega,λr hr=>?_⟩;have h1:=JY (f:=szR) hr;have e1:szR r=szE r.when+(r.acts.map szA).sum+1:=rfl;have la:=JZ (f:=szA) (λe=>by unfold szA; omega) r.acts;refine ⟨by omega,by omega,λa ha=>?_⟩;have h2:=JY (f:=szA) ha;have e2:szA a=a.name.length+szE a.to+1:=rfl;omega
mutual
theorem UD:∀ x:Ex,szE (unE x)=szE x
 | .mk o n nm ks l c=>by
  show ya (zH ks)+nm.length+1=ya ks+nm.length+1;rw [gG ks]
theorem gG:∀ xs:List Ex,ya (zH xs)=ya xs
 | []=>rfl
 | x :: xs=>by
  show szE (unE x)+ya (zH xs)=szE x+ya xs;rw [UD x,gG xs]
end
theorem Vj {x y:Ex}(h:unE x=unE y):szE x=szE y:=by rw [←UD x,h,UD]
theorem wL {α β:Type}{f:α->β}{p:α->Prop}(hp:∀ x y,f x=f y->p y->p x){xs ys:List α}(h:xs.map f=ys.map f)(hy:∀ y∈ys,p y):∀ x∈xs,p x:=by
 intro x hx;have:f x∈ys.map f:=by rw [←h]; exact Qbi.2 ⟨x,hx,rfl⟩
 obtain ⟨y,hy1,hy2⟩:=Qbi.1 this;exact hp x y hy2.symm (hy y hy1)
theorem wN {α β:Type}{f:α->β}{xs ys:List α}(h:xs.map f=ys.map f):xs.length=ys.length:=by
 have:=congrArg List.length h;simpa using this
theorem jjf {a b:RuleT}(h:unR a=unR b)(k:SmR b):SmR a:=by
 simp only [unR,RuleT.mk.injEq] at h;refine ⟨by rw [Vj h.1]; exact k.when,by rw [wN h.2]; exact k.acts,wL (p:=λa=>szE a.to≤BIG) (λx y hxy hy=>?_) h.2 k.to⟩;simp only [unA,AsT.mk.injEq,and_true] at hxy;rw [Vj hxy.2]; exact hy
theorem jje {a b:SrcT}(h:unS a=unS b)(k:SmS b):SmS a:=by
 obtain ⟨h1,h2,h3⟩:=HP h;refine ⟨by rw [wN h1]; exact k.enums,wL (p:=λe:EnumT=>e.vals.length≤BIG) (λx y hxy hy=>?_) h1 k.vals,by rw [wN h2]; exact k.vars,wL (p:=λd:DeclT=>d.begins.length≤BIG∧∀ x∈d.begins,szE x≤BIG) (λx y hxy hy=>?_) h2 k.begs,by rw [wN h3]; exact k.procs,wL (p:=λp:ProcT=>p.rules.length≤BIG∧∀ r∈p.rules,SmR r) (λx y hxy hy=>?_) h3 k.rules⟩
 ·simp only [unN,EnumT.mk.injEq,and_true] at hxy;rw [hxy.2]; exact hy
 ·simp only [unD,DeclT.mk.injEq,and_true] at hxy;exact ⟨by rw [wN hxy.2.2.2.2]; exact hy.1,wL (p:=λx=>szE x≤BIG) (λu v huv hv=>by rw [Vj huv]; exact hv) hxy.2.2.2.2 hy.2⟩
 ·simp only [unP,ProcT.mk.injEq,and_true] at hxy;exact ⟨by rw [wN hxy.2]; exact hy.1,wL (p:=SmR) (λu v huv hv=>jjf huv hv) hxy.2 hy.2⟩
theorem jcK {m:SrcT}(h:WrS m):SmS m:=⟨h.enums,λe he=>(h.en e he).2.1,h.vars,λd hd=>⟨(h.de d hd).2.2.1,(h.de d hd).2.2.2⟩,h.procs,λp hp=>⟨(h.pr p hp).2.1,λr hr=>⟨((h.pr p hp).2.2 r hr).when,((h.pr p hp).2.2 r hr).acts,λa ha=>(((h.pr p hp).2.2 r hr).to a ha).1⟩⟩⟩
end Go.Sy
end
noncomputable section
set_option maxRecDepth 100000
namespace Go.Sy
open Go.Ev Go.Proofs
variable {base:Bs}
set_option maxHeartbeats 8000000 in
theorem law4_ok (hb:NB base)(h8:∀ st,base.run 8 [] st=.ok (.bool true) st)(hP:PI base)(x:Ex)(m:SrcT)(hx:szE x≤1048576)(hm:szS m≤1048576):XB Qaf base 4 [.agg (eE x),.agg (srE m)] st0 (λv _=>v=.bool true) λ_ _=>False:=by
 have hB:(1048576:Nat)≤BIG:=by decide
 have hBm:BIG≤4611686018427387904:=by decide
 have E8:=λ(st:St) (K Kp:AV->St->Prop)=>Uv (P:=Qaf) (base:=base) (h8 st) K Kp;have E12:=YV hb x (by omega);have E13:=jks hb x (by omega);have E14:=uX hb x (by omega);have wr:=jgV hm;have E18:=jec hb m wr;have E19:=jhV hb m wr;unfold jaQ at E18;refine Q7 xL4 (by rfl) (hb.at0 4 (by decide) (by decide) _ _) ?_;simp only [yL4,jj,Qai,Qam,Qag,Qah];unfold zL4;try dsimp only [oo,oO,ot,oT,os,og,oh,oc,on,oN,oP]
 cases hs:JO m with
 | none=>
  rw [hs] at E18;have e18:(if (none:Option (List Nat)).isSome=true then (0:Int) else 141)=141:=rfl;rw [e18] at E18;by_cases c1:qZ x=true
  ·by_cases c2:yX x<500
   ·by_cases c3:qI x≤30
    ·obtain ⟨b1,b2⟩:=kX c1 c3 c2;have E16:=uV hb x (by omega) (qP c1);have tl:=yR x (qP c1);have E15:=jeh hb hP (j9 x) (by omega) GV;have E17:=uW hb x (by omega) (QO (j9 x)).1 (by rw [Vj b2]; omega);rw [XM x _ b2.symm] at E17;rw [b1,show zm (0,0,0)=[.int .i64 0,.int .i64 0,.int .i64 0] from rfl] at E15;generalize (QO (j9 x)).1=y at *;repeat' (first | (apply jc <;> intro _) | simp (disch:=first | exact dzE | fail) only [E8,E12,E13,E14,E15,E16,E17,E18,GD,GC,c1,c2,c3,je,jN,jR,jU,jq,qc,qb,rzZ,Qab,Qac,Qad,Qaa,Qae])
    ·repeat' (first | (apply jc <;> intro _) | simp (disch:=first | exact dzE | fail) only [E8,E12,E13,E14,E18,c1,c2,c3,je,jN,jR,jU,jq,qc,qb,rzZ,Qab,Qac,Qad,Qaa,Qae])
   ·repeat' (first | (apply jc <;> intro _) | simp (disch:=first | exact dzE | fail) only [E8,E12,E13,E14,E18,c1,c2,je,jN,jR,jU,jq,qc,qb,rzZ,Qab,Qac,Qad,Qaa,Qae])
  ·have c1':qZ x=false:=by simpa using c1
   repeat' (first | (apply jc <;> intro _) | simp (disch:=first | exact dzE | fail) only [E8,E12,E13,E14,E18,c1',je,jN,jR,jU,jq,qc,qb,rzZ,Qab,Qac,Qad,Qaa,Qae])
 | some t=>
  rw [hs] at E18;have e18:(if (some t).isSome=true then (0:Int) else 141)=0:=rfl;have e18':(some t).getD []=t:=rfl;rw [e18,e18'] at E18;have E9:¬ 9000<t.length->JT m=false->Tot base 9 [.str t] (.tup [.agg (srE (Zi t).1),.agg [.int .i64 0,.int .i64 0,.int .i64 0]])∧Tot base 20 [.agg (srE (Zi t).1),.agg (srE m)] (.bool true):=λh1 h2=>by
   obtain ⟨b1,b2⟩:=jeE hs h2 (by omega);have E:=jfJ hb hP t (by omega) GV jj6;rw [b1] at E;have S:=Hl hb (Zi t).1 m (jje b2 (jcK wr)) (jcK wr);rw [jeM b2] at S;exact ⟨E,S⟩
  generalize (Zi t).1=w at E9;have rest:∀ (c4:9000<t.length∨¬ 9000<t.length),True:=λ_=>trivial;by_cases c1:qZ x=true∧yX x<500∧qI x≤30
  ·obtain ⟨c1,c2,c3⟩:=c1;obtain ⟨b1,b2⟩:=kX c1 c3 c2;have E16:=uV hb x (by omega) (qP c1);have tl:=yR x (qP c1);have E15:=jeh hb hP (j9 x) (by omega) GV;have E17:=uW hb x (by omega) (QO (j9 x)).1 (by rw [Vj b2]; omega);rw [XM x _ b2.symm] at E17;rw [b1,show zm (0,0,0)=[.int .i64 0,.int .i64 0,.int .i64 0] from rfl] at E15;generalize (QO (j9 x)).1=y at *;by_cases c4:9000<t.length
   ·repeat' (first | (apply jc <;> intro _) | simp (disch:=first | exact dzE | fail) only [E8,E12,E13,E14,E15,E16,E17,E18,GD,GC,c1,c2,c3,c4,je,jN,jR,jU,jq,qc,qb,rzZ,Qab,Qac,Qad,Qaa,Qae])
   ·by_cases c5:JT m=true
    ·repeat' (first | (apply jc <;> intro _) | simp (disch:=first | exact dzE | fail) only [E8,E12,E13,E14,E15,E16,E17,E18,E19,GD,GC,c1,c2,c3,c4,c5,je,jN,jR,jU,jq,qc,qb,rzZ,Qab,Qac,Qad,Qaa,Qae])
    ·have c5':JT m=false:=by simpa using c5
     obtain ⟨E9,E20⟩:=E9 c4 c5';repeat' (first | (apply jc <;> intro _) | simp (disch:=first | exact dzE | fail) only [E8,E12,E13,E14,E15,E16,E17,E18,E19,E9,E20,GD,GC,c1,c2,c3,c4,c5',je,jN,jR,jU,jq,qc,qb,rzZ,Qab,Qac,Qad,Qaa,Qae])
  ·by_cases c4:9000<t.length
   ·repeat' (first | (apply jc <;> intro _) | simp (disch:=first | exact dzE | fail) only [E8,E12,E13,E14,E18,c4,je,jN,jR,jU,jq,qc,qb,rzZ,Qab,Qac,Qad,Qaa,Qae])
    all_goals (exfalso; first | (exact c1 ⟨by assumption,by omega,by omega⟩) | (simp_all; omega))
   ·by_cases c5:JT m=true
    ·repeat' (first | (apply jc <;> intro _) | simp (disch:=first | exact dzE | fail) only [E8,E12,E13,E14,E18,E19,c4,c5,je,jN,jR,jU,jq,qc,qb,rzZ,Qab,Qac,Qad,Qaa,Qae])
     all_goals (exfalso; first | (exact c1 ⟨by assumption,by omega,by omega⟩) | (simp_all; omega))
    ·have c5':JT m=false:=by simpa using c5
     obtain ⟨E9,E20⟩:=E9 c4 c5';repeat' (first | (apply jc <;> intro _) | simp (disch:=first | exact dzE | fail) only [E8,E12,E13,E14,E18,E19,E9,E20,GD,GC,c4,c5',je,jN,jR,jU,jq,qc,qb,rzZ,Qab,Qac,Qad,Qaa,Qae])
     all_goals (exfalso; first | (exact c1 ⟨by assumption,by omega,by omega⟩) | (simp_all; omega))
end Go.Sy
end
noncomputable section
namespace Go.Proofs
open Go.Shelf
def Tryz.laysC174_ren:Go.Shelf.Ren:=⟨λ| 174=>123 | 247=>150 | 245=>151 | 287=>172 | 279=>173 | 280=>174 | 281=>175 | 282=>176 | 321=>185 | 322=>186 | 316=>187 | 171=>189 | 205=>188 | 243=>190 | 246=>113 | 283=>145 | 284=>146 | 285=>147 | 286=>148 | 129=>168 | 317=>167 | 318=>169 | 319=>170 | 320=>171 | 337=>183 | 338=>184 | n=>n,λ| 9=>9 | 3=>3 | 2=>2 | 75=>177 | 85=>178 | 4=>4 | 167=>219 | 5=>5 | 53=>131 | 175=>220 | 46=>217 | 168=>222 | 37=>203 | 0=>0 | 210=>233 | 21=>21 | 127=>237 | 145=>240 | 143=>238 | 171=>200 | 173=>204 | 212=>214 | 51=>215 | 20=>20 | 213=>216 | 232=>235 | 233=>236 | 80=>241 | n=>n,λ| 15=>1 | 16=>2 | 17=>0 | 18=>3 | 19=>4 | n=>n⟩
theorem Tryz.laysC174:Go.Proofs.LaysC.n174 Qaf Tryz.laysC174_ren:={
 mixed:=by kernel_rfl
 f129:=Tryz.func168.trans (congrArg some (by kernel_rfl))
 f171:=Tryz.func189.trans (congrArg some (by kernel_rfl))
 f174:=Tryz.func123.trans (congrArg some (by kernel_rfl))
 f205:=Tryz.func188.trans (congrArg some (by kernel_rfl))
 f243:=Tryz.func190.trans (congrArg some (by kernel_rfl))
 f245:=Tryz.func151.trans (congrArg some (by kernel_rfl))
 f246:=Tryz.func113.trans (congrArg some (by kernel_rfl))
 f247:=Tryz.func150.trans (congrArg some (by kernel_rfl))
 f279:=Tryz.func173.trans (congrArg some (by kernel_rfl))
 f280:=Tryz.func174.trans (congrArg some (by kernel_rfl))
 f281:=Tryz.func175.trans (congrArg some (by kernel_rfl))
 f282:=Tryz.func176.trans (congrArg some (by kernel_rfl))
 f283:=Tryz.func145.trans (congrArg some (by kernel_rfl))
 f284:=Tryz.func146.trans (congrArg some (by kernel_rfl))
 f285:=Tryz.func147.trans (congrArg some (by kernel_rfl))
 f286:=Tryz.func148.trans (congrArg some (by kernel_rfl))
 f287:=Tryz.func172.trans (congrArg some (by kernel_rfl))
 f316:=Tryz.func187.trans (congrArg some (by kernel_rfl))
 f317:=Tryz.func167.trans (congrArg some (by kernel_rfl))
 f318:=Tryz.func169.trans (congrArg some (by kernel_rfl))
 f319:=Tryz.func170.trans (congrArg some (by kernel_rfl))
 f320:=Tryz.func171.trans (congrArg some (by kernel_rfl))
 f321:=Tryz.func185.trans (congrArg some (by kernel_rfl))
 f322:=Tryz.func186.trans (congrArg some (by kernel_rfl))
 f337:=Tryz.func183.trans (congrArg some (by kernel_rfl))
 f338:=Tryz.func184.trans (congrArg some (by kernel_rfl))
 t0:=Tryz.underlying0
 a0:=Tryz.isAgg0
 z0:=Tryz.sizeOf0
 v0:=Tryz.zeroValue0
 t2:=Tryz.underlying2
 a2:=Tryz.isAgg2
 z2:=Tryz.sizeOf2
 v2:=Tryz.zeroValue2
 t3:=Tryz.underlying3
 a3:=Tryz.isAgg3
 z3:=Tryz.sizeOf3
 v3:=Tryz.zeroValue3
 t4:=Tryz.underlying4
 a4:=Tryz.isAgg4
 z4:=Tryz.sizeOf4
 v4:=Tryz.zeroValue4
 t5:=Tryz.underlying5
 a5:=Tryz.isAgg5
 z5:=Tryz.sizeOf5
 v5:=Tryz.zeroValue5
 t9:=Tryz.underlying9
 a9:=Tryz.isAgg9
 z9:=Tryz.sizeOf9
 v9:=Tryz.zeroValue9
 t20:=Tryz.underlying20
 a20:=Tryz.isAgg20
 z20:=Tryz.sizeOf20
 v20:=Tryz.zeroValue20
 t21:=Tryz.underlying21
 a21:=Tryz.isAgg21
 z21:=Tryz.sizeOf21
 v21:=Tryz.zeroValue21
 t37:=Tryz.underlying203
 a37:=Tryz.isAgg203
 z37:=Tryz.sizeOf203
 v37:=Tryz.zeroValue203
 t46:=Tryz.underlying217
 a46:=Tryz.isAgg217
 z46:=Tryz.sizeOf217
 v46:=Tryz.zeroValue217
 t51:=Tryz.underlying215
 a51:=Tryz.isAgg215
 z51:=Tryz.sizeOf215
 v51:=Tryz.zeroValue215
 t53:=Tryz.underlying131
 a53:=Tryz.isAgg131
 z53:=Tryz.sizeOf131
 v53:=Tryz.zeroValue131
 t75:=Tryz.underlying177
 a75:=Tryz.isAgg177
 z75:=Tryz.sizeOf177
 v75:=Tryz.zeroValue177
 t85:=Tryz.underlying178
 a85:=Tryz.isAgg178
 z85:=Tryz.sizeOf178
 v85:=Tryz.zeroValue178
 t127:=Tryz.underlying237
 a127:=Tryz.isAgg237
 z127:=Tryz.sizeOf237
 v127:=Tryz.zeroValue237
 t143:=Tryz.underlying238
 a143:=Tryz.isAgg238
 z143:=Tryz.sizeOf238
 v143:=Tryz.zeroValue238
 t145:=Tryz.underlying240
 a145:=Tryz.isAgg240
 z145:=Tryz.sizeOf240
 v145:=Tryz.zeroValue240
 t167:=Tryz.underlying219
 a167:=Tryz.isAgg219
 z167:=Tryz.sizeOf219
 v167:=Tryz.zeroValue219
 t168:=Tryz.underlying222
 a168:=Tryz.isAgg222
 z168:=Tryz.sizeOf222
 v168:=Tryz.zeroValue222
 t171:=Tryz.underlying200
 a171:=Tryz.isAgg200
 z171:=Tryz.sizeOf200
 v171:=Tryz.zeroValue200
 t173:=Tryz.underlying204
 a173:=Tryz.isAgg204
 z173:=Tryz.sizeOf204
 v173:=Tryz.zeroValue204
 t175:=Tryz.underlying220
 a175:=Tryz.isAgg220
 z175:=Tryz.sizeOf220
 v175:=Tryz.zeroValue220
 t210:=Tryz.underlying233
 a210:=Tryz.isAgg233
 z210:=Tryz.sizeOf233
 v210:=Tryz.zeroValue233
 t212:=Tryz.underlying214
 a212:=Tryz.isAgg214
 z212:=Tryz.sizeOf214
 v212:=Tryz.zeroValue214
 t213:=Tryz.underlying216
 a213:=Tryz.isAgg216
 z213:=Tryz.sizeOf216
 t232:=Tryz.underlying235
 a232:=Tryz.isAgg235
 z232:=Tryz.sizeOf235
 v232:=Tryz.zeroValue235
 t233:=Tryz.underlying236
 a233:=Tryz.isAgg236
 z233:=Tryz.sizeOf236
 v233:=Tryz.zeroValue236
 g15:=by kernel_rfl
 g16:=by kernel_rfl
 g17:=by kernel_rfl
 g18:=by kernel_rfl
 g19:=by kernel_rfl
 t80:=Tryz.underlying241
 a80:=Tryz.isAgg241
 z80:=Tryz.sizeOf241
 v80:=Tryz.zeroValue241
 i0:=by kernel_rfl
 i2:=by kernel_rfl
 i3:=by kernel_rfl
 i4:=by kernel_rfl
 i5:=by kernel_rfl
 i9:=by kernel_rfl
 i20:=by kernel_rfl
 i21:=by kernel_rfl
 i37:=by kernel_rfl
 i46:=by kernel_rfl
 i51:=by kernel_rfl
 i53:=by kernel_rfl
 i75:=by kernel_rfl
 i80:=by kernel_rfl
 i85:=by kernel_rfl
 i127:=by kernel_rfl
 i143:=by kernel_rfl
 i145:=by kernel_rfl
 i167:=by kernel_rfl
 i168:=by kernel_rfl
 i171:=by kernel_rfl
 i173:=by kernel_rfl
 i175:=by kernel_rfl
 i210:=by kernel_rfl
 i212:=by kernel_rfl
 i232:=by kernel_rfl
 i233:=by kernel_rfl
 m15:=by kernel_rfl
 m16:=by kernel_rfl
 m17:=by kernel_rfl
 m18:=by kernel_rfl
 m19:=by kernel_rfl
 c0:=by kernel_rfl
 c2:=by kernel_rfl
 c3:=by kernel_rfl
 c4:=by kernel_rfl
 c5:=by kernel_rfl
 c9:=by kernel_rfl
 c20:=by kernel_rfl
 c21:=by kernel_rfl
 c37:=by kernel_rfl
 c46:=by kernel_rfl
 c51:=by kernel_rfl
 c53:=by kernel_rfl
 c75:=by kernel_rfl
 c80:=by kernel_rfl
 c85:=by kernel_rfl
 c127:=by kernel_rfl
 c143:=by kernel_rfl
 c145:=by kernel_rfl
 c167:=by kernel_rfl
 c168:=by kernel_rfl
 c171:=by kernel_rfl
 c173:=by kernel_rfl
 c175:=by kernel_rfl
 c210:=by kernel_rfl
 c212:=by kernel_rfl
 c213:=by kernel_rfl
 c232:=by kernel_rfl
 c233:=by kernel_rfl }
open Go.RowKit in
theorem Tryz.strconv_ParseInt_10_at64_ok (s:ByteArray)(hmax:s.size≤9223372036854775806)(v:Int)(h:Lib.parseIntB 64 s.data.toList=.ok v)(w:World) :
 Calls Qaf 123 #[.string s,.int .i64 10,.int .i64 64] w λe w'=>e=.returned (.tuple #[.int .i64 v,.nilIface])∧(w'=w∨∃ t,w'=Lib.bytesWorld w 5 t):=Any.strconv_ParseInt_10_at64_ok Tryz.laysC174 s hmax v h w
open Go.RowKit in
theorem Tryz.strconv_ParseInt_10_at64_range (s:ByteArray)(hlim:s.size≤281474976710656)(h:Lib.parseIntB 64 s.data.toList=.range)(ev:Value)(w:World)(hv:w.cell? ⟨2,0,none⟩=some ev)(hev:ev=.nilIface∨∃ te pe,ev=.iface te pe) :
 Calls Qaf 123 #[.string s,.int .i64 10,.int .i64 64] w λe w'=>∃ N,e=.returned (.tuple #[.int .i64 (Lib.intSat 64 s.data.toList),.iface 222 (.pointer (some ⟨N,0,none⟩))])∧w.heap.size≤N∧w'.heap[N]? = some (.cells #[.string ⟨#[80,97,114,115,101,73,110,116]⟩,.string s,ev] 233 (0,0))∧Below w.heap.size w w':=Any.strconv_ParseInt_10_at64_range Tryz.laysC174 s hlim h ev w hv hev
end Go.Proofs
end
noncomputable section
set_option maxRecDepth 100000
namespace Go.Sy
open Go.Ev Go.Proofs
open Go.RowKit (Below)
theorem vf:okP Qaf=true:=by kernel_rfl
theorem Vi:Tryz.prog.follows .mixedOrders=true:=by kernel_rfl
theorem jkW:jdl (V9 Qaf 10000000 400 8 [] st0)=true:=by kernel_rfl
def U4 (l:List UInt8):Prop:=∀ c∈l,48≤c.toNat∧c.toNat≤57
theorem kB:∀ (l:List UInt8) (acc:Nat),U4 l->(acc+1) * 10 ^ l.length≤100000000->Lib.parseUintM 18446744073709551615 acc l=.ok ((l.map UInt8.toNat).foldl (λv c=>10 * v+(c - 48)) acc)
 | [],acc,_,_=>rfl
 | c :: r,acc,hd,h=>by
  have hc:=hd c (by simp);rw [Qal,Nat.pow_succ] at h;have hp:1≤10 ^ r.length:=Nat.one_le_pow _ _ (by decide);have hacc:(acc+1) * 10≤100000000:=by
   have:(acc+1) * 10 * 1≤(acc+1) * 10 * 10 ^ r.length:=Nat.mul_le_mul_left _ hp;have e:(acc+1) * 10 * 10 ^ r.length=(acc+1) * (10 ^ r.length * 10):=by rw [Nat.mul_assoc,Nat.mul_comm 10]
   omega
  unfold Lib.parseUintM;rw [if_pos hc,if_neg (by omega),if_neg (by omega),kB r _ (λd hd'=>hd d (by simp [hd']))]
  ·show _=Lib.NumEnd.ok ((r.map UInt8.toNat).foldl _ (10 * acc+(c.toNat - 48)));rw [Nat.mul_comm acc 10]
  ·refine Qav ?_ h;have e:(acc+1) * (10 ^ r.length * 10)=((acc+1) * 10) * 10 ^ r.length:=by rw [Nat.mul_comm (10 ^ r.length),Nat.mul_assoc]
   rw [e];exact QaJ _ (by omega)
theorem vV:∀ (l:List UInt8) (acc:Nat),U4 l->(∃ u,Lib.parseUintM 18446744073709551615 acc l=.ok u)∨Lib.parseUintM 18446744073709551615 acc l=.range
 | [],acc,_=>.inl ⟨acc,rfl⟩
 | c :: r,acc,hd=>by
  have hc:=hd c (by simp);unfold Lib.parseUintM;rw [if_pos hc];by_cases h1:1844674407370955162≤acc
  ·rw [if_pos h1]; exact .inr rfl
  ·rw [if_neg h1];by_cases h2:18446744073709551615<acc * 10+(c.toNat - 48)
   ·rw [if_pos h2]; exact .inr rfl
   ·rw [if_neg h2];exact vV r _ λd hd'=>hd d (by simp [hd'])
theorem kC {l:List UInt8}(hne:l≠[])(hd:U4 l):Lib.parseIntB 64 l=Lib.signlessC (2 ^ 63) (Lib.parseUintM 18446744073709551615 0 l):=by
 obtain ⟨c,r,rfl⟩:=List.exists_cons_of_ne_nil hne;have hc:=hd c (by simp);rw [Lib.parseIntB_plain 64 c r (by omega) (by omega)];unfold Lib.parseUintB;rw [if_neg (by simp)]
theorem jc7 {l:List UInt8}(hne:l≠[])(hd:U4 l)(h7:l.length≤7):Lib.parseIntB 64 l=.ok (Qv (l.map UInt8.toNat):Int):=by
 have hle:10 ^ l.length≤10 ^ 7:=Nat.pow_le_pow_right (by decide) h7;have e7:10 ^ 7=10000000:=by decide
 rw [kC hne hd,kB l 0 hd (by omega)];have hv:=jgX (s:=l.map UInt8.toNat) (n:=l.length) (by simp) h7 (λc hc=>by
  obtain ⟨b,hb,rfl⟩:=Qbi.1 hc;have:=hd b hb;unfold jv;simp; omega)
 show Lib.signlessC _ (.ok (Qv (l.map UInt8.toNat)))=_;generalize Qv (l.map UInt8.toNat)=v at hv;unfold Lib.signlessC;simp;omega
end Go.Sy
end
noncomputable section
set_option maxRecDepth 100000
namespace Go.Sy
open Go.Ev Go.Proofs
open Go.RowKit (Below)
theorem ja4 {l:List UInt8}(hne:l≠[])(hd:U4 l):(∃ v,Lib.parseIntB 64 l=.ok v)∨Lib.parseIntB 64 l=.range:=by
 rw [kC hne hd];rcases vV l 0 hd with ⟨u,h⟩ | h
 ·rw [h];unfold Lib.signlessC;by_cases hu:2 ^ 63≤u
  ·right; simp only [if_pos hu]
  ·left; exact ⟨u,by simp only [if_neg hu]⟩
 ·rw [h]; exact .inr rfl
def GR (s:List Nat):Bool:=decide (s≠[]) && s.all jv
theorem GQ (s:List Nat):GR s=true↔wX s:=by
 unfold GR wX;simp
def YT:qm:=λf args st=>match args with
 | []=>if f=8 then .ok (.bool true) st else .no
 | [.str s,.int .i64 a,.int .i64 b]=>if f=123∧a=10∧b=64∧GR s=true∧s.length≤281474976710656 then (if s.length≤7 then .ok (.tup [.int .i64 (Qv s:Int),.nilif]) st else .ok (.tup [.bad,.bad]) st) else .no
 | _=>.no
theorem jhK (st:St):YT 8 [] st=.ok (.bool true) st:=rfl
def base4:Bs:=⟨YT,ja2⟩
theorem Hb:PI base4:=λs st hd hl=>by
 have e:YT 123 [.str s,.int .i64 10,.int .i64 64] st=if (123=123∧(10:Int)=10∧(64:Int)=64∧GR s=true∧s.length≤281474976710656) then (if s.length≤7 then .ok (.tup [.int .i64 (Qv s:Int),.nilif]) st else .ok (.tup [.bad,.bad]) st) else .no:=rfl
 simp only [show base4.run=YT from rfl];rw [e,if_pos ⟨rfl,rfl,rfl,(GQ s).2 hd,hl⟩];exact ⟨λh=>if_pos h,λh=>if_neg (by omega)⟩
theorem WK (f:FuncId)(args:List AV)(st:St):YT f args st=.no∨(f=8∧args=[])∨(f=123∧∃ s,args=[.str s,.int .i64 10,.int .i64 64]∧wX s∧s.length≤281474976710656):=by
 unfold YT;split
 ·by_cases h:f=8
  ·exact .inr (.inl ⟨h,rfl⟩)
  ·exact .inl (if_neg h)
 ·rename_i s a b;by_cases h:f=123∧a=10∧b=64∧GR s=true∧s.length≤281474976710656
  ·obtain ⟨h1,rfl,rfl,h4,h5⟩:=h;exact .inr (.inr ⟨h1,s,rfl,(GQ s).1 h4,h5⟩)
  ·exact .inl (if_neg h)
 ·exact .inl rfl
theorem jfE (f:FuncId)(args:List AV)(st:St)(h9:f≠8)(h31:f≠123):YT f args st=.no:=by
 rcases WK f args st with h | ⟨h,_⟩ | ⟨h,_⟩
 ·exact h
 ·exact absurd h h9
 ·exact absurd h h31
theorem QZ {ι:Inj}{st:St}{w w':World}(hs:Sim ι st.h st.nx w)(b:Below w.heap.size w w'):Sim ι st.h st.nx w'∧Grew ι w ι w':=by
 have gr:Grew ι w ι w':=⟨b.os,b.tape,b.output,b.size,λk hk _=>b.block k hk,λb B S e=>.inl ⟨b,S,e⟩,λB vs h=>.inl h⟩;exact ⟨⟨λc B S e=>by
  obtain ⟨o,x,h1,h2,h3⟩:=hs.obj c B S e;exact ⟨o,x,h1,(b.block B (hs.lt e)).trans h2,h3⟩,hs.gone,hs.inj,hs.born,hs.glob.grew gr⟩,gr⟩
theorem jfF:zP Qaf base4.run:=by
 intro f args st ι w vs hs hv;simp only [show base4.run=YT from rfl];rcases WK f args st with h | ⟨rfl,rfl⟩ | ⟨rfl,s,rfl,hd,hl⟩
 ·rw [h]; trivial
 ·rw [jhK];have hvs:vs = #[]:=by
   have:vs.toList=[]:=by simpa [VRs] using hv
   simpa using this
  subst hvs;have hb:Tryz.f8.body.isSome=true:=by kernel_rfl
  obtain ⟨c,hc⟩:=Option.isSome_iff_exists.1 hb;refine ⟨(Zn vf Tryz.func8 hc).2,Calls.mono (jeR vf (jas Vi) jkW w ⟨⟨hs.glob.1.1,λb S e=>by cases e⟩,λB vs e=>by cases e⟩) λe w' ⟨he,hos,ht,ho,hsz,hk⟩=>⟨_,he,ι,Le.refl ι,?_,?_,?_,Cleanly.refl ι st⟩⟩
  ·simp only [VR]
  ·exact (QZ hs ⟨hos,ht,ho,hsz,hk⟩).1
  ·exact (QZ hs ⟨hos,ht,ho,hsz,hk⟩).2
 ·simp only [VRs,VR] at hv;obtain ⟨v1,l1,e1,⟨bs,rfl,hbs⟩,v2,l2,rfl,rfl,v3,l3,rfl,rfl,rfl⟩:=hv;have hvs:vs = #[.string bs,.int .i64 10,.int .i64 64]:=by
   cases vs; simpa using e1
  subst hvs;have hlen:bs.data.toList.length=s.length:=by rw [←hbs,QaN]
  have hsz:bs.size=s.length:=by rw [←hlen,Qax]; rfl
  have hne:bs.data.toList≠[]:=λh=>hd.1 (by rw [←hbs,h]; rfl);have hd8:U4 bs.data.toList:=λc hc=>by
   have:=hd.2 c.toNat (by rw [←hbs]; exact Qbi.2 ⟨c,hc,rfl⟩);unfold jv at this;simp at this;omega
  have hent:Ev.Enters Qaf 123:=by
   have hb:Tryz.f123.body.isSome=true:=by kernel_rfl
   obtain ⟨c,hc⟩:=Option.isSome_iff_exists.1 hb;exact (Zn vf Tryz.func123 hc).2
  have okc:∀ v,Lib.parseIntB 64 bs.data.toList=.ok v->Calls Qaf 123 #[.string bs,.int .i64 10,.int .i64 64] w λe w'=>e=.returned (.tuple #[.int .i64 v,.nilIface])∧Below w.heap.size w w':=λv h=>
   (Tryz.strconv_ParseInt_10_at64_ok bs (by omega) v h w).mono λe w' ⟨he,hw⟩=>⟨he,by
    rcases hw with rfl | ⟨t,rfl⟩
    ·exact ⟨rfl,rfl,rfl,Qaq _,λ_ _=>rfl⟩
    ·exact Lib.bytesWorld_below w 5 t⟩
  have hP:=Hb s st hd hl;simp only [show base4.run=YT from rfl] at hP;by_cases h7:s.length≤7
  ·rw [hP.1 h7];refine ⟨hent,(okc _ (jc7 hne hd8 (by omega))).mono λe w' ⟨he,hb⟩=>⟨_,he,ι,Le.refl ι,?_,(QZ hs hb).1,(QZ hs hb).2,Cleanly.refl ι st⟩⟩;rw [hbs];simp only [VR,VRs];exact ⟨_,rfl,_,_,rfl,rfl,_,_,rfl,rfl,rfl⟩
  ·rw [hP.2 (by omega)];refine ⟨hent,?_⟩;have fin:∀ (x y:Value) (w':World),Below w.heap.size w w'->zB ι w st st (.tup [.bad,.bad]) (.tuple #[x,y]) w':=λx y w' hb=>by
    refine ⟨ι,Le.refl ι,?_,(QZ hs hb).1,(QZ hs hb).2,Cleanly.refl ι st⟩;simp only [VR,VRs];exact ⟨_,rfl,_,_,rfl,trivial,_,_,rfl,trivial,rfl⟩
   rcases ja4 hne hd8 with ⟨v,h⟩ | h
   ·exact (okc v h).mono λe w' ⟨he,hb⟩=>⟨_,he,fin _ _ w' hb⟩
   ·obtain ⟨te,pe,hg⟩:=hs.glob.1.1;exact (Tryz.strconv_ParseInt_10_at64_range bs (by omega) h _ w hg (.inr ⟨te,pe,rfl⟩)).mono λe w' ⟨N,he,_,_,hb⟩=>⟨_,he,fin _ _ w' hb⟩
end Go.Sy
end
noncomputable section
set_option maxRecDepth 100000
namespace Go.Sy
open Go.Ev Go.Proofs
theorem HH {ι:Inj}:∀ {cs:List AV} {v:Value},VRs ι cs v.cells.toList->2≤cs.length->VR ι (.agg cs) v
 | a :: b :: r,v,h,_=>by
  cases v;case agg c=>exact ⟨c,rfl,h⟩
  all_goals
   exfalso;obtain ⟨v1,l1,e1,_,v2,l2,e2,_⟩:=h;simp [Value.cells] at e1;rw [e2] at e1;simp at e1
 | [],v,h,h2=>by simp at h2
 | [a],v,h,h2=>by simp at h2
theorem arg_src {w:World}{m:SrcT}{v:Value}(h:VRs (frW w) (srE m) v.cells.toList):VR (frW w) (.agg (srE m)) v:=HH h (by rw [YD]; decide)
theorem arg_ex {w:World}{x:Ex}{v:Value}(h:VRs (frW w) (eE x) v.cells.toList):VR (frW w) (.agg (eE x)) v:=HH h (by rw [JD]; decide)
theorem base4_8 (st:St):base4.run 8 [] st=.ok (.bool true) st:=rfl
theorem base4_PI:PI base4:=Hb
theorem base4_NB:NB base4:=⟨λf h args st=>jfE f args st (by rintro rfl; simp [WW] at h) (by rintro rfl; simp [WW] at h),rfl⟩
theorem law_calls {f:FuncId}{xs:List AV}{vs:Array Value}{w:World}(h:XB Qaf base4 f xs st0 (λv _=>v=.bool true) λ_ _=>False)(hg:∃ te pe,w.cell? ⟨2,0,none⟩=some (.iface te pe))(hv:VRs (frW w) xs vs.toList) :
  Calls Qaf f vs w λe w'=>e=.returned (.bool true)∧w'.os=w.os∧w'.tape=w.tape∧w'.output=w.output∧w.heap.size≤w'.heap.size∧∀ k,k<w.heap.size->w'.heap[k]? = w.heap[k]?:=by
 have h2:=CW.calls vf (jas Vi) jfF (K:=λv _=>v=.bool true) h.cb (jg7 hg) hv;refine Calls.mono h2 λe w' ⟨v,x,st',he,hK,ι',_,hv,_,hg,_⟩=>?_;rw [hK] at hv;simp only [VR] at hv;rw [hv] at he;exact ⟨he,hg.os,hg.tape,hg.output,hg.size,λk hk=>hg.keep k hk (λb S e=>by cases e)⟩
end Go.Sy
end
