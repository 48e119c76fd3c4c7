/-
  Contracts: the code lowered, what it does told by rules, and the contracts of the functions that the law reaches.
-/
import Derived.Test.YthkfaeaceekmkaaDoorCnSyC
import Derived.Lib.TrimUEq
import Derived.Lib.FieldsP
import Derived.Lib.SplitLaws
import Derived.Lib.SlTrimSet
import Derived.Lib.Atoi
import Derived.Lib.ItoaNum
import Derived.Shelf.Strings.Builder1
import Derived.Shelf.Strings.Trim
import Derived.Shelf.Small.Utf8
import Derived.Shelf.Small.Strs
import Derived.Shelf.Strings.BuilderF
import Derived.Shelf.Strings.BuilderK
import Derived.Shelf.Strconv.Atoi
import Derived.Shelf.Strconv.Itoa0
import Derived.Shelf.Strconv.Itoa1
import Derived.Shelf.LaysM
import Derived.Shelf.Strconv.Itoa2
import Derived.Shelf.Strconv.Itoa3
import Derived.Shelf.Strings.Search1
import Derived.Shelf.Strings.Search2
import Derived.Shelf.Strings.Search3
import Derived.Shelf.Strings.Count
import Derived.Shelf.Strings.Shaped
import Derived.Shelf.Strings.Prefix
import Derived.Shelf.Strings.Split
import Derived.Shelf.Strings.SplitShaped
import Derived.Shelf.Strings.Runes
import Derived.Shelf.Strings.AsciiSet
import Derived.Shelf.Unicode.DecodeSlow
import Derived.Shelf.Strings.FieldsFuncAny
import Derived.Test.YthkfaeaceekmkaaDoorProg
import Derived.WalkKit
import Derived.Shelf.Strings.SlTrimAscii
import Derived.Lib.ItoaLen
import Derived.BigCall
import Derived.Deep.RegionWith
import Derived.Deep.DeepCutAuto
import Derived.Deep.LoopGhost
import Derived.Lib.Hide
import Derived.IntWalk
import Derived.ChangeArms
import Derived.Lib.AtoiErrMem
set_option linter.unusedVariables false
set_option linter.unusedSimpArgs false
open Nat renaming reduceAdd → γ, reduceSub → ε, reduceMul → ζ, reduceBEq → θ, le_refl → ν, le_trans → ω, zero_le → Qaa, zero_add → Qan, le_max_left → Qap, le_max_right → Qaq, lt_of_lt_of_le → Qat, lt_or_ge → Qau, add_mul → QaF, not_lt_zero → QaP, zero_mul → QaT, lt_succ_self → QaY, succ_mul → QaZ, mul_one → Qbf, lt_irrefl → Qbh, le_succ_of_le → Qbi, mod_eq_of_lt → Qbn, one_mul → Qbq, min_eq_left → Qbv, add_comm → Qbx, sub_zero → Qby, ne_of_lt → QbC, le_of_eq → QbE, lt_trichotomy → QbT, beq → Qcb, succ → Qcc, ble → Qcd, add → Qce, mul → Qcf, sub → Qcg
open Go.Proofs.Tryd renaming prog → δ
open Int renaming reduceToNat → η, natCast_zero → κ, zero_add → μ, ofNat → Qas, eq_ofNat_of_zero_le → Qbr, natCast_nonneg → QbJ
open List renaming map_cons → ξ, map_nil → τ, length_append → υ, getD_cons_succ → χ, getD_cons_zero → ψ, range' → Qab, getElem?_eq_getElem → Qac, length_cons → Qad, getD → Qae, getElem_mem → Qaf, getD_eq_getElem?_getD → Qag, length_nil → Qah, range → Qak, all_eq_true → Qal, cons → Qam, all_cons → Qaw, nil_append → Qax, take_length → Qay, append_nil → Qaz, mem_append → QaA, length_map → QaC, map_map → QaD, mem_singleton → QaG, map_congr_left → QaH, map_append → QaI, flatMap_cons → QaJ, length_take → QaL, mem_cons → QaM, append_assoc → QaN, length_drop → QaO, length_singleton → QaR, cons_append → QaS, length → QaX, range'_succ → Qba, flatMap_append → Qbb, take_zero → Qbc, eq_nil_of_length_eq_zero → Qbd, getElem?_map → Qbe, any_eq_false → Qbj, drop_of_length_le → Qbk, getElem?_take → Qbl, ext_getElem → Qbm, take_of_length_le → Qbs, take_append_drop → Qbt, getElem?_drop → Qbu, all_append → Qbz, map_toArray → QbA, drop_eq_getElem_cons → QbD, length_eq_zero_iff → QbG, take_take → QbI, foldr_cons → QbK, take_add_one → QbL, drop_zero → QbM, mem_iff_getElem → QbO, getElem?_append_left → QbQ, getElem?_append_right → QbR, mem_append_left → QbV, countP_singleton → QbW, getElem_cons_zero → QbX
open Array renaming length_toList → Qai, getElem?_eq_some_iff → Qao, replicate → QaB, toList_map → Qbo, getElem?_toList → QbB, getD_eq_getD_getElem? → QbN, toList_append → QbS, mem_toList_iff → QbU, getElem?_eq_getElem → QbY, getElem?_setIfInBounds_ne → QbZ, getElem?_append_left → Qca
open Bool renaming and_eq_true → Qaj, eq_iff_iff → QaK, false_eq_true → QaU, or_eq_true → QaV, not_eq_true' → Qbg, or_eq_false_iff → Qbp, and_false → QbF
open Option renaming getD_some → Qar, map_some → Qav, bind_some → QaE, map_none → QaW, map_eq_some_iff → Qbw, isSome_some → QbH
open Decidable renaming not_not → QaQ
open Function renaming comp_def → QbP
noncomputable section
set_option maxRecDepth 100000
namespace Go.Sy
open Go.Ev Go.Proofs
theorem JS (n:Nat):yt n≠[]/\(yt n).all qe=true/\yO (yt n)=n:=by
 induction n using Nat.strongRecOn with
 |_ n ih=>
 rw[yt];split
 ·rename_i h;refine⟨by simp,?_,?_⟩
  ·simp[qe];omega
  ·show 10 * 0+(48+n - 48)=n;omega
 ·rename_i h;obtain⟨h1,h2,h3⟩:=ih (n / 10) om;refine⟨by simp,?_,?_⟩
  ·rw[Qbz,h2];simp[qe];omega
  ·unfold yO at h3 ⊢;rw[List.foldl_append,h3];show 10 * (n / 10)+(48+n % 10 - 48)=n;omega
theorem jaQ {d:List Nat}(h:d.all qe=true):yd d=false:=by
 cases d with
 |nil=>rfl
 |cons c r=>
  rw[Qaw,Qaj] at h;have:=h.1;unfold qe at this;rw[Qaj,decide_eq_true_eq,decide_eq_true_eq] at this;unfold yd;simp;omega
theorem uT {n:Int}(h1 : -999999999<=n)(h2:n<=999999999):qu (qi n)=some n:=by
 have key:∀ k:Nat,k<=999999999->1<=(yt k).length/\(yt k).length<=9/\(yt k).all qe=true:=λk hk=>by
  obtain⟨a,b,_⟩:=JS k;have e9:(10:Nat) ^ (8+1)=1000000000:=dc
  refine⟨List.length_pos_iff.2 a,Qp 8 k om,b⟩
 unfold qi;split
 ·rename_i h0;obtain⟨m,hm⟩:∃ m:Nat,-n=(m:Int):=⟨(-n).toNat,om⟩;have hm2:(-n).toNat=m:=om
  rw[hm2];have e1:yd (45 :: yt m)=true:=by simp[yd]
  have e2:jY (45 :: yt m)=yt m:=by unfold jY;rw[e1,if_pos rfl];rfl
  unfold qu;rw[e1,e2,if_pos (key m om),if_pos rfl,(JS m).2.2]
  congr 1
  omega
 ·rename_i h0;obtain⟨m,hm⟩:∃ m:Nat,n=(m:Int):=⟨n.toNat,om⟩;subst hm;show qu (yt m)=_;have e1:yd (yt m)=false:=jaQ (JS m).2.1;have e2:jY (yt m)=yt m:=by unfold jY;rw[e1,if_neg dc]
  unfold qu;rw[e1,e2,if_pos (key m om),if_neg dc,(JS m).2.2]
def yT (w:List Nat):Prop:=w≠[]/\(∀ c∈w,c≠32/\c≠9/\c≠10)/\∀ c r,w=c :: r->c≠99
theorem XO (n:Int):yT (qi n):=by
 have key:∀ k c,c∈yt k->48<=c/\c<=57:=λk c hc=>by
  have:=Qal.1 (JS k).2.1 c hc;unfold qe at this;rw[Qaj,decide_eq_true_eq,decide_eq_true_eq] at this;exact this
 unfold qi;split
 ·refine⟨by simp,λc hc=>?_,λc r e=>?_⟩
  ·rcases QaM.1 hc with rfl|hc
   ·decide
   ·have:=key _ c hc;omega
  ·injection e with e _;omega
 ·refine⟨(JS _).1,λc hc=>?_,λc r e=>?_⟩
  ·have:=key _ c hc;omega
  ·have:=key _ c (by rw[e];simp);omega
theorem QK:∀ (a l r:List Nat),(∀ c∈a,yE c=false)->jt l (a ++ r)=jt (l ++ a) r
 |[],l,r,_=>by rw[Qax,Qaz]
 |c :: a,l,r,h=>by
  rw[QaS,jt,if_neg (by rw[h c (by simp)];decide),QK a _ r (λd hd=>h d (by simp[hd])),QaN];rfl
theorem Ku {w:List Nat}(h:yT w):∀ c∈w,yE c=false:=λc hc=>by
 have:=h.2.1 c hc;unfold yE;rw[decide_eq_false this.1,decide_eq_false this.2.1];rfl
theorem ZN {w r:List Nat}(h:yT w):jt [] (w ++ 32 :: r)=w :: jt [] r:=by
 rw[QK w [] _ (Ku h),Qax,jt,if_pos dc,if_neg h.1]
theorem uj {w:List Nat}(h:yT w):jt [] w=[w]:=by
 have:=QK w [] [] (Ku h);rw[Qaz,Qax] at this;rw[this,jt,if_neg h.1]
theorem wW:∀ (a l r:List Nat),(∀ c∈a,c≠10)->qf l (a ++ 10 :: r)=qc (l ++ a) ++ qf [] r
 |[],l,r,_=>by rw[Qax,Qaz,qf,if_pos rfl]
 |c :: a,l,r,h=>by
  rw[QaS,qf,if_neg (h c (by simp)),wW a _ r (λd hd=>h d (by simp[hd])),QaN];rfl
def zp (ws:List (List Nat)):List Nat:=ws.flatMap λw=>w ++ [32]
theorem Zp:∀ (ws:List (List Nat)) (w:List Nat),(∀ x∈ws,yT x)->yT w->jt [] (zp ws ++ w)=ws ++ [w]
 |[],w,_,hw=>uj hw
 |x :: ws,w,h,hw=>by
  have e:zp (x :: ws) ++ w=x ++ 32 :: (zp ws ++ w):=by simp[zp]
  rw[e,ZN (h x (by simp)),Zp ws w (λy hy=>h y (by simp[hy])) hw];rfl
theorem Vv (ws:List (List Nat))(w:List Nat)(h:∀ x∈ws,yT x)(hw:yT w):yv (zp ws ++ w)=false:=by
 have key:∀ (x r:List Nat),yT x->yv (x ++ r)=false:=λx r hx=>by
  obtain⟨c,t,rfl⟩:=List.exists_cons_of_ne_nil hx.1;have:=hx.2.2 c t rfl;simp[yv,this]
 cases ws with
 |nil=>have:=key w [] hw;rw[Qaz] at this;exact this
 |cons x ws=>
  have e:zp (x :: ws) ++ w=x ++ 32 :: (zp ws ++ w):=by simp[zp]
  rw[e];exact key x _ (h x (by simp))
theorem HN (ws:List (List Nat))(w:List Nat)(h:∀ x∈ws,yT x)(hw:yT w):∀ c∈zp ws ++ w,c≠10:=by
 intro c hc;rcases QaA.1 hc with hc|hc
 ·obtain⟨x,hx,hc⟩:=List.mem_flatMap.1 hc;rcases QaA.1 hc with hc|hc
  ·exact((h x hx).2.1 c hc).2.2
  ·rw[QaG.1 hc];decide
 ·exact(hw.2.1 c hc).2.2
theorem gK {ws:List (List Nat)}{w r:List Nat}(h:∀ x∈ws,yT x)(hw:yT w):qf [] (zp ws ++ w ++ 10 :: r)=ws ++ [w] ++ qf [] r:=by
 rw[wW _ [] r (HN ws w h hw),Qax];unfold qc;rw[Vv ws w h hw,if_neg dc,Zp ws w h hw]
theorem wM:∀ c:ClT,c.flatMap zr=zp (c.map qi)
 |[]=>rfl
 |l :: c=>by
  have:=wM c;unfold zp at this ⊢;rw[QaJ,ξ,QaJ,this];rfl
theorem G9:yT [48]:=⟨by simp,dc,λc r e=>by injection e with e _;omega⟩
def QN (cs:List ClT):List (List Nat):=cs.flatMap λc=>c.map qi ++ [[48]]
theorem Wr:∀ cs:List ClT,qf [] (cs.flatMap zx)=QN cs
 |[]=>rfl
 |c :: cs=>by
  have e:(c :: cs).flatMap zx=zp (c.map qi) ++ [48] ++ 10 :: cs.flatMap zx:=by
   rw[QaJ,<-wM];simp[zx]
  rw[e,gK (λx hx=>by obtain⟨l,_,rfl⟩:=List.mem_map.1 hx;exact XO l) G9,Wr cs];rfl
theorem jel:yT [112]:=⟨by simp,dc,λc r e=>by injection e with e _;omega⟩
theorem jbd (f:FmT):qn (fmW f)=[112] :: [99,110,102] :: qi f.vars :: qi f.cls.length :: QN f.cls:=by
 have e:fmW f=[112,32,99,110,102,32] ++ qi f.vars ++ [32] ++ qi f.cls.length ++ 10 :: f.cls.flatMap zx:=by simp[fmW,Q3]
 have hb:∀ c∈([99,110,102]:List Nat),yE c=false:=dc
 have h10:∀ c∈[112,32,99,110,102,32] ++ qi f.vars ++ [32] ++ qi f.cls.length,c≠10:=by
  intro c hc;simp only[QaA] at hc;rcases hc with ((hc|hc)|hc)|hc
  ·have:∀ c∈([112,32,99,110,102,32]:List Nat),c≠10:=dc
   exact this c hc
  ·exact((XO f.vars).2.1 c hc).2.2
  ·rw[QaG.1 hc];decide
  ·exact((XO _).2.1 c hc).2.2
 unfold qn;rw[e,wW _ [] _ h10,Wr,Qax];have el:[112,32,99,110,102,32] ++ qi f.vars ++ [32] ++ qi f.cls.length=[112] ++ 32 :: ([99,110,102] ++ (32 :: (qi f.vars ++ 32 :: qi f.cls.length))):=by simp
 have hr:qc ([112,32,99,110,102,32] ++ qi f.vars ++ [32] ++ qi f.cls.length)=[[112],[99,110,102],qi f.vars,qi f.cls.length]:=by
  unfold qc;have h0:∀ r,yv ([112] ++ r)=false:=λr=>rfl;rw[el,h0,if_neg dc,ZN jel,QK _ [] _ hb,Qax,jt,if_pos dc,if_neg dc,ZN (XO _),uj (XO _)]
 rw[hr];rfl
theorem jbA:qu [48]=some 0:=dc
theorem wP:∀ (c:ClT) (cls:List ClT) (a:ClT) (ws:List (List Nat)),(∀ l∈c,l≠0/\-262144<=l/\l<=262144)->qj (c.map qi ++ ws) cls a=qj ws cls (a ++ c)
 |[],cls,a,ws,_=>by rw[τ,Qax,Qaz]
 |l :: c,cls,a,ws,h=>by
  have hl:=h l (by simp);rw[ξ,QaS,qj,uT om om];show(if l=0 then _ else if 262144<l\/l < -262144 then none else qj (c.map qi ++ ws) cls (a ++ [l]))=_;rw[if_neg hl.1,if_neg om,wP c cls _ ws (λx hx=>h x (by simp[hx])),QaN];rfl
theorem wQ:∀ (cs cls:List ClT),(∀ c∈cs,∀ l∈c,l≠0/\-262144<=l/\l<=262144)->qj (QN cs) cls []=some (cls ++ cs,[])
 |[],cls,_=>by rw[Qaz];rfl
 |c :: cs,cls,h=>by
  have e:QN (c :: cs)=c.map qi ++ ([48] :: QN cs):=by simp[QN]
  rw[e,wP c cls [] _ (h c (by simp)),Qax,qj,jbA];show(if(0:Int)=0 then qj (QN cs) (cls ++ [c]) [] else _)=_;rw[if_pos rfl,wQ cs _ (λx hx=>h x (by simp[hx])),QaN];rfl
theorem WA {f:FmT}(h:jx f=true):∀ c∈f.cls,∀ l∈c,l≠0/\-262144<=l/\l<=262144:=λc hc l hl=>by
 have h5:=(of_decide_eq_true h).2.2.2.2 c hc;rw[Qbj] at h5;have h6:=h5 l hl;unfold zb at h6;simp at h6;have:=X7 l;have:=Q1 (l:=l) om;exact⟨this.1,this.2.1,this.2.2.1⟩
theorem HT {f:FmT}(h:jx f=true):wd (fmW f)=some f:=by
 have hs:=YW h;unfold wd;rw[jbd];generalize hw:QN f.cls=ws;have hd:zZ ([112] :: [99,110,102] :: qi f.vars :: qi f.cls.length :: ws)=true:=by simp[zZ]
 rw[if_pos hd];unfold Qz;show(match qu (qi f.vars),qu (qi f.cls.length) with|some v,some m=>(match qj ws [] [] with|some (cls,c)=>_|none=>_)|_,_=>none)=_;rw[uT om om,uT om om,<-hw,wQ _ _ (WA h)];show(if([]:ClT)=[]/\((([] ++ f.cls:List ClT).length:Nat):Int)=(f.cls.length:Int)/\jx ⟨f.vars,[] ++ f.cls⟩=true then some (⟨f.vars,[] ++ f.cls⟩:FmT) else none)=_;rw[Qax,if_pos ⟨rfl,rfl,h⟩]
theorem vN {f:FmT}(h:jx f=true):zi (fmW f)=(f,0):=by unfold zi;rw[HT h];rfl
theorem Kd {s:List Nat}{f:FmT}(h:wd s=some f):jx f=true:=by
 unfold wd at h;split at h
 ·unfold Qz at h;split at h
  ·split at h
   ·split at h
    ·rename_i hc;injection h with h
     rw[<-h];exact hc.2.2
    ·cases h
   ·cases h
  ·cases h
 ·cases h
theorem Zw {f:FmT}(h:jx f=true):FmS f:=by
 have hs:=of_decide_eq_true h;refine⟨by unfold BIG;omega,λc hc=>?_⟩;have:c.length<=qb f.cls:=by
  have:∀ (l:List ClT),c∈l->c.length<=qb l:=by
   intro l;induction l with
   |nil=>intro h;cases h
   |cons a l ih=>
    intro h;unfold qb at *;rw[ξ,List.sum_cons];rcases QaM.1 h with rfl|h
    ·omega
    ·have:=ih h;omega
  exact this _ hc
 unfold BIG;omega
theorem wH (s:List Nat):(zi s=(⟨0,[]⟩,22))\/∃ f,zi s=(f,0)/\jx f=true:=by
 unfold zi;cases h:wd s with
 |none=>exact .inl rfl
 |some f=>exact .inr ⟨f,rfl,Kd h⟩
theorem HU (s:List Nat):FmS (zi s).1:=by
 rcases wH s with h|⟨f,h,hr⟩
 ·rw[h];exact⟨by unfold BIG;decide,λc hc=>by cases hc⟩
 ·rw[h];exact Zw hr
theorem Wg {f:FmT}(h:jx f=true):(fmW f).length<=100000000:=by
 have hs:=YW h;have h1:=W6 hs.1 hs.2.1 (n:=(f.cls.length:Int)) om om;have h2:=vt hs.2.2.2.2;unfold fmW;rw[υ];omega
variable {base:Bs}
theorem Wf (f:FmT):(decide (f.vars=f.vars) && decide (f.cls=f.cls))=true:=by simp
theorem law7_ok (hb:NB base)(hP:PC base)(hW:PW base)(s:List Nat):XB δ base 7 [.str s] st0 (λv _=>v=.bool true) λ_ _=>False:=by
 have e9:=Xo hb hP hW;refine JR x7 (by rfl) (hb.at0 7 dc dc _ _) ?_;simp only[y7,jv,ξ,τ,ψ,χ];rw[(by unfold z7;simp only[qq];rfl:z7=_)];by_cases hs:s.length<=3000
 ·have hs':¬ (3000:Int)<(s.length:Int):=om
  have e15:=YN hb hP s om;have e17:=jdW hb s om;have e13:=gA hb (zi s).1 (zi s).1 (HU s);rw[Wf] at e13;generalize zi s=p at *;obtain⟨f,e⟩:=p;dsimp only at e15 e17 e13;unfold fmE qJ at *;repeat'(first|apply je<;>intro _|simp(disch:=first|exact dzB|fail) only[e9,e15,e17,e13,hs',r6,γ,ε,ζ,η,θ])
  exact congrArg AV.bool (decide_eq_true (p:=True) trivial)
 ·have hs':(3000:Int)<(s.length:Int):=om
  repeat'(first|apply je<;>intro _|simp(disch:=first|exact dzB|fail) only[e9,hs',r6,γ,ε,ζ,η,θ])
theorem law6_ok (hb:NB base)(hP:PC base)(hW:PW base)(s:List Nat):XB δ base 6 [.str s] st0 (λv _=>v=.bool true) λ_ _=>False:=by
 have e9:=Xo hb hP hW;refine JR x6 (by rfl) (hb.at0 6 dc dc _ _) ?_;simp only[y6,jv,ξ,τ,ψ,χ];rw[(by unfold z6;simp only[qq];rfl:z6=_)];by_cases hs:s.length<=3000
 ·have hs':¬ (3000:Int)<(s.length:Int):=om
  have e15:=YN hb hP s om;rcases wH s with h|⟨f,h,hr⟩
  ·rw[h] at e15;have e15:Tot base 15 [.str s] (.tup [.agg [.int .i64 0,.lst 0 []],.int .i64 22]):=e15;repeat'(first|apply je<;>intro _|simp(disch:=first|exact dzB|fail) only[e9,e15,hs',r6,γ,ε,ζ,η,θ])
   rfl
  ·rw[h] at e15;have hf:=Zw hr;have e15b:=YN hb hP (fmW f) (Wg hr);have e11:=wC hb hW f hf;have e12:=kW hb f f hf;have e14:=Xp hb f hf;have hw:zO f=(fmW f,0):=by unfold zO;rw[hr,if_pos rfl]
   rw[hr] at e14;rw[Wf] at e12;rw[hw] at e11;rw[vN hr] at e15b;generalize fmW f=t at *;dsimp only at e15 e11 e15b;clear hw h hr hf;unfold fmE qJ at *;repeat'(first|apply je<;>intro _|simp(disch:=first|exact dzB|fail) only[e9,e15,e15b,e11,e12,e14,hs',r6,γ,ε,ζ,η,θ])
 ·have hs':(3000:Int)<(s.length:Int):=om
  repeat'(first|apply je<;>intro _|simp(disch:=first|exact dzB|fail) only[e9,hs',r6,γ,ε,ζ,η,θ])
theorem law5_ok (hb:NB base)(hP:PC base)(hW:PW base):XB δ base 5 [] st0 (λv _=>v=.bool true) λ_ _=>False:=by
 have e9:=Xo hb hP hW;have e16:=λ(st:St) (K Kp:AV->St->Prop)=>(YO hb ⟨1,[]⟩ ⟨dc,dc⟩ [] dc).xb (st:=st) (aZ':=[.agg [.int .i64 1,.nils],.nils]) (jD (by rfl) (jD (by rfl) qI)) (λst=>hb.no 16 dc _ _) K Kp;have e15:=YN hb hP [] dc;have h1:qp ⟨1,[]⟩ []=(false,21):=by kernel_rfl
 have h2:zi []=(⟨0,[]⟩,22):=by kernel_rfl
 rw[h1] at e16;rw[h2] at e15;have e11:=λst K Kp=>ja4 hb hW (n:=-(0+1)) dc st K Kp;refine JR x5 (by rfl) (hb.at0 5 dc dc _ _) ?_;simp only[y5,jv,ξ,τ,ψ,χ];rw[(by unfold z5;simp only[qq];rfl:z5=_)];have e15:Tot base 15 [.str []] (.tup [.agg [.int .i64 0,.lst 0 []],.int .i64 22]):=e15;repeat'(first|apply je<;>intro _|simp(disch:=first|exact dzB|fail) only[e9,e16,e15,e11,r6,γ,ε,ζ,η,θ])
 exact congrArg AV.bool (decide_eq_true (p:=True) trivial)
theorem S24 {h:T AO}{b n:Nat}{v:Int}{cs:List AV}(ho:0+2<=qh h b)(hv:rats h b 0 2=[.int .i64 v,.lst n cs]):(jM δ 24 (.ptr b 0) (.agg [.int .i64 v,.lst n cs]) h=true)=True:=jfo ho hv rfl
set_option maxHeartbeats 4000000 in
theorem law8_ok (hb:NB base)(hP:PC base)(hW:PW base)(f:FmT)(vs:List Bool):XB δ base 8 [.agg (fmE f),bsV vs] st0 (λv _=>v=.bool true) λ_ _=>False:=by
 have e9:=Xo hb hP hW;have e10:=wu hb f;refine JR x8 (by rfl) (hb.at0 8 dc dc _ _) ?_;simp only[y8,jv,ξ,τ,ψ,χ];rw[(by unfold z8;simp only[qq];rfl:z8=_)];cases hg:J3 f with
 |true=>
  rw[hg] at e10;unfold fmE qJ at *;unfold bsV at *;repeat'(first|apply je<;>intro _|simp(disch:=first|exact dzB|fail) only[e9,e10,r6,γ,ε,ζ,η,θ])
 |false=>
  rw[hg] at e10;by_cases h2:vs.length<=200
  ·have hf:=ZI hg;have hv:vs.length<=BIG:=by unfold BIG;omega
   have e18:=gE hb f hf vs hv;have e19:=jch hb f hf vs hv;have e16:=λ(st:St) (K Kp:AV->St->Prop)=>(YO hb f hf vs hv).pa (by simp[zw,uu]) (λst=>hb.no 16 dc _ _) st K Kp;have e11:=wC hb hW f hf;have e20:=jcc hb f hf;have e14:=Xp hb f hf;have e21:=vB hb f hf;have hh:qp f vs=(decide ((yN f vs).2=0) && decide ((yN f vs).1<0),(yN f vs).2):=rfl;rw[hh] at e16;clear hh hf hv;generalize yN f vs=p at *;generalize jx f=r at *;obtain⟨a,e⟩:=p;obtain⟨q,hq⟩:∃ q,zO f=q:=⟨_,rfl⟩;rw[hq] at e11 e20;obtain⟨t,i⟩:=q;dsimp only at *;unfold fmE qJ at *;unfold bsV at *;have h2':¬ (200:Int)<(vs.length:Int):=om
   repeat'(first|apply je<;>intro _|simp(disch:=first|exact dzB|fail) only[e9,e10,e18,e19,e16,e11,e20,e14,e21,h2',yI,S24,bEq,beq_self_eq_true,r6,γ,ε,ζ,η,θ])
   all_goals first
    |exact congrArg AV.bool (decide_eq_true (p:=True) trivial)
    |rfl
    |(exfalso;simp_all;done)
  ·have h2':(200:Int)<(vs.length:Int):=om
   unfold fmE qJ at *;unfold bsV at *;repeat'(first|apply je<;>intro _|simp(disch:=first|exact dzB|fail) only[e9,e10,h2',r6,γ,ε,ζ,η,θ])
set_option maxHeartbeats 4000000 in
theorem law3_ok (hb:NB base)(hP:PC base)(hW:PW base)(f g:FmT):XB δ base 3 [.agg (fmE f),.agg (fmE g)] st0 (λv _=>v=.bool true) λ_ _=>False:=by
 have e9:=Xo hb hP hW;have e10:=wu hb f;have e10g:=wu hb g;refine JR x3 (by rfl) (hb.at0 3 dc dc _ _) ?_;simp only[y3,jv,ξ,τ,ψ,χ];rw[(by unfold z3;simp only[qq];rfl:z3=_)];cases hg1:J3 f with
 |true=>
  rw[hg1] at e10;unfold fmE qJ at *;repeat'(first|apply je<;>intro _|simp(disch:=first|exact dzB|fail) only[e9,e10,r6,γ,ε,ζ,η,θ])
 |false=>
  rw[hg1] at e10;cases hg2:J3 g with
  |true=>
   rw[hg2] at e10g;unfold fmE qJ at *;repeat'(first|apply je<;>intro _|simp(disch:=first|exact dzB|fail) only[e9,e10,e10g,r6,γ,ε,ζ,η,θ])
  |false=>
   rw[hg2] at e10g;have hf:=ZI hg1;have e12:=kW hb f g hf;have e13:=gA hb f g hf;have e12f:=kW hb f f hf;have e11:=wC hb hW f hf;have e14:=Xp hb f hf;rw[Wf] at e12f;have hw:zO f=if jx f=true then(fmW f,0) else([],21):=rfl
   rw[hw] at e11;generalize (decide (f.vars=g.vars) && decide (f.cls=g.cls))=sm at *;cases hr:jx f with
   |true=>
    have e15:=YN hb hP (fmW f) (Wg hr);rw[vN hr] at e15;rw[hr,if_pos rfl] at e11;rw[hr] at e14;dsimp only at e11 e15;generalize fmW f=t at *;clear hw;unfold fmE qJ at *;repeat'(first|apply je<;>intro _|simp(disch:=first|exact dzB|fail) only[e9,e10,e10g,e12,e13,e12f,e11,e14,e15,S24,bNe,bne_self_eq_false,r6,γ,ε,ζ,η,θ])
    all_goals first
     |exact congrArg AV.bool (decide_eq_true (p:=True) trivial)
     |rfl
     |(exfalso;simp_all;done)
   |false=>
    rw[hr,if_neg dc] at e11;rw[hr] at e14;dsimp only at e11;unfold fmE qJ at *;repeat'(first|apply je<;>intro _|simp(disch:=first|exact dzB|fail) only[e9,e10,e10g,e12,e13,e11,e14,S24,bNe,bne_self_eq_false,r6,γ,ε,ζ,η,θ])
    all_goals first
     |exact congrArg AV.bool (decide_eq_true (p:=True) trivial)
     |rfl
     |(exfalso;simp_all;done)
theorem gg {α:Type}{q:α->Bool}:∀ {c:List α},decide (0<=fi q c)=c.any q
 |[]=>by simp[fi]
 |x :: xs=>by
  have ih:=gg (q:=q) (c:=xs);rw[List.any_cons,<-ih];by_cases h:q x=true
  ·simp[fi,h]
  ·have e:fi q (x :: xs)=if fi q xs<0 then -1 else fi q xs+1:=by simp[fi,h]
   simp at h;rw[e,h,Bool.false_or,decide_eq_decide];split<;>omega
theorem jeE {α:Type}{q:α->Bool}{c:List α}:fi q c<0↔c.any q=false:=by
 rw[<-gg,decide_eq_false_iff_not];omega
theorem Xk (f:FmT)(vs:List Bool):(qp f vs).2=0↔jx f=true/\(vs.length:Int)=f.vars:=by
 unfold qp yN;split
 ·rename_i h;exact⟨λ_=>h,λ_=>rfl⟩
 ·rename_i h;exact⟨λe=>by simp at e,λe=>absurd e h⟩
theorem wt {f:FmT}{vs:List Bool}(h:(qp f vs).2=0):(qp f vs).1=true↔f.cls.any (QL vs)=false:=by
 have h2:=(Xk f vs).1 h;rw[<-jeE];unfold qp yN;rw[if_pos h2];simp
theorem QA (f:FmT):jx f=true↔(0<=f.vars/\f.vars<=262144/\f.cls.length<=1048576/\qb f.cls<=4194304/\∀ c∈f.cls,c.any (zb f)=false):=by
 unfold jx;rw[decide_eq_true_eq]
theorem WV (a b:List ClT):qb (a ++ b)=qb a+qb b:=by unfold qb;rw[QaI,List.sum_append]
theorem jdI {v:Int}{cs:List ClT}{vs:List Bool}(hn:cs.length<=1000)(h:(qp ⟨v,cs⟩ vs).2=0) :
  (qp ⟨v,[]⟩ vs).2=0/\(qp ⟨v,[]⟩ vs).1=true/\(qp ⟨v,cs ++ [[]]⟩ vs).2=0/\(qp ⟨v,cs ++ [[]]⟩ vs).1=false:=by
 obtain⟨hr,hl⟩:=(Xk _ _).1 h;obtain⟨r1,r2,r3,r4,r5⟩:=(QA _).1 hr;dsimp only at r1 r2 r3 r4 r5 hl;have a1:(qp ⟨v,[]⟩ vs).2=0:=(Xk _ _).2 ⟨(QA _).2 ⟨r1,r2,Qaa _,Qaa _,λc hc=>by cases hc⟩,hl⟩;have a2:(qp ⟨v,cs ++ [[]]⟩ vs).2=0:=(Xk _ _).2 ⟨(QA _).2 ⟨r1,r2,by show(cs ++ [[]]).length<=_;rw[υ,QaR];omega,by show qb (cs ++ [[]])<=_;rw[WV];exact r4,λc hc=>by
  rcases QaA.1 hc with hc|hc
  ·exact r5 c hc
  ·rw[QaG.1 hc];rfl⟩,hl⟩
 refine⟨a1,(wt a1).2 rfl,a2,?_⟩;rw[Bool.eq_false_iff];intro h3;have:=(wt a2).1 h3;dsimp only at this;rw[List.any_append] at this;simp[QL] at this
theorem jdH {v:Int}{cs:List ClT}{c:ClT}{vs:List Bool}(h:(qp ⟨v,cs ++ [c]⟩ vs).2=0) :
  (qp ⟨v,cs⟩ vs).2=0/\((qp ⟨v,cs ++ [c]⟩ vs).1=true->(qp ⟨v,cs⟩ vs).1=true):=by
 obtain⟨hr,hl⟩:=(Xk _ _).1 h;obtain⟨r1,r2,r3,r4,r5⟩:=(QA _).1 hr;dsimp only at r1 r2 r3 r4 r5 hl;rw[υ] at r3;rw[WV] at r4;have a1:(qp ⟨v,cs⟩ vs).2=0:=(Xk _ _).2 ⟨(QA _).2 ⟨r1,r2,by show cs.length<=_;omega,by show qb cs<=_;omega,λd hd=>r5 d (QbV _ hd)⟩,hl⟩;refine⟨a1,λh3=>(wt a1).2 ?_⟩;have:=(wt h).1 h3;dsimp only at this ⊢;rw[List.any_append,Qbp] at this;exact this.1
theorem S3 {h:T AO}{b:Nat}{v:Int}(ho:0<qh h b)(hv:rat h b 0=.int .i64 v):(jM δ 3 (.ptr b 0) (.int .i64 v) h=true)=True:=sm3 ho hv rfl
theorem S3c {s:St}{v:Int}{x:AV}(C:Cl s 0 [.int .i64 v,x]):(jM δ 3 (.ptr 0 0) (.int .i64 v) s.h=true)=True:=S3 (by rw[C.len];simp) (by have:=C.cell 0 (by simp);simpa using this)
theorem S22 {h:T AO}{b n:Nat}{v:AV}{cs:List AV}(ho:1<qh h b)(hv:rat h b 1=.lst n cs):(jM δ 22 (.ptr b 1) (.lst n cs) h=true)=True:=jec ho hv rfl
theorem jai {s:St}{lo hi b:Nat}:∀ cs:List ClT,InL s lo hi b (fl clE cs) cs
 |[]=>trivial
 |c :: cs=>⟨.inl rfl,jai cs⟩
theorem jdL (cs:List ClT):(fl clE cs).length=cs.length:=by
 induction cs with
 |nil=>rfl
 |cons c cs ih=>rw[show fl clE (c :: cs)=clV c :: fl clE cs from rfl,Qad,Qad,ih]
theorem grow {s:St}{cs:List ClT}{c:ClT}{x:AV}(hx:x=clV c\/(x=.nils/\c=[]))(hn:cs.length<=1000) :
  ∃ (v2:AV) (s2:St) (b:Nat) (ex:Bool) (s4:St),(∀ K:AV->St->Prop,jd (yQ 1 24 (.slice s.nx 0 0 0 1 true) (.lst cs.length (fl clE cs)) (Go.Sy.nw s [])) K=K v2 s2) /\
   (∀ K:AV->St->Prop,jd (yQ 1 24 v2 (.slice s2.nx 0 1 1 1 true) (Go.Sy.nw s2 [x])) K=K (.slice b 0 (cs.length+1) (cs.length+1) 1 ex) s4) /\
   LL s.nx s4.nx s4 (.slice b 0 (cs.length+1) (cs.length+1) 1 ex) (cs ++ [c])/\s.nx<=s2.nx/\s2.nx<=s4.nx/\s2.fr=s.fr/\s4.fr=s.fr/\(∀ d ds,d<s.nx->Cl s d ds->Cl s2 d ds)/\(∀ d ds,d<s.nx->Cl s d ds->Cl s4 d ds):=by
 obtain⟨v2,s2,e2,V2,A2⟩:=(show Lg s.nx (s.nx+1) (Go.Sy.nw s []) (.slice s.nx 0 0 0 1 true) 0 [] 1 from .inr (Lw.new (ν _) (QaY _))).appL (bytes:=24) (cs2:=fl clE cs) (n2:=cs.length) (by rw[jP];omega) (by rw[jP];omega) (jdL cs) om om;rw[Qan,Qax] at V2;have n2:=A2.nx;rw[jP] at n2;have f2:=A2.fr;rw[JF] at f2;obtain⟨v4,s4,e4,V4,A4⟩:=(V2.nwO [x]).app1 (bytes:=24) (xc:=1) (xx:=true) (Cl.new s2 [x]) (by rw[jP];omega) (by rw[jP];omega) om om;have n4:=A4.nx;rw[jP] at n4;have f4:=A4.fr;rw[JF] at f4;obtain⟨b,ex,rfl,h1,h2,h3,h4,h5⟩:Lw s.nx s4.nx s4 v4 (cs.length+1) (fl clE cs ++ [x]) 1:=V4.resolve_left (λh=>by omega);refine⟨v2,s2,b,ex,s4,e2,e4,.inr ⟨b,fl clE cs ++ [x],ex,by rw[υ,QaR],by simp,h3,h4,h5,(jai cs).app (hx.elim .inl (λh=>.inr (.inl h)))⟩,om,om,f2,f4.trans f2,λd ds hd C=>A2.cl d ds om (C.nw _),λd ds hd C=>A4.cl d ds om ((A2.cl d ds om (C.nw _)).nw _)⟩
set_option maxHeartbeats 4000000 in
theorem law4_ok (hb:NB base)(hP:PC base)(hW:PW base)(f:FmT)(c:ClT)(vs:List Bool):XB δ base 4 [.agg (fmE f),clV c,bsV vs] st0 (λv _=>v=.bool true) λ_ _=>False:=by
 have e9:=Xo hb hP hW;have e10:=wu hb f;have gr:=@kd f;refine JR x4 (by rfl) (hb.at0 4 dc dc _ _) ?_;simp only[y4,jv,ξ,τ,ψ,χ];rw[(by unfold z4;simp only[qq];rfl:z4=_)];have H:=λ(hv:vs.length<=BIG) (g:FmT) (hg:FmS g)=>YO hb g hg vs hv;obtain⟨v,cs⟩:=f;unfold fmE qJ at *;dsimp only at *;unfold bsV clV at *;cases hg:J3 ⟨v,cs⟩ with
 |true=>
  rw[hg] at e10;repeat'(first|apply je<;>intro _|simp(disch:=first|exact dzB|fail) only[e9,e10,r6,γ,ε,ζ,η,θ])
 |false=>
  rw[hg] at e10;obtain⟨g1,g2⟩:=gr hg;have hf:=ZI hg;by_cases h2:c.length<=50
  ·have h2':¬ (50:Int)<(c.length:Int):=om
   by_cases h3:vs.length<=100
   ·have h3':¬ (100:Int)<(vs.length:Int):=om
    have H:=H (by unfold BIG;omega);obtain⟨v2,s2,b,ex,s4,e2,e4,LV,n2,n4,f2,f4,k2,k4⟩:=grow (s:=Go.Sy.nw st0.bare [.int .i64 v,.lst cs.length (fl clE cs)]) (cs:=cs) (c:=c) (x:=clV c) (.inl rfl) om;have C0:Cl (Go.Sy.nw st0.bare [.int .i64 v,.lst cs.length (fl clE cs)]) 0 [.int .i64 v,.lst cs.length (fl clE cs)]:=Cl.new st0.bare _;have D2:=k2 0 _ (QaY _) C0;have D4:=k4 0 _ (QaY _) C0;have e2:∀ K:AV->St->Prop,jd (yQ 1 24 (.slice 1 0 0 0 1 true) (.lst cs.length (fl clE cs)) (Go.Sy.nw (Go.Sy.nw st0.bare [.int .i64 v,.lst cs.length (fl clE cs)]) [])) K=K v2 s2:=e2;have m2:1<=s2.nx:=n2;have q4:1<=s4.nx:=ω m2 n4;have f4:s4.fr=[]:=f4;obtain⟨t,ht⟩:∃ t,t=Go.Sy.wr (Go.Sy.nw s4 [.int .i64 0,.nils]) s4.nx 0 [.int .i64 v,.slice b 0 (cs.length+1) (cs.length+1) 1 ex]:=⟨_,rfl⟩;have nt:t.nx=s4.nx+1:=by rw[ht];rfl
    have CB:Cl t s4.nx [.int .i64 v,.slice b 0 (cs.length+1) (cs.length+1) 1 ex]:=by rw[ht];(first|exact cyB|fail)
    have T0:Cl t 0 [.int .i64 v,.lst cs.length (fl clE cs)]:=by rw[ht];exact(D4.nw _).wrO om _ _
    have LT:LL 1 s4.nx t (.slice b 0 (cs.length+1) (cs.length+1) 1 ex) (cs ++ [c]):=by
     rw[ht];exact(LL.keep (lo:=1) LV (ApX.nw s4 _) (.inl (ν _))).keep (ApX.wr _ _ _ _) (.inl (ν _))
    obtain⟨w2,u2,b',ex',u4,g2',g4',LU,p2,p4,fu2,fu4,j2,j4⟩:=grow (s:=t) (cs:=cs) (c:=[]) (x:=.nils) (.inr ⟨rfl,rfl⟩) om;have U2:=j2 0 _ om T0;have U4:=j4 0 _ om T0;have UB:=j4 s4.nx _ om CB;have LW:LL 1 s4.nx u4 (.slice b 0 (cs.length+1) (cs.length+1) 1 ex) (cs ++ [c]):=LT.keep (lo2:=t.nx) (hi2:=u4.nx) ⟨om,fu4,λd ds hd C=>by
     rcases hd with hd|hd
     ·exact j4 d ds hd C
     ·exact absurd C.lt om⟩ (.inl om)
    obtain⟨u,hu⟩:∃ u,u=Go.Sy.wr (Go.Sy.nw u4 [.int .i64 0,.nils]) u4.nx 0 [.int .i64 v,.slice b' 0 (cs.length+1) (cs.length+1) 1 ex']:=⟨_,rfl⟩;have X0:Cl u 0 [.int .i64 v,.lst cs.length (fl clE cs)]:=by rw[hu];exact(U4.nw _).wrO om _ _
    have XB1:Cl u s4.nx [.int .i64 v,.slice b 0 (cs.length+1) (cs.length+1) 1 ex]:=by rw[hu];exact(UB.nw _).wrO om _ _
    have XB2:Cl u u4.nx [.int .i64 v,.slice b' 0 (cs.length+1) (cs.length+1) 1 ex']:=by rw[hu];(first|exact cyB|fail)
    have L1:LL 1 s4.nx u (.slice b 0 (cs.length+1) (cs.length+1) 1 ex) (cs ++ [c]):=by
     rw[hu];exact(LW.keep (ApX.nw u4 _) (.inl om)).keep (ApX.wr _ _ _ _) (.inl om)
    have L2:LL t.nx u4.nx u (.slice b' 0 (cs.length+1) (cs.length+1) 1 ex') (cs ++ [[]]):=by
     rw[hu];exact(LU.keep (ApX.nw u4 _) (.inl (ν _))).keep (ApX.wr _ _ _ _) (.inl (ν _))
    have hsz:∀ d:ClT,d.length<=50->FmS ⟨v,cs ++ [d]⟩:=λd hd=>⟨by show(cs ++ [d]).length<=BIG;rw[υ,QaR];unfold BIG;omega,λx hx=>by
     rcases QaA.1 hx with hx|hx
     ·have:=g2 x hx;unfold BIG;omega
     ·rw[QaG.1 hx];unfold BIG;omega⟩
    have pv:lend u.h (.lst vs.length (vs.map .bool))=some (.lst vs.length (vs.map .bool)):=zt (uu vs);have h1:=λ(K Kp:AV->St->Prop)=>(H ⟨v,cs⟩ hf).xb (st:=u) (aZ':=[.agg [.int .i64 v,.lst cs.length (fl clE cs)],.lst vs.length (vs.map .bool)]) (jD (zt (zw ⟨v,cs⟩)) (jD pv qI)) (λst=>hb.no 16 dc _ _) K Kp;have h2:=λ(K Kp:AV->St->Prop)=>(H ⟨v,cs ++ [c]⟩ (hsz c h2)).xb (st:=u) (aZ':=[.agg [.int .i64 v,.slice b 0 (cs.length+1) (cs.length+1) 1 ex],.lst vs.length (vs.map .bool)]) (jD (Y9 v L1) (jD pv qI)) (λst=>hb.no 16 dc _ _) K Kp;have h3:=λ(K Kp:AV->St->Prop)=>(H ⟨v,cs ++ [[]]⟩ (hsz [] (Qaa _))).xb (st:=u) (aZ':=[.agg [.int .i64 v,.slice b' 0 (cs.length+1) (cs.length+1) 1 ex'],.lst vs.length (vs.map .bool)]) (jD (Y9 v L2) (jD pv qI)) (λst=>hb.no 16 dc _ _) K Kp;have h4:=λ(K Kp:AV->St->Prop)=>(H ⟨v,[]⟩ ⟨Qaa _,λx hx=>by cases hx⟩).xb (st:=u) (aZ':=[.agg [.int .i64 v,.nils],.lst vs.length (vs.map .bool)]) (jD (by rfl) (jD pv qI)) (λst=>hb.no 16 dc _ _) K Kp;have G1:=@jdI v cs vs om;have G2:=@jdH v cs c vs;clear H hsz k2 k4 j2 j4;unfold clV at e4
    (have zz:=aI C0.r (aI D2.r (aI D4.r (aI T0.r (aI U2.r U4.r))));(repeat'(first|apply je<;>intro _|simp(disch:=first|exact qZ|fail) only[e9,e10,h2',h3',S3,S22,S3c D2,S3c D4,S3c (D2.nw [.lst c.length (c.map (.int .i32))]),S3c T0,S3c (T0.nw []),S3c U2,S3c (U2.nw [.nils]),S3c U4,e2,e4,g2',g4',<-ht,<-hu,C0.q,D2.q,D4.q,T0.q,U2.q,U4.q,C0.r,D2.r,D4.r,T0.r,U2.r,U4.r,r6,γ,ε,ζ,η,θ]));all_goals clear zz)
    clear e2 e4 g2' g4' LV LT LU LW D2 D4 T0 U2 U4 UB CB e9 e10;generalize qp ⟨v,cs⟩ vs=r1 at *;generalize qp ⟨v,cs ++ [c]⟩ vs=r2 at *;generalize qp ⟨v,cs ++ [[]]⟩ vs=r3 at *;generalize qp ⟨v,[]⟩ vs=r4 at *;obtain⟨a1,i1⟩:=r1;obtain⟨a2,i2⟩:=r2;obtain⟨a3,i3⟩:=r3;obtain⟨a4,i4⟩:=r4;dsimp only at h1 h2 h3 h4 G1 G2;have nU:u.nx=u4.nx+1:=by rw[hu];rfl
    clear hu ht
    (have zz:=aI X0.r (aI @XB1.r @XB2.r);(repeat'(first|apply je<;>intro _|simp(disch:=first|exact qZ|fail) only[h1,h2,h3,h4,yI,X0.q,XB1.q,XB2.q,X0.r,XB1.r,XB2.r,r6,γ,ε,ζ,η,θ]));all_goals clear zz)
    all_goals clear h1 h2 h3 h4 X0 XB1 XB2 L1 L2 pv C0 hf gr hg g2
    all_goals(first|rfl|(by_cases k1:i1=0<;>by_cases k2:i2=0<;>simp_all))
   ·have h3':(100:Int)<(vs.length:Int):=om
    repeat'(first|apply je<;>intro _|simp(disch:=first|exact dzB|fail) only[e9,e10,h2',h3',r6,γ,ε,ζ,η,θ])
  ·have h2':(50:Int)<(c.length:Int):=om
   repeat'(first|apply je<;>intro _|simp(disch:=first|exact dzB|fail) only[e9,e10,h2',r6,γ,ε,ζ,η,θ])
end Go.Sy
end
noncomputable section
set_option maxRecDepth 100000
namespace Go.Sy
open Go.Ev Go.Proofs Go.Lib
def nl (l:List UInt8):List Nat:=l.map UInt8.toNat
theorem ZD (l:List UInt8):(nl l).length=l.length:=QaC _
theorem HL {b:UInt8}(hb:b≠10)(k:Nat)(t:List UInt8):∃ x xs,splitK [10] 0 k t=x :: xs/\splitK [10] 0 k (b :: t)=(b :: x) :: xs:=by
 have hp:([10]:List UInt8).isPrefixOf (b :: t)=false:=by simp[List.isPrefixOf,Ne.symm hb]
 have hix:index (b :: t) [10]=if index t [10] == -1 then -1 else index t [10]+1:=by rw[index,hp];simp
 cases k with
 |zero=>exact⟨t,[],rfl,rfl⟩
 |succ k=>
  unfold splitK;by_cases hm:index t [10]=-1
  ·rw[hix,hm];exact⟨t,[],rfl,rfl⟩
  ·have hge:=index_ge t [10];obtain⟨j,hj⟩:∃ j:Nat,index t [10]=j:=⟨(index t [10]).toNat,om⟩;have e1:(index t [10] == -1)=false:=beq_eq_false_iff_ne.2 hm;have hix':index (b :: t) [10]=((j+1:Nat):Int):=by rw[hix,e1,hj];simp
   have e2:(index (b :: t) [10] == -1)=false:=beq_eq_false_iff_ne.2 om;rw[e2,e1,hix',hj];refine⟨t.take (j+0),splitK [10] 0 k (t.drop (j+1)),?_,?_⟩
   ·simp
   ·simp
theorem HM (k:Nat)(t:List UInt8):splitK [10] 0 (k+1) (10 :: t)=[] :: splitK [10] 0 k t:=by
 have hix:index (10 :: t) [10]=((0:Nat):Int):=by rw[index];simp[List.isPrefixOf]
 have e2:(index (10 :: t) [10] == -1)=false:=beq_eq_false_iff_ne.2 om;rw[splitK,e2,hix];simp
theorem YV:∀ (s l:List Nat),∃ x xs,qC [] s=x :: xs/\qC l s=(l ++ x) :: xs
 |[],l=>⟨[],[],rfl,by rw[Qaz];rfl⟩
 |c :: r,l=>by
  by_cases hc:c=10
  ·refine⟨[],qC [] r,?_,?_⟩
   ·rw[qC,if_pos hc]
   ·rw[qC,if_pos hc,Qaz]
  ·obtain⟨x,xs,h1,h2⟩:=YV r (l ++ [c]);obtain⟨y,ys,h3,h4⟩:=YV r [c];rw[h1] at h3;injection h3 with h3 h5
   subst h3 h5;refine⟨[c] ++ x,xs,?_,?_⟩
   ·rw[qC,if_neg hc];exact h4
   ·rw[qC,if_neg hc,h2,QaN]
theorem KH:∀ l:List UInt8,(splitK [10] 0 (count l [10]) l).map nl=qC [] (nl l)
 |[]=>rfl
 |b :: t=>by
  have ih:=KH t;by_cases hb:b=10
  ·subst hb;rw[count_cons_eq,Qbx,HM,ξ,ih];show _=qC [] (10 :: nl t);rw[qC,if_pos rfl];rfl
  ·rw[count_cons_ne b 10 t hb];obtain⟨x,xs,h1,h2⟩:=HL hb (count t [10]) t;rw[h1] at ih;rw[h2,ξ];have hb2:¬ b.toNat=10:=λh=>hb (UInt8.toNat_inj.1 h);show _=qC [] (b.toNat :: nl t);rw[qC,if_neg hb2];obtain⟨y,ys,h3,h4⟩:=YV (nl t) ([] ++ [b.toNat]);rw[h4];rw[h3,ξ] at ih;injection ih with ih1 ih2
   rw[<-ih1,ih2];rfl
theorem jbi (s:ByteArray):(splitB ⟨#[10]⟩ 0 (countB s ⟨#[10]⟩) s).map (λb=>nl b.data.toList)=Jv (nl s.data.toList):=by
 have h:=splitB_data ⟨#[10]⟩ 0 (countB s ⟨#[10]⟩) s;have h2:=KH s.data.toList;have e:(splitB ⟨#[10]⟩ 0 (countB s ⟨#[10]⟩) s).map (λb=>nl b.data.toList)=((splitB ⟨#[10]⟩ 0 (countB s ⟨#[10]⟩) s).map (·.data.toList)).map nl:=by rw[QaD];rfl
 rw[e,h];exact h2
theorem jaS (s:ByteArray)(pos:Nat)(h:pos<s.data.toList.length):((s.data.toList.getD pos 0).toNat<128/\Utf8.decode s pos=((s.data.toList.getD pos 0).toNat,1))\/(128<=(s.data.toList.getD pos 0).toNat/\128<=(Utf8.decode s pos).1/\1<=(Utf8.decode s pos).2/\pos+(Utf8.decode s pos).2<=s.data.toList.length/\∀ j,j<(Utf8.decode s pos).2->128<=(s.data.toList.getD (pos+j) 0).toNat):=by
 rw[decode_N];have key:∀ n b0 b1 b2 b3:Nat,b0<256->b1<256->b2<256->b3<256->0<n->(b0<128/\decodeN n b0 b1 b2 b3=(b0,1))\/(128<=b0/\128<=(decodeN n b0 b1 b2 b3).1/\1<=(decodeN n b0 b1 b2 b3).2/\(decodeN n b0 b1 b2 b3).2<=n/\(decodeN n b0 b1 b2 b3).2<=4/\(2<=(decodeN n b0 b1 b2 b3).2->128<=b1)/\(3<=(decodeN n b0 b1 b2 b3).2->128<=b2)/\(4<=(decodeN n b0 b1 b2 b3).2->128<=b3)):=by
  intro n b0 b1 b2 b3 k0 k1 k2 k3 hn;rcases Qau b0 128 with hb|hb
  ·exact .inl ⟨hb,by unfold decodeN;rw[if_pos hb]⟩
  ·refine .inr ⟨hb,?_⟩;unfold decodeN;repeat' split
   all_goals(simp only;omega)
 rcases key (s.data.toList.length - pos) (s.data.toList.getD pos 0).toNat (s.data.toList.getD (pos+1) 0).toNat (s.data.toList.getD (pos+2) 0).toNat (s.data.toList.getD (pos+3) 0).toNat (UInt8.toNat_lt _) (UInt8.toNat_lt _) (UInt8.toNat_lt _) (UInt8.toNat_lt _) om with h1|⟨h1,h2,h3,h4,h5,h6,h7,h8⟩
 ·exact .inl h1
 ·refine .inr ⟨h1,h2,h3,om,λj hj=>?_⟩
  match j,hj with
  |0,_=>exact h1
  |1,hj=>exact h6 om
  |2,hj=>exact h7 om
  |3,hj=>exact h8 om
  |j+4,hj=>omega
def blankP (x:Nat):Bool:=decide (x=32) ||decide (x=9) ||decide (x=10)
theorem jcF (l:List UInt8)(i:Nat):(nl l).getD i 0=(l.getD i 0).toNat:=by
 unfold nl;rw[Qag,Qag,Qbe];cases l[i]?<;>rfl
def Ju (l:List Nat)(pos:Nat):Option Nat->List Nat
 |none=>[]
 |some a=>(l.take pos).drop a
def Xv (s:ByteArray)(x:Nat×Nat):List Nat:=nl (s.extract x.1 x.2).data.toList
theorem UI (s:ByteArray)(a b:Nat):Xv s (a,b)=((nl s.data.toList).take b).drop a:=by
 unfold Xv nl;rw[extract_data,List.map_take,List.map_drop,List.drop_take]
theorem jdn (p:Nat->Bool)(s:ByteArray)(f pos:Nat)(st:Option Nat)(acc:List (Nat×Nat))(h:pos<s.size)(hp:p (Utf8.decode s pos).1=true):spansFromP p s (f+1) pos st acc=spansFromP p s f (pos+(Utf8.decode s pos).2) none (match st with|some a=>acc ++ [(a,pos)]|none=>acc):=by
 conv=>lhs;unfold spansFromP
 rw[if_pos h,if_pos hp];cases st<;>rfl
theorem KI (p:Nat->Bool)(s:ByteArray)(f pos:Nat)(st:Option Nat)(acc:List (Nat×Nat))(h:pos<s.size)(hp:p (Utf8.decode s pos).1=false):spansFromP p s (f+1) pos st acc=spansFromP p s f (pos+(Utf8.decode s pos).2) (some (st.getD pos)) acc:=by
 conv=>lhs;unfold spansFromP
 rw[if_pos h,if_neg (by rw[hp];decide)];cases st<;>rfl
theorem jbj (s:ByteArray)(h10:10∉nl s.data.toList):∀ (f pos:Nat) (st:Option Nat) (acc:List (Nat×Nat)),pos<=(nl s.data.toList).length->(nl s.data.toList).length<=pos+f->(∀ a,st=some a->a<pos)->
  (closeSpans s (spansFromP blankP s f pos st acc)).map (Xv s)=acc.map (Xv s) ++ jt (Ju (nl s.data.toList) pos st) ((nl s.data.toList).drop pos):=by
 have hsz:s.size=(nl s.data.toList).length:=by rw[ZD,size_eq]
 have fin:∀ (pos:Nat) (st:Option Nat) (acc:List (Nat×Nat)),pos=(nl s.data.toList).length->(∀ a,st=some a->a<pos)->(closeSpans s (acc,st)).map (Xv s)=acc.map (Xv s) ++ jt (Ju (nl s.data.toList) pos st) ((nl s.data.toList).drop pos):=by
  intro pos st acc hp ha;rw[Qbk om,jt];cases st with
  |none=>simp[closeSpans,Ju]
  |some a=>
   have:=ha a rfl;have hne:((nl s.data.toList).take pos).drop a≠[]:=λe=>by
    have:=congrArg QaX e;rw[QaO,QaL] at this;simp at this;omega
   show(acc ++ [(a,s.size)]).map (Xv s)=_;rw[QaI,ξ,UI,hsz,<-hp,Ju,if_neg hne];rfl
 intro f;induction f with
 |zero=>exact λpos st acc h1 h2 h3=>fin pos st acc om h3
 |succ f ih=>
  intro pos st acc h1 h2 h3;by_cases hp:pos<(nl s.data.toList).length
  ·have hp2:pos<s.size:=om
   have hp3:pos<s.data.toList.length:=by rw[ZD] at hp;exact hp
   have hd:(nl s.data.toList).drop pos=(nl s.data.toList).getD pos 0 :: (nl s.data.toList).drop (pos+1):=by
    rw[QbD hp,Qag,Qac hp];rfl
   have hmem:(nl s.data.toList).getD pos 0∈nl s.data.toList:=by
    rw[Qag,Qac hp];exact Qaf hp
   have htk:∀ n,pos+n<=(nl s.data.toList).length->∀ a,a<=pos->((nl s.data.toList).take (pos+n)).drop a=((nl s.data.toList).take pos).drop a ++ ((nl s.data.toList).drop pos).take n:=λn hn a ha=>by
    rw[List.take_add,List.drop_append_of_le_length (by rw[QaL];omega)]
   rcases jaS s pos hp3 with ⟨hb,e⟩|⟨hb,hr,hw,hle,hall⟩
   ·rw[<-jcF] at hb e;have hn10:(nl s.data.toList).getD pos 0≠10:=λe=>h10 (e▸hmem);have hbl:blankP ((nl s.data.toList).getD pos 0)=yE ((nl s.data.toList).getD pos 0):=by unfold blankP yE;rw[decide_eq_false hn10,Bool.or_false]
    have hcur:=htk 1 om;rw[hd] at hcur;have s1:=jdn blankP s f pos st acc hp2;have s2:=KI blankP s f pos st acc hp2;rw[e] at s1 s2;dsimp only at s1 s2;rw[hbl] at s1 s2;rw[hd,jt];generalize (nl s.data.toList).getD pos 0=b at *;cases hi:yE b with
    |true=>
     rw[s1 hi,if_pos rfl];cases st with
     |none=>rw[ih _ _ _ om om (λa h=>by cases h)];rw[Ju,Ju,if_pos rfl]
     |some a=>
      have:=h3 a rfl;have hne:((nl s.data.toList).take pos).drop a≠[]:=λe=>by
       have:=congrArg QaX e;rw[QaO,QaL] at this;simp at this;omega
      rw[ih _ _ _ om om (λa h=>by cases h),Ju,Ju,if_neg hne,QaI,ξ,UI,QaN];rfl
    |false=>
     rw[s2 hi,if_neg dc];cases st with
     |none=>
      rw[ih _ _ _ om om (λa h=>by injection h with h;subst h;show pos<_;omega),Option.getD_none,Ju,Ju,hcur pos (ν _),Qbk (by rw[QaL];omega)];rfl
     |some a=>
      have:=h3 a rfl;rw[ih _ _ _ om om (λa' h=>by injection h with h;subst h;show a<_;omega),Qar,Ju,Ju,hcur a om];rfl
   ·have hbl:blankP (Utf8.decode s pos).1=false:=by
     unfold blankP;rw[decide_eq_false om,decide_eq_false om,decide_eq_false om];rfl
    rw[KI blankP s f pos st acc hp2 hbl];generalize (Utf8.decode s pos).2=n at *;rw[<-ZD] at hle;have hgo:∀ w,jt w ((nl s.data.toList).drop pos)=jt (w ++ ((nl s.data.toList).drop pos).take n) ((nl s.data.toList).drop (pos+n)):=λw=>by
     conv=>lhs;rw[<-Qbt n ((nl s.data.toList).drop pos)]
     rw[QK _ _ _ λc hc=>?_,List.drop_drop];obtain⟨i,hi,he⟩:=List.getElem_of_mem hc;rw[QaL] at hi;rw[List.getElem_take,List.getElem_drop] at he;have h2:=hall i om;rw[<-jcF,Qag,Qac (by rw[QaO] at hi;omega)] at h2;simp only[Qar] at h2;rw[he] at h2;unfold yE;rw[decide_eq_false om,decide_eq_false om];rfl
    have hcur:=htk n om;cases st with
    |none=>
     rw[ih _ _ _ om om (λa h=>by injection h with h;subst h;show pos<_;omega),Option.getD_none,Ju,Ju,hcur pos (ν _),Qbk (by rw[QaL];omega),hgo]
    |some a=>
     have:=h3 a rfl;rw[ih _ _ _ om om (λa' h=>by injection h with h;subst h;show a<_;omega),Qar,Ju,Ju,hcur a om,hgo]
  ·rw[spansFromP_end _ _ _ _ _ _ om];exact fin pos st acc om h3
theorem jaD (s:ByteArray)(h10:10∉nl s.data.toList):(goFieldsP blankP s).map (λb=>nl b.data.toList)=jt [] (nl s.data.toList):=by
 have h:=jbj s h10 s.size 0 none [] (Qaa _) (by rw[ZD,<-size_eq];omega) (λa h=>by cases h);unfold goFieldsP spansOfP;rw[QaD];exact h
def dig10:List UInt8:=[48,49,50,51,52,53,54,55,56,57]
theorem Vi (b:UInt8):dig10.contains b=qe b.toNat:=by
 have h:∀ n,n<256->dig10.contains (UInt8.ofNat n)=qe n:=dc
 have:=h b.toNat (UInt8.toNat_lt b);rwa [UInt8.ofNat_toNat] at this
theorem jaP {α:Type}{p:α->Bool}:∀ {l:List α},l.dropWhile p=[]↔∀ x∈l,p x=true
 |[]=>by simp
 |x :: l=>by
  rw[List.dropWhile_cons];cases h:p x with
  |true=>rw[if_pos rfl,jaP];simp[h]
  |false=>simp[h]
theorem jbh (l:List UInt8):trimS l dig10=[]↔(nl l).all qe=true:=by
 unfold trimS trimLeftS trimRightS nl;rw[jaP,List.all_map];constructor
 ·intro h;rw[Qal];intro b hb;show qe b.toNat=true;rw[<-Vi];by_cases hm:b∈(l.reverse.dropWhile (dig10.contains ·)).reverse
  ·exact h b hm
  ·have h1:b∈l.reverse:=List.mem_reverse.2 hb;rw[<-List.takeWhile_append_dropWhile (p:=(dig10.contains ·)) (l:=l.reverse)] at h1;rcases QaA.1 h1 with h1|h1
   ·exact Qal.1 List.all_takeWhile b h1
   ·exact absurd (List.mem_reverse.2 h1) hm
 ·intro h b hb;have h1:=Qal.1 h b (List.mem_reverse.1 ((List.dropWhile_sublist _).subset (List.mem_reverse.1 hb)));rw[Vi];exact h1
theorem ur:∀ (l:List UInt8) (acc:Nat),(nl l).all qe=true->decFrom acc l=some ((nl l).foldl (λv c=>10 * v+(c - 48)) acc)
 |[],acc,_=>rfl
 |b :: r,acc,h=>by
  have h:qe b.toNat=true/\(nl r).all qe=true:=by
   have:(qe b.toNat && (nl r).all qe)=true:=h;rwa [Qaj] at this
  have hd:=h.1;unfold qe at hd;rw[Qaj,decide_eq_true_eq,decide_eq_true_eq] at hd;unfold decFrom digitVal;rw[if_pos hd];show decFrom (acc * 10+(b.toNat - 48)) r=some ((nl r).foldl _ (10 * acc+(b.toNat - 48)));rw[ur r _ h.2,Nat.mul_comm]
theorem Vk {l:List UInt8}(h0:l≠[])(h:(nl l).all qe=true):decNat l=some (yO (nl l)):=by
 unfold decNat;rw[if_neg (by simpa using h0),ur l 0 h];rfl
theorem jdV {l:List UInt8}{n:Int}(h:qu (nl l)=some n):atoi l=some n:=by
 unfold qu at h;split at h
 ·rename_i hc;obtain⟨h1,h2,h3⟩:=hc;injection h with h
  cases l with
  |nil=>exact absurd h1 dc
  |cons b r=>
   have hm:yd (nl (b :: r))=decide (b.toNat=45):=by simp[yd,nl]
   unfold atoi;dsimp only;by_cases hb:b=45
   ·subst hb;have e1:yd (nl (45 :: r))=true:=by rw[hm];rfl
    have e2:jY (nl (45 :: r))=nl r:=by unfold jY;rw[e1,if_pos rfl];rfl
    rw[e2] at h1 h3 h;rw[e1,if_pos rfl] at h;rw[if_pos dc,Vk (λe=>by subst e;exact absurd h1 dc) h3];show some (-(yO (nl r):Int))=_;rw[h]
   ·have hb2:¬ b.toNat=45:=λh=>hb (UInt8.toNat_inj.1 h);have e1:yd (nl (b :: r))=false:=by rw[hm,decide_eq_false hb2]
    have e2:jY (nl (b :: r))=nl (b :: r):=by unfold jY;rw[e1,if_neg dc]
    rw[e2] at h1 h3 h;rw[e1,if_neg dc] at h;have h43:b≠43:=λe=>by subst e;exact absurd h3 (by simp[nl,qe])
    rw[if_neg (by simpa using hb),if_neg (by simpa using h43),Vk (by simp) h3];show some (yO (nl (b :: r)):Int)=_;rw[h]
 ·cases h
theorem jdx {w:List Nat}{n:Int}(h:qu w=some n):w.length<=10:=by
 unfold qu at h;split at h
 ·rename_i hc;have:w.length<=(jY w).length+1:=by
   unfold jY;split
   ·rw[QaO];omega
   ·omega
  omega
 ·cases h
theorem Vh (n:Nat):nl (decDigits n)=yt n:=by
 induction n using Nat.strongRecOn with
 |_ n ih=>
 rw[decDigits,yt];split
 ·rename_i h;have:∀ k,k<10->nl [UInt8.ofNat (48+k)]=[48+k]:=dc
  exact this n h
 ·rename_i h;have:∀ k,k<10->nl [UInt8.ofNat (48+k)]=[48+k]:=dc
  show nl (decDigits (n / 10) ++ _)=_;unfold nl at ih ⊢;rw[QaI,ih (n / 10) om]
  congr 1
  exact this (n % 10) om
theorem Wa (n:Int):nl (itoa n)=qi n:=by
 unfold itoa qi;split
 ·rename_i h;have e:n.natAbs=(-n).toNat:=om
  show 45 :: nl (decDigits _)=_;rw[Vh,e]
 ·exact Vh _
end Go.Sy
end
noncomputable section
namespace Go.Proofs
open Go.Shelf Go.RowKit Go.Lib Go.Sort
def Tryd.lays169_ren:Go.Shelf.Ren:=⟨λ|169=>24|n=>n,λ|70=>48|9=>9|0=>0|72=>51|37=>49|127=>75|3=>3|5=>5|n=>n,λ|n=>n⟩
theorem Tryd.lays169:Go.Proofs.Lays.n169 δ Tryd.lays169_ren:={
 mixed:=by kernel_rfl
 f169:=Tryd.func24.trans (congrArg some (by kernel_rfl))
 t0:=Tryd.underlying0
 a0:=Tryd.isAgg0
 z0:=Tryd.sizeOf0
 v0:=Tryd.zeroValue0
 t3:=Tryd.underlying3
 a3:=Tryd.isAgg3
 z3:=Tryd.sizeOf3
 v3:=Tryd.zeroValue3
 t9:=Tryd.underlying9
 a9:=Tryd.isAgg9
 z9:=Tryd.sizeOf9
 v9:=Tryd.zeroValue9
 t37:=Tryd.underlying49
 a37:=Tryd.isAgg49
 z37:=Tryd.sizeOf49
 v37:=Tryd.zeroValue49
 t70:=Tryd.underlying48
 a70:=Tryd.isAgg48
 z70:=Tryd.sizeOf48
 v70:=Tryd.zeroValue48
 t72:=Tryd.underlying51
 a72:=Tryd.isAgg51
 z72:=Tryd.sizeOf51
 v72:=Tryd.zeroValue51
 t127:=Tryd.underlying75
 a127:=Tryd.isAgg75
 z127:=Tryd.sizeOf75
 v127:=Tryd.zeroValue75 }
theorem Tryd.Builder_Extra_169:Builder.Extra δ Tryd.lays169_ren:={
 sizeBuilder:=by kernel_rfl
 liesBuilder:=by kernel_rfl
 t5:=Tryd.underlying5
 a5:=Tryd.isAgg5
 z5:=Tryd.sizeOf5
 v5:=Tryd.zeroValue5
 infoByte:=by kernel_rfl
 cellsByte:=by kernel_rfl
 sizeByte:=by kernel_rfl
 neB5:=by decide }
def Tryd.lays160_ren:Go.Shelf.Ren:=⟨λ|160=>54|232=>62|231=>61|227=>63|234=>65|233=>64|236=>67|235=>66|228=>77|271=>80|151=>79|197=>78|120=>96|152=>95|260=>94|137=>106|119=>107|224=>104|225=>103|217=>102|266=>110|n=>n,λ|9=>9|4=>4|3=>3|5=>5|117=>92|116=>91|0=>0|124=>95|21=>21|105=>106|46=>121|119=>132|139=>135|138=>134|n=>n,λ|3=>4|4=>5|n=>n⟩
theorem Tryd.lays160:Go.Proofs.Lays.n160 δ Tryd.lays160_ren:={
 mixed:=by kernel_rfl
 f119:=Tryd.func107.trans (congrArg some (by kernel_rfl))
 f120:=Tryd.func96.trans (congrArg some (by kernel_rfl))
 f137:=Tryd.func106.trans (congrArg some (by kernel_rfl))
 f151:=Tryd.func79.trans (congrArg some (by kernel_rfl))
 f152:=Tryd.func95.trans (congrArg some (by kernel_rfl))
 f160:=Tryd.func54.trans (congrArg some (by kernel_rfl))
 f197:=Tryd.func78.trans (congrArg some (by kernel_rfl))
 f217:=Tryd.func102.trans (congrArg some (by kernel_rfl))
 f224:=Tryd.func104.trans (congrArg some (by kernel_rfl))
 f225:=Tryd.func103.trans (congrArg some (by kernel_rfl))
 f227:=Tryd.func63.trans (congrArg some (by kernel_rfl))
 f228:=Tryd.func77.trans (congrArg some (by kernel_rfl))
 f231:=Tryd.func61.trans (congrArg some (by kernel_rfl))
 f232:=Tryd.func62.trans (congrArg some (by kernel_rfl))
 f233:=Tryd.func64.trans (congrArg some (by kernel_rfl))
 f234:=Tryd.func65.trans (congrArg some (by kernel_rfl))
 f235:=Tryd.func66.trans (congrArg some (by kernel_rfl))
 f236:=Tryd.func67.trans (congrArg some (by kernel_rfl))
 f260:=Tryd.func94.trans (congrArg some (by kernel_rfl))
 f266:=Tryd.func110.trans (congrArg some (by kernel_rfl))
 f271:=Tryd.func80.trans (congrArg some (by kernel_rfl))
 t0:=Tryd.underlying0
 a0:=Tryd.isAgg0
 z0:=Tryd.sizeOf0
 v0:=Tryd.zeroValue0
 t3:=Tryd.underlying3
 a3:=Tryd.isAgg3
 z3:=Tryd.sizeOf3
 v3:=Tryd.zeroValue3
 t4:=Tryd.underlying4
 a4:=Tryd.isAgg4
 z4:=Tryd.sizeOf4
 v4:=Tryd.zeroValue4
 t5:=Tryd.underlying5
 a5:=Tryd.isAgg5
 z5:=Tryd.sizeOf5
 v5:=Tryd.zeroValue5
 t9:=Tryd.underlying9
 a9:=Tryd.isAgg9
 z9:=Tryd.sizeOf9
 v9:=Tryd.zeroValue9
 t21:=Tryd.underlying21
 a21:=Tryd.isAgg21
 z21:=Tryd.sizeOf21
 v21:=Tryd.zeroValue21
 t46:=Tryd.underlying121
 a46:=Tryd.isAgg121
 z46:=Tryd.sizeOf121
 v46:=Tryd.zeroValue121
 t105:=Tryd.underlying106
 a105:=Tryd.isAgg106
 z105:=Tryd.sizeOf106
 v105:=Tryd.zeroValue106
 t116:=Tryd.underlying91
 a116:=Tryd.isAgg91
 z116:=Tryd.sizeOf91
 t117:=Tryd.underlying92
 a117:=Tryd.isAgg92
 z117:=Tryd.sizeOf92
 v117:=Tryd.zeroValue92
 t119:=Tryd.underlying132
 a119:=Tryd.isAgg132
 z119:=Tryd.sizeOf132
 t124:=Tryd.underlying95
 a124:=Tryd.isAgg95
 z124:=Tryd.sizeOf95
 v124:=Tryd.zeroValue95
 t138:=Tryd.underlying134
 a138:=Tryd.isAgg134
 z138:=Tryd.sizeOf134
 v138:=Tryd.zeroValue134
 t139:=Tryd.underlying135
 a139:=Tryd.isAgg135
 z139:=Tryd.sizeOf135
 v139:=Tryd.zeroValue135
 g3:=by kernel_rfl
 g4:=by kernel_rfl }
theorem Tryd.Builder_String_any_f (B b:Nat)(l:List UInt8)(w:World)(h:Lib.IsBuilderF 51 5 B b (Lib.byteCells l) w)(hBw:B<=w.heap.size) :
 Calls δ 24 #[.pointer (some ⟨b,0,none⟩)] w λe w'=>e=.returned (.string ⟨l.toArray⟩)/\(Lib.IsBuilderF 51 5 B b (Lib.byteCells l) w'/\Below B w w'):=Any.Builder_String_any_f Tryd.lays169 Tryd.Builder_Extra_169 B b l w h hBw
def Tryd.lays172_ren:Go.Shelf.Ren:=⟨λ|172=>55|244=>68|245=>69|247=>81|279=>82|280=>83|281=>84|282=>85|287=>97|316=>98|171=>23|205=>99|321=>108|322=>109|243=>46|246=>57|283=>70|284=>71|285=>72|286=>73|129=>87|317=>86|318=>88|319=>89|320=>90|337=>100|338=>101|n=>n,λ|9=>9|3=>3|75=>53|76=>54|4=>4|5=>5|167=>109|37=>49|0=>0|85=>110|2=>2|168=>112|53=>98|175=>125|46=>121|210=>129|127=>75|145=>139|143=>137|21=>21|171=>97|173=>101|212=>117|51=>118|20=>20|213=>119|232=>140|233=>141|80=>58|n=>n,λ|15=>1|16=>2|17=>0|18=>6|19=>7|n=>n⟩
theorem Tryd.lays172:Go.Proofs.Lays.n172 δ Tryd.lays172_ren:={
 mixed:=by kernel_rfl
 f129:=Tryd.func87.trans (congrArg some (by kernel_rfl))
 f171:=Tryd.func23.trans (congrArg some (by kernel_rfl))
 f172:=Tryd.func55.trans (congrArg some (by kernel_rfl))
 f205:=Tryd.func99.trans (congrArg some (by kernel_rfl))
 f243:=Tryd.func46.trans (congrArg some (by kernel_rfl))
 f244:=Tryd.func68.trans (congrArg some (by kernel_rfl))
 f245:=Tryd.func69.trans (congrArg some (by kernel_rfl))
 f246:=Tryd.func57.trans (congrArg some (by kernel_rfl))
 f247:=Tryd.func81.trans (congrArg some (by kernel_rfl))
 f279:=Tryd.func82.trans (congrArg some (by kernel_rfl))
 f280:=Tryd.func83.trans (congrArg some (by kernel_rfl))
 f281:=Tryd.func84.trans (congrArg some (by kernel_rfl))
 f282:=Tryd.func85.trans (congrArg some (by kernel_rfl))
 f283:=Tryd.func70.trans (congrArg some (by kernel_rfl))
 f284:=Tryd.func71.trans (congrArg some (by kernel_rfl))
 f285:=Tryd.func72.trans (congrArg some (by kernel_rfl))
 f286:=Tryd.func73.trans (congrArg some (by kernel_rfl))
 f287:=Tryd.func97.trans (congrArg some (by kernel_rfl))
 f316:=Tryd.func98.trans (congrArg some (by kernel_rfl))
 f317:=Tryd.func86.trans (congrArg some (by kernel_rfl))
 f318:=Tryd.func88.trans (congrArg some (by kernel_rfl))
 f319:=Tryd.func89.trans (congrArg some (by kernel_rfl))
 f320:=Tryd.func90.trans (congrArg some (by kernel_rfl))
 f321:=Tryd.func108.trans (congrArg some (by kernel_rfl))
 f322:=Tryd.func109.trans (congrArg some (by kernel_rfl))
 f337:=Tryd.func100.trans (congrArg some (by kernel_rfl))
 f338:=Tryd.func101.trans (congrArg some (by kernel_rfl))
 t0:=Tryd.underlying0
 a0:=Tryd.isAgg0
 z0:=Tryd.sizeOf0
 v0:=Tryd.zeroValue0
 t2:=Tryd.underlying2
 a2:=Tryd.isAgg2
 z2:=Tryd.sizeOf2
 v2:=Tryd.zeroValue2
 t3:=Tryd.underlying3
 a3:=Tryd.isAgg3
 z3:=Tryd.sizeOf3
 v3:=Tryd.zeroValue3
 t4:=Tryd.underlying4
 a4:=Tryd.isAgg4
 z4:=Tryd.sizeOf4
 v4:=Tryd.zeroValue4
 t5:=Tryd.underlying5
 a5:=Tryd.isAgg5
 z5:=Tryd.sizeOf5
 v5:=Tryd.zeroValue5
 t9:=Tryd.underlying9
 a9:=Tryd.isAgg9
 z9:=Tryd.sizeOf9
 v9:=Tryd.zeroValue9
 t20:=Tryd.underlying20
 a20:=Tryd.isAgg20
 z20:=Tryd.sizeOf20
 v20:=Tryd.zeroValue20
 t21:=Tryd.underlying21
 a21:=Tryd.isAgg21
 z21:=Tryd.sizeOf21
 v21:=Tryd.zeroValue21
 t37:=Tryd.underlying49
 a37:=Tryd.isAgg49
 z37:=Tryd.sizeOf49
 v37:=Tryd.zeroValue49
 t46:=Tryd.underlying121
 a46:=Tryd.isAgg121
 z46:=Tryd.sizeOf121
 v46:=Tryd.zeroValue121
 t51:=Tryd.underlying118
 a51:=Tryd.isAgg118
 z51:=Tryd.sizeOf118
 v51:=Tryd.zeroValue118
 t53:=Tryd.underlying98
 a53:=Tryd.isAgg98
 z53:=Tryd.sizeOf98
 v53:=Tryd.zeroValue98
 t75:=Tryd.underlying53
 a75:=Tryd.isAgg53
 z75:=Tryd.sizeOf53
 v75:=Tryd.zeroValue53
 t76:=Tryd.underlying54
 a76:=Tryd.isAgg54
 z76:=Tryd.sizeOf54
 v76:=Tryd.zeroValue54
 t85:=Tryd.underlying110
 a85:=Tryd.isAgg110
 z85:=Tryd.sizeOf110
 v85:=Tryd.zeroValue110
 t127:=Tryd.underlying75
 a127:=Tryd.isAgg75
 z127:=Tryd.sizeOf75
 v127:=Tryd.zeroValue75
 t143:=Tryd.underlying137
 a143:=Tryd.isAgg137
 z143:=Tryd.sizeOf137
 v143:=Tryd.zeroValue137
 t145:=Tryd.underlying139
 a145:=Tryd.isAgg139
 z145:=Tryd.sizeOf139
 v145:=Tryd.zeroValue139
 t167:=Tryd.underlying109
 a167:=Tryd.isAgg109
 z167:=Tryd.sizeOf109
 v167:=Tryd.zeroValue109
 t168:=Tryd.underlying112
 a168:=Tryd.isAgg112
 z168:=Tryd.sizeOf112
 v168:=Tryd.zeroValue112
 t171:=Tryd.underlying97
 a171:=Tryd.isAgg97
 z171:=Tryd.sizeOf97
 v171:=Tryd.zeroValue97
 t173:=Tryd.underlying101
 a173:=Tryd.isAgg101
 z173:=Tryd.sizeOf101
 v173:=Tryd.zeroValue101
 t175:=Tryd.underlying125
 a175:=Tryd.isAgg125
 z175:=Tryd.sizeOf125
 v175:=Tryd.zeroValue125
 t210:=Tryd.underlying129
 a210:=Tryd.isAgg129
 z210:=Tryd.sizeOf129
 v210:=Tryd.zeroValue129
 t212:=Tryd.underlying117
 a212:=Tryd.isAgg117
 z212:=Tryd.sizeOf117
 v212:=Tryd.zeroValue117
 t213:=Tryd.underlying119
 a213:=Tryd.isAgg119
 z213:=Tryd.sizeOf119
 t232:=Tryd.underlying140
 a232:=Tryd.isAgg140
 z232:=Tryd.sizeOf140
 v232:=Tryd.zeroValue140
 t233:=Tryd.underlying141
 a233:=Tryd.isAgg141
 z233:=Tryd.sizeOf141
 v233:=Tryd.zeroValue141
 g15:=by kernel_rfl
 g16:=by kernel_rfl
 g17:=by kernel_rfl
 g18:=by kernel_rfl
 g19:=by kernel_rfl }
theorem Tryd.strconv_Atoi (s:ByteArray)(n:Int)(hl:s.size<=18)(h:Lib.atoi s.data.toList=some n)(w:World) :
 Calls δ 55 #[.string s] w λe w'=>e=.returned (.tuple #[.int .i64 n,.nilIface])/\∃ t,w'=Lib.bytesWorld w 5 t:=Any.strconv_Atoi Tryd.lays172 s n hl h w
def Tryd.laysM171_ren:Go.Shelf.Ren:=⟨λ|171=>23|243=>46|246=>57|283=>70|284=>71|285=>72|286=>73|129=>87|317=>86|318=>88|319=>89|320=>90|337=>100|338=>101|n=>n,λ|3=>3|9=>9|2=>2|4=>4|171=>97|0=>0|53=>98|37=>49|5=>5|173=>101|212=>117|51=>118|20=>20|213=>119|46=>121|232=>140|233=>141|n=>n,λ|17=>0|18=>6|19=>7|n=>n⟩
theorem Tryd.laysM171:Go.Proofs.LaysM.n171 δ Tryd.laysM171_ren:={
 mixed:=by kernel_rfl
 f129:=Tryd.func87.trans (congrArg some (by kernel_rfl))
 f171:=Tryd.func23.trans (congrArg some (by kernel_rfl))
 f243:=Tryd.func46.trans (congrArg some (by kernel_rfl))
 f246:=Tryd.func57.trans (congrArg some (by kernel_rfl))
 f283:=Tryd.func70.trans (congrArg some (by kernel_rfl))
 f284:=Tryd.func71.trans (congrArg some (by kernel_rfl))
 f285:=Tryd.func72.trans (congrArg some (by kernel_rfl))
 f286:=Tryd.func73.trans (congrArg some (by kernel_rfl))
 f317:=Tryd.func86.trans (congrArg some (by kernel_rfl))
 f318:=Tryd.func88.trans (congrArg some (by kernel_rfl))
 f319:=Tryd.func89.trans (congrArg some (by kernel_rfl))
 f320:=Tryd.func90.trans (congrArg some (by kernel_rfl))
 f337:=Tryd.func100.trans (congrArg some (by kernel_rfl))
 f338:=Tryd.func101.trans (congrArg some (by kernel_rfl))
 t0:=Tryd.underlying0
 a0:=Tryd.isAgg0
 z0:=Tryd.sizeOf0
 v0:=Tryd.zeroValue0
 t2:=Tryd.underlying2
 a2:=Tryd.isAgg2
 z2:=Tryd.sizeOf2
 v2:=Tryd.zeroValue2
 t3:=Tryd.underlying3
 a3:=Tryd.isAgg3
 z3:=Tryd.sizeOf3
 v3:=Tryd.zeroValue3
 t4:=Tryd.underlying4
 a4:=Tryd.isAgg4
 z4:=Tryd.sizeOf4
 v4:=Tryd.zeroValue4
 t5:=Tryd.underlying5
 a5:=Tryd.isAgg5
 z5:=Tryd.sizeOf5
 v5:=Tryd.zeroValue5
 t9:=Tryd.underlying9
 a9:=Tryd.isAgg9
 z9:=Tryd.sizeOf9
 v9:=Tryd.zeroValue9
 t20:=Tryd.underlying20
 a20:=Tryd.isAgg20
 z20:=Tryd.sizeOf20
 v20:=Tryd.zeroValue20
 t37:=Tryd.underlying49
 a37:=Tryd.isAgg49
 z37:=Tryd.sizeOf49
 v37:=Tryd.zeroValue49
 t46:=Tryd.underlying121
 a46:=Tryd.isAgg121
 z46:=Tryd.sizeOf121
 v46:=Tryd.zeroValue121
 t51:=Tryd.underlying118
 a51:=Tryd.isAgg118
 z51:=Tryd.sizeOf118
 v51:=Tryd.zeroValue118
 t53:=Tryd.underlying98
 a53:=Tryd.isAgg98
 z53:=Tryd.sizeOf98
 v53:=Tryd.zeroValue98
 t171:=Tryd.underlying97
 a171:=Tryd.isAgg97
 z171:=Tryd.sizeOf97
 v171:=Tryd.zeroValue97
 t173:=Tryd.underlying101
 a173:=Tryd.isAgg101
 z173:=Tryd.sizeOf101
 v173:=Tryd.zeroValue101
 t212:=Tryd.underlying117
 a212:=Tryd.isAgg117
 z212:=Tryd.sizeOf117
 v212:=Tryd.zeroValue117
 t213:=Tryd.underlying119
 a213:=Tryd.isAgg119
 z213:=Tryd.sizeOf119
 t232:=Tryd.underlying140
 a232:=Tryd.isAgg140
 z232:=Tryd.sizeOf140
 v232:=Tryd.zeroValue140
 t233:=Tryd.underlying141
 a233:=Tryd.isAgg141
 z233:=Tryd.sizeOf141
 v233:=Tryd.zeroValue141
 g17:=by kernel_rfl
 g18:=by kernel_rfl
 g19:=by kernel_rfl
 i0:=by kernel_rfl
 i2:=by kernel_rfl
 i3:=by kernel_rfl
 i4:=by kernel_rfl
 i5:=by kernel_rfl
 i9:=by kernel_rfl
 i20:=by kernel_rfl
 i37:=by kernel_rfl
 i46:=by kernel_rfl
 i51:=by kernel_rfl
 i53:=by kernel_rfl
 i171:=by kernel_rfl
 i173:=by kernel_rfl
 i212:=by kernel_rfl
 i232:=by kernel_rfl
 i233:=by kernel_rfl
 m17:=by kernel_rfl
 m18:=by kernel_rfl
 m19:=by kernel_rfl }
theorem Tryd.strconv_Itoa (n : Int) (h0 : -9223372036854775808 ≤ n) (h1 : n ≤ 9223372036854775807) (w : World) (htab : Lib.TabIs δ w "internal/strconv.uint64pow10" .u64 Lib.pow10Tab) :
 Calls δ 23 #[.int .i64 n] w λe w'=>e=.returned (.string ⟨(Lib.itoa n).toArray⟩)/\∃ k os,w'=grow (w.drewN k) os:=Any.strconv_Itoa Tryd.laysM171 n h0 h1 w htab
def Tryd.lays146_ren:Go.Shelf.Ren:=⟨λ|146=>49|221=>58|268=>74|138=>75|143=>76|195=>91|197=>78|218=>92|219=>93|260=>94|217=>102|225=>103|224=>104|267=>105|266=>110|314=>111|n=>n,λ|9=>9|31=>67|3=>3|4=>4|0=>0|105=>106|21=>21|5=>5|46=>121|119=>132|139=>135|138=>134|146=>142|51=>118|n=>n,λ|1=>3|3=>4|4=>5|n=>n⟩
theorem Tryd.lays146:Go.Proofs.Lays.n146 δ Tryd.lays146_ren:={
 mixed:=by kernel_rfl
 f138:=Tryd.func75.trans (congrArg some (by kernel_rfl))
 f143:=Tryd.func76.trans (congrArg some (by kernel_rfl))
 f146:=Tryd.func49.trans (congrArg some (by kernel_rfl))
 f195:=Tryd.func91.trans (congrArg some (by kernel_rfl))
 f197:=Tryd.func78.trans (congrArg some (by kernel_rfl))
 f217:=Tryd.func102.trans (congrArg some (by kernel_rfl))
 f218:=Tryd.func92.trans (congrArg some (by kernel_rfl))
 f219:=Tryd.func93.trans (congrArg some (by kernel_rfl))
 f221:=Tryd.func58.trans (congrArg some (by kernel_rfl))
 f224:=Tryd.func104.trans (congrArg some (by kernel_rfl))
 f225:=Tryd.func103.trans (congrArg some (by kernel_rfl))
 f260:=Tryd.func94.trans (congrArg some (by kernel_rfl))
 f266:=Tryd.func110.trans (congrArg some (by kernel_rfl))
 f267:=Tryd.func105.trans (congrArg some (by kernel_rfl))
 f268:=Tryd.func74.trans (congrArg some (by kernel_rfl))
 f314:=Tryd.func111.trans (congrArg some (by kernel_rfl))
 t0:=Tryd.underlying0
 a0:=Tryd.isAgg0
 z0:=Tryd.sizeOf0
 v0:=Tryd.zeroValue0
 t3:=Tryd.underlying3
 a3:=Tryd.isAgg3
 z3:=Tryd.sizeOf3
 v3:=Tryd.zeroValue3
 t4:=Tryd.underlying4
 a4:=Tryd.isAgg4
 z4:=Tryd.sizeOf4
 v4:=Tryd.zeroValue4
 t5:=Tryd.underlying5
 a5:=Tryd.isAgg5
 z5:=Tryd.sizeOf5
 v5:=Tryd.zeroValue5
 t9:=Tryd.underlying9
 a9:=Tryd.isAgg9
 z9:=Tryd.sizeOf9
 v9:=Tryd.zeroValue9
 t21:=Tryd.underlying21
 a21:=Tryd.isAgg21
 z21:=Tryd.sizeOf21
 v21:=Tryd.zeroValue21
 t31:=Tryd.underlying67
 a31:=Tryd.isAgg67
 z31:=Tryd.sizeOf67
 v31:=Tryd.zeroValue67
 t46:=Tryd.underlying121
 a46:=Tryd.isAgg121
 z46:=Tryd.sizeOf121
 v46:=Tryd.zeroValue121
 t51:=Tryd.underlying118
 a51:=Tryd.isAgg118
 z51:=Tryd.sizeOf118
 v51:=Tryd.zeroValue118
 t105:=Tryd.underlying106
 a105:=Tryd.isAgg106
 z105:=Tryd.sizeOf106
 v105:=Tryd.zeroValue106
 t119:=Tryd.underlying132
 a119:=Tryd.isAgg132
 z119:=Tryd.sizeOf132
 t138:=Tryd.underlying134
 a138:=Tryd.isAgg134
 z138:=Tryd.sizeOf134
 v138:=Tryd.zeroValue134
 t139:=Tryd.underlying135
 a139:=Tryd.isAgg135
 z139:=Tryd.sizeOf135
 v139:=Tryd.zeroValue135
 t146:=Tryd.underlying142
 a146:=Tryd.isAgg142
 z146:=Tryd.sizeOf142
 v146:=Tryd.zeroValue142
 g1:=by kernel_rfl
 g3:=by kernel_rfl
 g4:=by kernel_rfl }
theorem Tryd.strings_Split (s sep:ByteArray)(m:Int)(w:World)(hs:s.size<4294967281)(hm:w.cell? ⟨3,0,none⟩=some (.int .i64 m))(h1:1<=sep.size) :
 Calls δ 49 #[.string s,.string sep] w λe w'=>
  e=.returned (.slice (some ⟨w.heap.size,0,none⟩) (Lib.countB s sep+1) (Lib.countB s sep+1))/\w'=w.alloc (.cells ((Lib.splitB sep 0 (Lib.countB s sep) s).map Value.string).toArray 9):=Any.strings_Split Tryd.lays146 (by kernel_rfl) s sep m w hs hm h1
def Tryd.lays229_ren:Go.Shelf.Ren:=⟨λ|229=>51|n=>n,λ|9=>9|40=>80|31=>67|152=>86|3=>3|0=>0|4=>4|21=>21|154=>88|n=>n,λ|n=>n⟩
theorem Tryd.lays229:Go.Proofs.Lays.n229 δ Tryd.lays229_ren:={
 mixed:=by kernel_rfl
 f229:=Tryd.func51.trans (congrArg some (by kernel_rfl))
 t0:=Tryd.underlying0
 a0:=Tryd.isAgg0
 z0:=Tryd.sizeOf0
 v0:=Tryd.zeroValue0
 t3:=Tryd.underlying3
 a3:=Tryd.isAgg3
 z3:=Tryd.sizeOf3
 v3:=Tryd.zeroValue3
 t4:=Tryd.underlying4
 a4:=Tryd.isAgg4
 z4:=Tryd.sizeOf4
 v4:=Tryd.zeroValue4
 t9:=Tryd.underlying9
 a9:=Tryd.isAgg9
 z9:=Tryd.sizeOf9
 v9:=Tryd.zeroValue9
 t21:=Tryd.underlying21
 a21:=Tryd.isAgg21
 z21:=Tryd.sizeOf21
 v21:=Tryd.zeroValue21
 t31:=Tryd.underlying67
 a31:=Tryd.isAgg67
 z31:=Tryd.sizeOf67
 v31:=Tryd.zeroValue67
 t40:=Tryd.underlying80
 a40:=Tryd.isAgg80
 z40:=Tryd.sizeOf80
 v40:=Tryd.zeroValue80
 t152:=Tryd.underlying86
 a152:=Tryd.isAgg86
 z152:=Tryd.sizeOf86
 v152:=Tryd.zeroValue86
 t154:=Tryd.underlying88
 a154:=Tryd.isAgg88
 z154:=Tryd.sizeOf88
 v154:=Tryd.zeroValue88 }
theorem Tryd.strings_FieldsFunc_runes (g:Nat)(lb:Array Value)(eg:∀ args w,(callFunc g args).run δ w=.ok (.enter g args) w)(p:Nat->Bool)(s:ByteArray)(w:World)(hs:s.size<=4294967296)(hp:PredAtRunes δ g lb p w) :
 Calls δ 51 #[.string s,.func (.func g) #[] lb] w λe w'=>∃ A,e=.returned (.slice (some ⟨A,0,none⟩) (Lib.goFieldsP p s).length (Lib.goFieldsP p s).length)/\w.heap.size<=A /\
  w'.ownsRow w.heap.size 9 1 (.slice (some ⟨A,0,none⟩) (Lib.goFieldsP p s).length (Lib.goFieldsP p s).length) (Lib.goFieldsP p s).length ((Lib.goFieldsP p s).map Value.string)/\Below w.heap.size w w':=Any.strings_FieldsFunc_runes Tryd.lays229 g lb eg p s w hs hp (by kernel_rfl) (by kernel_rfl)
end Go.Proofs
end
noncomputable section
namespace Go.Proofs
open Go.Shelf Go.RowKit Go.Lib
def Tryd.lays166_ren:Go.Shelf.Ren:=⟨λ|166=>22|240=>45|276=>56|n=>n,λ|0=>0|3=>3|4=>4|5=>5|9=>9|20=>20|37=>49|70=>48|72=>51|75=>53|80=>58|164=>82|n=>n,λ|n=>n⟩
theorem Tryd.lays166:Go.Proofs.Lays.n166 δ Tryd.lays166_ren:={
 mixed:=by kernel_rfl
 f166:=Tryd.func22.trans (congrArg some (by kernel_rfl))
 f240:=Tryd.func45.trans (congrArg some (by kernel_rfl))
 f276:=Tryd.func56.trans (congrArg some (by kernel_rfl))
 t0:=Tryd.underlying0
 a0:=Tryd.isAgg0
 z0:=Tryd.sizeOf0
 v0:=Tryd.zeroValue0
 t3:=Tryd.underlying3
 a3:=Tryd.isAgg3
 z3:=Tryd.sizeOf3
 v3:=Tryd.zeroValue3
 t4:=Tryd.underlying4
 a4:=Tryd.isAgg4
 z4:=Tryd.sizeOf4
 v4:=Tryd.zeroValue4
 t9:=Tryd.underlying9
 a9:=Tryd.isAgg9
 z9:=Tryd.sizeOf9
 v9:=Tryd.zeroValue9
 t20:=Tryd.underlying20
 a20:=Tryd.isAgg20
 z20:=Tryd.sizeOf20
 v20:=Tryd.zeroValue20
 t37:=Tryd.underlying49
 a37:=Tryd.isAgg49
 z37:=Tryd.sizeOf49
 v37:=Tryd.zeroValue49
 t70:=Tryd.underlying48
 a70:=Tryd.isAgg48
 z70:=Tryd.sizeOf48
 v70:=Tryd.zeroValue48
 t72:=Tryd.underlying51
 a72:=Tryd.isAgg51
 z72:=Tryd.sizeOf51
 v72:=Tryd.zeroValue51
 t75:=Tryd.underlying53
 a75:=Tryd.isAgg53
 z75:=Tryd.sizeOf53
 v75:=Tryd.zeroValue53
 t164:=Tryd.underlying82
 a164:=Tryd.isAgg82
 z164:=Tryd.sizeOf82
 v164:=Tryd.zeroValue82 }
theorem Tryd.Builder_Extra_166:Builder.Extra δ Tryd.lays166_ren:={
 sizeBuilder:=by kernel_rfl
 liesBuilder:=by kernel_rfl
 t5:=Tryd.underlying5
 a5:=Tryd.isAgg5
 z5:=Tryd.sizeOf5
 v5:=Tryd.zeroValue5
 infoByte:=by kernel_rfl
 cellsByte:=by kernel_rfl
 sizeByte:=by kernel_rfl
 neB5:=by decide }
theorem Tryd.Builder_WriteString_f (B b:Nat)(bs:List Value)(s:ByteArray)(w:World)(h:Lib.IsBuilderF 51 5 B b bs w)(hlen:bs.length+s.size<=140737488355328)(hBw:B<=w.heap.size) :
 Calls δ 22 #[.pointer (some ⟨b,0,none⟩),.string s] w λe w'=>e=.returned (.tuple #[.int .i64 s.size,.nilIface])/\(Lib.BuilderAtF 51 5 B b (.pointer (some ⟨b,0,none⟩)) (bs ++ Lib.strCells s) w'/\Below B w w'):=Any.Builder_WriteString_f Tryd.lays166 Tryd.Builder_Extra_166 B b bs s w h hlen hBw
end Go.Proofs
end
noncomputable section
namespace Go.Proofs
open Go.RowKit Go.Lib
theorem Tryd.blank_calls (W:World)(x:Nat)(hx:x<=1114111):Calls δ 52 #[.int .i32 x] W λe w'=>e=.returned (.bool (Go.Sy.blankP x))/\∃ q,w'=W.drewN q:=by
 go_enter Tryd.func52,Tryd.ntmps52
 go_wp2_with fail
 ·rename_i h;have:x=32:=om
  subst this
  go_ret
  exact⟨rfl,0,rfl⟩
 ·rename_i h2 h;have:x=9:=om
  subst this
  go_ret
  exact⟨rfl,0,rfl⟩
 ·rename_i h2 h;have e:((x:Int) == 32 ||(x:Int) == 9 ||(x:Int) == 10)=Go.Sy.blankP x:=by
   unfold Go.Sy.blankP;rw[QaK];simp only[QaV,beq_iff_eq,decide_eq_true_eq];omega
  rw[e]
  go_ret
  exact⟨rfl,0,rfl⟩
theorem Tryd.blank_runes (w:World):Go.Proofs.PredAtRunes δ 52 #[] Go.Sy.blankP w:=λW x hx _=>Tryd.blank_calls W x hx
theorem Tryd.blank_enters:∀ args w,(callFunc 52 args).run δ w=.ok (.enter 52 args) w:=enters_of Tryd.func52 (by kernel_rfl) rfl
theorem Tryd.trim_digits (s:ByteArray)(w:World)(hs:s.size<=9223372036854775807) :
  Calls δ 54 #[.string s,.string ⟨#[48,49,50,51,52,53,54,55,56,57]⟩] w λe w'=>e=.returned (.string ⟨(Lib.trimS s.data.toList Go.Sy.dig10).toArray⟩)/\Below w.heap.size w w':=
 Any.strings_Trim_laid Tryd.lays160 (by kernel_rfl) s ⟨#[48,49,50,51,52,53,54,55,56,57]⟩ w hs dc (ascii_of_all dc)
end Go.Proofs
end
noncomputable section
namespace Go.Proofs
open Go.RowKit
def XV (n m:Int):List UInt8:=[112,32,99,110,102,32] ++ Lib.itoa n ++ [32] ++ Lib.itoa m ++ [10]
def vG (c:List Int):List UInt8:=(c.flatMap λl=>Lib.itoa l ++ [32]) ++ [48,10]
def ja6 (w:World)(v:Value)(c:List Int):Prop:=∃ p C,v=.slice p c.length C/\c.length<=C/\(0<c.length->∃ b o,p=some ⟨b,o,none⟩/\∀ j (h:j<c.length),w.cell? ⟨b,o+j,none⟩=some (.int .i32 c[j]))
theorem jah {T E:TypeId}{B b:Nat}{bs:List Value}{W W':World}(h:Lib.IsBuilderF T E B b bs W)(k:Below W.heap.size W W'):Lib.IsBuilderF T E B b bs W':=by
 have key:∀ p,Lib.BuilderAtF T E B b p bs W->Lib.BuilderAtF T E B b p bs W':=λp h=>by
  have hl:=h.lt;unfold Lib.BuilderAtF at h ⊢;obtain⟨h1,v,h2,h3,h5⟩:=h;refine⟨h1,v,(k.block _ hl).trans h2,?_,h5⟩;obtain⟨e,h4|⟨g,cap,cur,fr,e1,e2,e3,e4⟩⟩:=h3
  ·exact⟨e,.inl h4⟩
  ·exact⟨e,.inr ⟨g,cap,cur,fr,e1,e2,(k.block _ (Qao.1 e3).1).trans e3,e4⟩⟩
 exact h.imp (key _) (key _)
theorem gM {P:Program}{B g:Nat}{W W':World}{n:String}{cs:Array Value}(h:Below B W W')(hg:P.globalNamed n=some g)(hgB:g<B)(hv:W.var? P n=some cs):W'.var? P n=some cs:=by
 unfold World.var? at hv ⊢;simp only[hg,QaE] at hv ⊢;rw[h.block g hgB];exact hv
structure WI (w:World)(vars:Int)(sl:Value)(φ β:Nat)(bs:List UInt8)(W:World):Prop where
 c0:W.cell? ⟨φ,0,none⟩=some (.int .i64 vars)
 c1:W.cell? ⟨φ,1,none⟩=some sl
 isb:Lib.IsBuilderF 51 5 β β (Lib.byteCells bs) W
 bw:Below w.heap.size w W
 hφ:φ<β
 hβ:β<=W.heap.size
 hw:w.heap.size<=φ
theorem jbK {T E:TypeId}{B b:Nat}{bs:List Value}{W:World}(h:Lib.IsBuilderF T E B b bs W):Lib.IsBuilderF T E B b bs W.drew:=h
theorem WI.drew {w W:World}{vars:Int}{sl:Value}{φ β:Nat}{bs:List UInt8}(h:WI w vars sl φ β bs W):WI w vars sl φ β bs W.drew:=⟨h.c0,h.c1,jbK h.isb,h.bw.drew,h.hφ,h.hβ,h.hw⟩
theorem WI.step {w W W':World}{vars:Int}{sl:Value}{φ β:Nat}{bs:List UInt8}(h:WI w vars sl φ β bs W)(k:Below W.heap.size W W'):WI w vars sl φ β bs W':=by
 have h1:=h.hφ;have h2:=h.hβ;have h3:=h.bw.size;exact⟨(k.cell (p:=⟨φ,0,none⟩) (show φ<_ by omega)).trans h.c0,(k.cell (p:=⟨φ,1,none⟩) (show φ<_ by omega)).trans h.c1,jah h.isb k,h.bw.trans (k.mono h3),h1,ω h2 k.size,h.hw⟩
theorem WI.write {w W W':World}{vars:Int}{sl:Value}{φ β:Nat}{bs:List UInt8}{s:List UInt8}(h:WI w vars sl φ β bs W)(h2:Lib.BuilderAtF 51 5 β β (.pointer (some ⟨β,0,none⟩)) (Lib.byteCells bs ++ Lib.strCells ⟨s.toArray⟩) W')(k:Below β W W'):WI w vars sl φ β (bs ++ s) W':=by
 have h1:=h.hφ;have h3:=h.hw;refine⟨(k.cell (p:=⟨φ,0,none⟩) h1).trans h.c0,(k.cell (p:=⟨φ,1,none⟩) h1).trans h.c1,.inr ?_,h.bw.trans (k.mono om),h1,ω h.hβ k.size,h3⟩;rw[Lib.strCells_eq,<-Lib.byteCells_append] at h2;exact h2
theorem Gj {w : World} {vars : Int} {sl : Value} {φ β : Nat} {bs : List UInt8} (W : World) (h : WI w vars sl φ β bs W) (n : Int) (h0 : -9223372036854775808 ≤ n) (h1 : n ≤ 9223372036854775807) (htab : Lib.TabIs δ w "internal/strconv.uint64pow10" .u64 Lib.pow10Tab) :
  Calls δ 23 #[.int .i64 n] W λe W'=>e=.returned (.string ⟨(Lib.itoa n).toArray⟩)/\WI w vars sl φ β bs W':=by
 have g0 : Tryd.prog.globalNamed "internal/strconv.uint64pow10" = some 0 := by kernel_rfl
 have ht : Lib.TabIs δ W "internal/strconv.uint64pow10" .u64 Lib.pow10Tab := by
  unfold Lib.TabIs at htab ⊢;have h0:0<w.heap.size:=by
   have h:=htab;unfold World.var? at h;rw[g0] at h;cases e:w.heap[0]? with
   |none=>simp[e] at h
   |some o=>exact(Qao.1 e).1
  exact gM h.bw g0 h0 htab
 refine(Tryd.strconv_Itoa n h0 h1 W ht).mono ?_;rintro e W' ⟨he,k,os,rfl⟩;refine⟨he,h.step ⟨rfl,rfl,rfl,?_,λj hj=>?_⟩⟩
 ·simp[Go.Sort.grow,World.drewN]
 ·show(W.heap ++ os)[j]? = _;rw[Qca hj]
theorem Up {w:World}{vars:Int}{sl:Value}{φ β:Nat}{bs:List UInt8}(W:World)(h:WI w vars sl φ β bs W)(x:ByteArray)(s:List UInt8)(hx:x=⟨s.toArray⟩)(hl:bs.length+s.length<=140737488355328) :
  Calls δ 22 #[.pointer (some ⟨β,0,none⟩),.string x] W λe W'=>e=.returned (.tuple #[.int .i64 s.length,.nilIface])/\WI w vars sl φ β (bs ++ s) W':=by
 subst hx;refine(Tryd.Builder_WriteString_f β β _ ⟨s.toArray⟩ W h.isb ?_ h.hβ).mono ?_
 ·rw[Lib.byteCells_length];exact hl
 ·rintro e W' ⟨he,h2,k⟩;exact⟨he,h.write h2 k⟩
theorem jeL (a b:Array UInt8):(⟨a⟩:ByteArray) ++ ⟨b⟩=⟨a ++ b⟩:=by apply ByteArray.ext;simp[ByteArray.data_append]
theorem jbg (n m:Int):((⟨#[112,32,99,110,102,32]⟩:ByteArray) ++ ⟨(Lib.itoa n).toArray⟩ ++ ⟨#[32]⟩ ++ ⟨(Lib.itoa m).toArray⟩ ++ ⟨#[10]⟩)=⟨(XV n m).toArray⟩:=by
 simp only[jeL,XV,List.append_toArray]
theorem jde (n:Int):((⟨(Lib.itoa n).toArray⟩:ByteArray) ++ ⟨#[32]⟩)=⟨(Lib.itoa n ++ [32]).toArray⟩:=by simp only[jeL,List.append_toArray]
def jdb (w:World)(sp:Option Addr)(cs:List (List Int)):Prop:=0<cs.length->∃ b o,sp=some ⟨b,o,none⟩/\∀ k (h:k<cs.length),∃ v,w.cell? ⟨b,o+k,none⟩=some v/\ja6 w v cs[k]
theorem Wv {α:Type}(l:List α)(k:Nat)(h:k<l.length):l.take (k+1)=l.take k ++ [l[k]]:=by rw[QbL,Qac h];rfl
def zG (n:Int)(cs:List (List Int))(k:Nat):List UInt8:=XV n cs.length ++ (cs.take k).flatMap vG
def JA (c:List Int)(j:Nat):List UInt8:=(c.take j).flatMap λl=>Lib.itoa l ++ [32]
theorem gL (c:List Int)(j:Nat)(h:j<c.length):JA c (j+1)=JA c j ++ (Lib.itoa c[j] ++ [32]):=by unfold JA;rw[Wv _ _ h,Qbb];simp
theorem Wu (c:List Int):JA c c.length=c.flatMap λl=>Lib.itoa l ++ [32]:=by simp[JA]
theorem Ws (n:Int)(cs:List (List Int))(k:Nat)(h:k<cs.length):zG n cs (k+1)=zG n cs k ++ JA cs[k] cs[k].length ++ [48,10]:=by unfold zG;rw[Wv _ _ h,Wu,Qbb];simp[vG]
theorem wN {α:Type}(f:α->List UInt8)(l:List α)(k:Nat):((l.take k).flatMap f).length<=(l.flatMap f).length:=by
 conv=>rhs;rw[<-Qbt k l]
 rw[Qbb,υ];omega
theorem jbf (n:Int)(cs:List (List Int))(k:Nat):(zG n cs k).length<=(zG n cs cs.length).length:=by
 unfold zG;have:=wN vG cs k;simp only[υ,Qay];omega
theorem Wt (n:Int)(cs:List (List Int))(k:Nat)(h:k<cs.length)(j:Nat):(zG n cs k ++ JA cs[k] j).length<=(zG n cs cs.length).length:=by
 have h1:=jbf n cs (k+1);rw[Ws _ _ _ h] at h1;have h2:=wN (λl=>Lib.itoa l ++ [32]) cs[k] j;rw[Wu] at h1;simp only[υ,JA] at h1 h2 ⊢;omega
set_option maxHeartbeats 4000000 in
theorem Tryd.write_walk (vars:Int)(cs:List (List Int))(sp:Option Addr)(C:Nat)(w:World)(hv0:0<=vars)(hv1:vars<=262144)(hn:cs.length<=1048576)
  (hcs:jdb w sp cs) (hrng:∀ c,c∈cs->c.length<=4194304/\∀ l,l∈c->-2147483648<=l/\l<=2147483647) (hB:(zG vars cs cs.length).length<=1000000000)
  (hR:∀ W,Below w.heap.size w W->Calls δ 14 #[.agg #[.int .i64 vars,.slice sp cs.length C]] W λe w'=>e=.returned (.bool true)/\Below W.heap.size W w')
  (htab : Lib.TabIs δ w "internal/strconv.uint64pow10" .u64 Lib.pow10Tab) :
  Calls δ 11 #[.agg #[.int .i64 vars,.slice sp cs.length C]] w λe w'=>e=.returned (.tuple #[.string ⟨(zG vars cs cs.length).toArray⟩,.int .i64 0])/\Below w.heap.size w w':=by
 have b0:Below w.heap.size w (w.alloc (.cells #[.int .i64 vars,.slice sp cs.length C] 24)):=(Below.refl _ w).alloc (ν _) _
 go_enter Tryd.func11,Tryd.ntmps11
 go_wp2_with (go_at_call 14;refine(hR _ b0).mono ?_)
 rintro e W1 ⟨rfl,h1⟩;have hs1:w.heap.size+1<=W1.heap.size:=by have:=h1.size;simpa using this
 have bw1:Below w.heap.size w W1:=b0.trans (h1.mono (by simp));have f0:W1.cell? ⟨w.heap.size,0,none⟩=some (.int .i64 vars):=(h1.cell (p:=⟨w.heap.size,0,none⟩) (by simp)).trans ((World.cell?_alloc_at _ 24 w.heap.size 0 rfl).trans rfl);have f1:W1.cell? ⟨w.heap.size,1,none⟩=some (.slice sp cs.length C):=(h1.cell (p:=⟨w.heap.size,1,none⟩) (by simp)).trans ((World.cell?_alloc_at _ 24 w.heap.size 1 rfl).trans rfl);clear h1 b0;have isB:Lib.IsBuilderF 51 5 W1.heap.size W1.heap.size [] (W1.alloc (.cells #[.pointer none,.slice none 0 0] 51)):=.of (Lib.fresh_isBuilder 51 5 W1);have bw2:Below W1.heap.size W1 (W1.alloc (.cells #[.pointer none,.slice none 0 0] 51)):=(Below.refl _ W1).alloc (ν _) _;have I0:WI w vars (.slice sp cs.length C) w.heap.size W1.heap.size [] (W1.alloc (.cells #[.pointer none,.slice none 0 0] 51)):=⟨(bw2.cell (p:=⟨w.heap.size,0,none⟩) (show w.heap.size<_ by omega)).trans f0,(bw2.cell (p:=⟨w.heap.size,1,none⟩) (show w.heap.size<_ by omega)).trans f1,isB,bw1.trans (bw2.mono om),om,bw2.size,ν _⟩
 go_wp2_with fail
 clear isB bw2 f0 f1;generalize hφ:w.heap.size=φ at *;generalize W1.alloc (.cells #[.pointer none,.slice none 0 0] 51)=W2 at *;generalize W1.heap.size=β at *;have l1:=Lib.itoa_length_le vars om om;have l2:=Lib.itoa_length_le (cs.length:Int) om om;have k1:¬9223372036854775807<6+(Lib.itoa vars).length:=om
 have k2:¬9223372036854775807<6+(Lib.itoa vars).length+1:=om
 have k3:¬9223372036854775807<6+(Lib.itoa vars).length+1+(Lib.itoa (cs.length:Int)).length:=om
 have k4:¬9223372036854775807<6+(Lib.itoa vars).length+1+(Lib.itoa (cs.length:Int)).length+1:=om
 have v0:(-9223372036854775808:Int)<=vars:=om
 have v1:vars<=9223372036854775807:=om
 have v2:(-9223372036854775808:Int)<=(cs.length:Int):=om
 have v3:(cs.length:Int)<=9223372036854775807:=om
 have wl:([]:List UInt8).length+(XV vars cs.length).length<=140737488355328:=by unfold XV;simp only[υ,Qad,Qah];omega
 have c0:=I0.c0;have c1:=I0.c1;have i0:=WI.drew I0
 go_cut [] (λwx=>WI w vars (.slice sp cs.length C) φ β (XV vars cs.length) wx)
 case first=>
  go_region_with (first
   |(go_at_call 23;first
     |(refine(Gj _ hI _ v2 v3 htab).mono ?_;rintro e W1z ⟨rfl,hI2⟩;have c2:=hI2.c0;have c3:=hI2.c1)
     |(refine(Gj _ i0 _ v0 v1 htab).mono ?_;rintro e W1x ⟨rfl,hI⟩;have c0:=hI.c0;have c1:=hI.c1))
   |(go_at_call 22;refine(Up _ hI2 _ (XV vars cs.length) (jbg _ _) wl).mono ?_;rintro e W1y ⟨rfl,hJ⟩))
  all_goals(go_wp2_with fail;go_meet;exact hJ)
 case rest=>
 clear l1 l2 k1 k2 k3 k4 v0 v1 v2 v3 wl c0 c1 i0 I0;have c1:=hcut.c1
 go_wp2_with fail
 clear c1
 go_loopg [27] cs.length (λg s27 wx=>∃ k,g=cs.length - k/\k<=cs.length/\s27=.int .i64 k/\WI w vars (.slice sp cs.length C) φ β (zG vars cs k) wx)
 case atStart=>exact⟨0,rfl,Qaa _,rfl,by simpa[zG] using hcut⟩
 case round=>
  obtain⟨k,rfl,hk,rfl,hI⟩:=hrel;by_cases hlt:k<cs.length
  ·obtain⟨b,o,rfl,hall⟩:=hcs om;obtain⟨v,hv,p,C',rfl,hC',hl⟩:=hall k hlt;have hb:b<w.heap.size:=World.block_lt_of_cell? _ _ hv;have hv':wr.cell? ⟨b,o+k,none⟩=some (.slice p cs[k].length C'):=(hI.bw.cell (p:=⟨b,o+k,none⟩) hb).trans hv;have hr:=hrng _ (Qaf hlt);have hr1:=hr.1;have hlt':(k:Int)<(cs.length:Int):=om
   have hk1:IntKind.i64.wrap ((k:Int)+1)=(k:Int)+1:=IntWalk.i64_in _ om
   go_wp2_with fail
   clear hv';have HK:=Lib.hid hk1;clear hk1
   go_loopg [33] cs[k].length (λg s33 wx=>∃ j,g=cs[k].length - j/\j<=cs[k].length/\s33=.int .i64 j/\WI w vars (.slice (some ⟨b,o,none⟩) cs.length C) φ β (zG vars cs k ++ JA cs[k] j) wx)
   case atStart=>exact⟨0,rfl,Qaa _,rfl,by simpa[JA] using hI⟩
   case round=>
    obtain⟨j,rfl,hj,rfl,hJ⟩:=hrel;by_cases hjt:j<cs[k].length
    ·obtain⟨b2,o2,rfl,hal2⟩:=hl om;have hx:=hal2 j hjt;have hb2:b2<w.heap.size:=World.block_lt_of_cell? _ _ hx;have hx':=(hJ.bw.cell (p:=⟨b2,o2+j,none⟩) hb2).trans hx;have hr2:=hr.2 _ (Qaf hjt);have hjt':(j:Int)<(cs[k].length:Int):=om
     have hj1:IntKind.i64.wrap ((j:Int)+1)=(j:Int)+1:=IntWalk.i64_in _ om;have hw1:IntKind.i64.wrap cs[k][j]=cs[k][j]:=IntWalk.i64_in _ om;have l0:(-9223372036854775808:Int)<=cs[k][j]:=om
     have l1:cs[k][j]<=9223372036854775807:=om
     have l2:=Lib.itoa_length_le cs[k][j] l0 l1;have l3:¬9223372036854775807<(Lib.itoa cs[k][j]).length+1:=om
     have l4:=Wt vars cs k hlt j;have l5:(zG vars cs k ++ JA cs[k] j).length+(Lib.itoa cs[k][j] ++ [32]).length<=140737488355328:=by have e:(Lib.itoa cs[k][j] ++ [32]).length=(Lib.itoa cs[k][j]).length+1:=(by simp);omega
     have L5:=Lib.hid l5;clear l5 l4
     go_wp2_with (first
      |(go_at_call 23;refine(Gj _ hJ _ l0 l1 htab).mono ?_;rintro e Wx ⟨rfl,hJ2⟩)
      |(go_at_call 22;refine(Up _ hJ2 _ (Lib.itoa cs[k][j] ++ [32]) (jde _) L5.out).mono ?_;rintro e Wy ⟨rfl,hJ3⟩))
     go_roundg (cs[k].length - (j+1))
     case measure=>omega
     case rel=>exact⟨j+1,rfl,hjt,by simp,by rw[gL _ _ hjt,<-QaN];exact hJ3⟩
    ·obtain rfl:j=cs[k].length:=om
     have hk2:=HK.out;have l4:=Wt vars cs k hlt cs[k].length;have L5:=Lib.hid (show(zG vars cs k ++ JA cs[k] cs[k].length).length+[48,10].length<=140737488355328 by simp only[Qad,Qah];omega);clear l4
     go_wp2_with (go_at_call 22;refine(Up _ hJ _ [48,10] rfl L5.out).mono ?_;rintro e Wy ⟨rfl,hJ3⟩)
     go_roundg (cs.length - (k+1))
     case measure=>omega
     case rel=>exact⟨k+1,rfl,hlt,by simp,by rw[Ws _ _ _ hlt];exact hJ3⟩
  ·obtain rfl:k=cs.length:=om
   go_wp2_with (go_at_call 24;refine(Tryd.Builder_String_any_f β β _ wr hI.isb hI.hβ).mono ?_;rintro e W9 ⟨rfl,hZ,kZ⟩)
   refine bodyPost_ret (v:=.tuple #[.string ⟨(zG vars cs cs.length).toArray⟩,.int .i64 0]) (by simp[results,Tryd.results11,go_sem]) rfl ?_;exact⟨rfl,hφ▸hI.bw.trans (kZ.mono (by have:=hI.hφ;omega))⟩
end Go.Proofs
end
noncomputable section
set_option maxRecDepth 100000
namespace Go.Sy
open Go.Ev Go.Proofs
open Go.RowKit (Below)
theorem wX:okP δ=true:=by kernel_rfl
theorem vH:Tryd.prog.follows .mixedOrders=true:=by kernel_rfl
theorem JN {ι:Inj}{st:St}{w w':World}(hs:Sim ι st.h st.nx w)(b:Below w.heap.size w w'):Sim ι st.h st.nx w'/\Grew ι w ι w':=by
 have gr:Grew ι w ι w':=⟨b.os,b.tape,b.output,b.size,λk hk _=>b.block k hk,λb B S e=>.inl ⟨b,S,e⟩,λB vs h=>.inl h⟩;exact⟨⟨λc B S e=>by
  obtain⟨o,x,h1,h2,h3⟩:=hs.obj c B S e;exact⟨o,x,h1,(b.block B (hs.lt e)).trans h2,h3⟩,hs.gone,hs.inj,hs.born,hs.glob.grew gr⟩,gr⟩
def Inj.froze (ι:Inj)(g:Nat)(vs:List Value):Inj:=⟨ι.f,λB=>if B=g then some vs else ι.g B⟩
theorem HQ {ι:Inj}{st:St}{w w':World}(hs:Sim ι st.h st.nx w)(b:Below w.heap.size w w'){g:Nat}(hg:w.heap.size<=g){cur:Array Value}{e:TypeId}{f:Nat×Nat}(hc:w'.heap[g]? = some (.cells cur e f)) :
  Le ι (Inj.froze ι g cur.toList)/\Sim (Inj.froze ι g cur.toList) st.h st.nx w'/\Grew ι w (Inj.froze ι g cur.toList) w'/\Cleanly ι (Inj.froze ι g cur.toList) st st:=by
 have le:Le ι (Inj.froze ι g cur.toList):=⟨λ_ _=>.inl rfl,λB vs h=>by
  have:=(hs.glob.2 B vs h).lt;show(if B=g then some cur.toList else ι.g B)=some vs;rw[if_neg om];exact h⟩
 have fz:Froz (Inj.froze ι g cur.toList) w' g cur.toList:=⟨⟨cur,e,f.1,f.2,hc,rfl,trivial⟩,λc S h=>by
  have:=hs.lt (b:=c) (B:=g) (S:=S) h;omega⟩
 have gr:Grew ι w (Inj.froze ι g cur.toList) w':=⟨b.os,b.tape,b.output,b.size,λk hk _=>b.block k hk,λb B S e=>.inl ⟨b,S,e⟩,λB vs h=>by
  have h:(if B=g then some cur.toList else ι.g B)=some vs:=h;by_cases hB:B=g
  ·subst hB;rw[if_pos rfl] at h;cases h;exact .inr ⟨fz,.inr hg⟩
  ·rw[if_neg hB] at h;exact .inl h⟩
 exact⟨le,⟨λc B S e=>by
  obtain⟨o,x,h1,h2,h3⟩:=hs.obj c B S e;exact⟨o,x,h1,(b.block B (hs.lt e)).trans h2,OR.mono le o x h3⟩,hs.gone,hs.inj,hs.born,hs.glob.grew gr⟩,gr,⟨ν _,ν _,λ_ _ _=>rfl,λ_ _=>rfl,λ_ _ h=>h,λ_ h=>h,λ_ h1 h2=>absurd h2 (Nat.not_lt.2 h1)⟩⟩
theorem Uq {ι:Inj}:∀ bs:List ByteArray,VRs ι (bs.map λb=>.str (nl b.data.toList)) (bs.map Value.string)
 |[]=>rfl
 |b :: r=>⟨_,_,rfl,⟨b,rfl,rfl⟩,Uq r⟩
theorem Ww:∀ l:List (List Nat),(l.map AV.str).all AV.cell=true
 |[]=>rfl
 |x :: xs=>by rw[ξ,Qaw,Ww xs];rfl
theorem Vg {ι:Inj}{st:St}{w w':World}(hs:Sim ι st.h st.nx w)(b:Below w.heap.size w w'){g:Nat}(hg:w.heap.size<=g){cur:Array Value}{e:TypeId}{f:Nat×Nat}(hc:w'.heap[g]? = some (.cells cur e f)){bs:List ByteArray}{l:List (List Nat)}{C:Nat}(hC:l.length<=C)(hl:bs.map (λb=>nl b.data.toList)=l)(hcur:cur.toList.take l.length=bs.map Value.string) :
  yp ι w st st (ssV l) (.slice (some ⟨g,0,none⟩) l.length C) w':=by
 obtain⟨h1,h2,h3,h4⟩:=HQ hs b hg hc;have hlen:bs.length=l.length:=by rw[<-hl,QaC]
 have hle:l.length<=cur.toList.length:=by
  have:=congrArg QaX hcur;rw[QaL,QaC,hlen] at this;omega
 refine⟨Inj.froze ι g cur.toList,h1,?_,h2,h3,h4⟩;unfold ssV;simp only[VR];refine⟨_,C,rfl,hC,Ww l,λ_=>⟨g,0,cur.toList,rfl,?_,?_,?_⟩⟩
 ·show(if g=g then _ else _)=_;rw[if_pos rfl]
 ·rw[QaC,Qan];exact hle
 ·rw[QaC,QbM,hcur,<-hl,QaD];exact Uq bs
def deC:AV->ClT
 |.lst _ cs=>cs.map λx=>match x with | .int _ n=>n|_=>0
 |_=>[]
def deF:List AV->FmT
 |[.int _ v,.lst _ cs]=>⟨v,cs.map deC⟩
 |_=>⟨0,[]⟩
theorem jdP (c:ClT):deC (clV c)=c:=by
 unfold clV deC;dsimp only;rw[QaD];exact(QaH (λx _=>rfl)).trans (List.map_id c)
theorem gm (f:FmT):deF (fmE f)=f:=by
 have h:∀ l:List ClT,(fl clE l).map deC=l:=by
  intro l;induction l with
  |nil=>rfl
  |cons c l ih=>rw[show fl clE (c :: l)=clV c :: fl clE l from rfl,ξ,jdP,ih]
 show(⟨f.vars,(fl clE f.cls).map deC⟩:FmT)=f;rw[h]
def YT (d:List Nat):List Nat:=if nl (d.map UInt8.ofNat)=d then nl (Lib.trimS (d.map UInt8.ofNat) dig10) else if d.all qe=true then [] else [0]
theorem HH (d:List Nat):YT d=[]↔d.all qe=true:=by
 unfold YT;by_cases h:nl (d.map UInt8.ofNat)=d
 ·rw[if_pos h];have e:=jbh (d.map UInt8.ofNat);rw[h] at e;rw[<-e];unfold nl;rw[List.map_eq_nil_iff]
 ·rw[if_neg h];by_cases h2:d.all qe=true
  ·rw[if_pos h2];exact⟨λ_=>h2,λ_=>rfl⟩
  ·rw[if_neg h2];exact⟨λe=>(by cases e),λe=>absurd e h2⟩
theorem VL (l:List UInt8):(nl l).map UInt8.ofNat=l:=by
 unfold nl;rw[QaD];exact(QaH (λx _=>UInt8.ofNat_toNat)).trans (List.map_id l)
open Classical in
def yo:jT:=λf args st=>match args with
 |[.agg cs]=>if f=11/\cs=fmE (deF cs)/\jx (deF cs)=true then .ok (.tup [.str (fmW (deF cs)),.int .i64 0]) st else .no
 |[.str s,.str t]=>if f=49/\t=[10]/\s.length<=1000000000 then .ok (ssV (Jv s)) st else if f=54/\t=[48,49,50,51,52,53,54,55,56,57]/\s≠[]/\s.length<=9 then .ok (.str (YT s)) st else .no
 |[.str s,.fn g cs]=>if f=51/\g=52/\cs=[]/\s.length<=1000000000/\10∉s then .ok (ssV (jt [] s)) st else .no
 |[.str s]=>if f=55 then(match qu s with|some n=>.ok (.tup [.int .i64 n,.nilif]) st|none=>.no) else .no
 |_=>.no
def wA:Bs:=⟨yo,UD⟩
theorem wR (f:FuncId)(args:List AV)(st:St):yo f args st=.no\/(f=11/\∃ g:FmT,args=[.agg (fmE g)]/\jx g=true/\yo f args st=.ok (.tup [.str (fmW g),.int .i64 0]) st)\/(f=49/\∃ s,args=[.str s,.str [10]]/\s.length<=1000000000/\yo f args st=.ok (ssV (Jv s)) st) \/
  (f=54/\∃ s,args=[.str s,.str [48,49,50,51,52,53,54,55,56,57]]/\s≠[]/\s.length<=9/\yo f args st=.ok (.str (YT s)) st)\/(f=51/\∃ s,args=[.str s,.fn 52 []]/\s.length<=1000000000/\10∉s/\yo f args st=.ok (ssV (jt [] s)) st) \/
  (f=55/\∃ s n,args=[.str s]/\qu s=some n/\yo f args st=.ok (.tup [.int .i64 n,.nilif]) st):=by
 unfold yo;split
 ·rename_i cs;by_cases h:f=11/\cs=fmE (deF cs)/\jx (deF cs)=true
  ·rw[if_pos h];exact .inr (.inl ⟨h.1,deF cs,by rw[<-h.2.1],h.2.2,rfl⟩)
  ·exact .inl (if_neg h)
 ·rename_i s t;by_cases h:f=49/\t=[10]/\s.length<=1000000000
  ·rw[if_pos h];exact .inr (.inr (.inl ⟨h.1,s,by rw[h.2.1],h.2.2,rfl⟩))
  ·rw[if_neg h];by_cases h2:f=54/\t=[48,49,50,51,52,53,54,55,56,57]/\s≠[]/\s.length<=9
   ·rw[if_pos h2];exact .inr (.inr (.inr (.inl ⟨h2.1,s,by rw[h2.2.1],h2.2.2.1,h2.2.2.2,rfl⟩)))
   ·exact .inl (if_neg h2)
 ·rename_i s g cs;by_cases h:f=51/\g=52/\cs=[]/\s.length<=1000000000/\10∉s
  ·rw[if_pos h];exact .inr (.inr (.inr (.inr (.inl ⟨h.1,s,by rw[h.2.1,h.2.2.1],h.2.2.2.1,h.2.2.2.2,rfl⟩))))
  ·exact .inl (if_neg h)
 ·rename_i s;by_cases h:f=55
  ·rw[if_pos h];cases hn:qu s with
   |none=>exact .inl rfl
   |some n=>exact .inr (.inr (.inr (.inr (.inr ⟨h,s,n,rfl,hn,rfl⟩))))
  ·exact .inl (if_neg h)
 ·exact .inl rfl
theorem baseC_PC:PC wA:=by
 refine⟨λs st h=>?_,λl st h h2=>?_,λd st h h2=>?_,λs n st h=>?_⟩
 ·show yo 49 [.str s,.str [10]] st=_;unfold yo;dsimp only;rw[if_pos ⟨rfl,rfl,h⟩]
 ·show yo 51 [.str l,.fn 52 []] st=_;unfold yo;dsimp only;rw[if_pos ⟨rfl,rfl,rfl,h,h2⟩]
 ·refine⟨YT d,?_,HH d⟩;show yo 54 [.str d,.str [48,49,50,51,52,53,54,55,56,57]] st=_;unfold yo;dsimp only;rw[if_neg (λh=>by cases h.1),if_pos ⟨rfl,rfl,h,h2⟩]
 ·show yo 55 [.str s] st=_;unfold yo;dsimp only;rw[if_pos rfl,h]
theorem baseC_PW:PW wA:=by
 refine⟨λf st h=>?_,λf st h=>?_,λn st=>?_⟩
 ·show yo 11 [.agg (fmE f)] st=_;unfold yo;dsimp only;rw[gm,if_pos ⟨rfl,rfl,h⟩]
 ·show yo 11 [.agg (fmE f)] st=_;unfold yo;dsimp only;rw[gm,if_neg (λhh=>by rw[h] at hh;cases hh.2.2)]
 ·show yo 11 [.agg [.int .i64 n,.nils]] st=_;unfold yo;dsimp only;rw[if_neg λhh=>by
   have h:=hh.2.1;unfold fmE qJ at h;injection h with _ h
   injection h with h _
   cases h]
theorem baseC_NB:NB wA:=⟨λf h args st=>by
 rcases wR f args st with e|⟨rfl,_⟩|⟨rfl,_⟩|⟨rfl,_⟩|⟨rfl,_⟩|⟨rfl,_⟩
 ·exact e
 all_goals simp[uV] at h,rfl⟩
end Go.Sy
end
noncomputable section
namespace Go.Sy
open Go.Ev Go.RowKit
def frW (w:World):Inj:=⟨λ_=>.unborn,λB=>match w.heap[B]? with|some (.cells c _ _)=>some c.toList|_=>none⟩
theorem je6 {w:World}{B:Nat}{vs:List Value}(h:(frW w).g B=some vs):∃ c e f,w.heap[B]? = some (.cells c e f)/\c.toList=vs:=by
 unfold frW at h;dsimp only at h;split at h
 ·rename_i c e f hc;exact⟨c,e,f,hc,by simpa using h⟩
 ·cases h
theorem jaB {w:World}{B:Nat}{c:Array Value}{e:TypeId}{f:Nat×Nat}(h:w.heap[B]? = some (.cells c e f)):(frW w).g B=some c.toList:=by
 unfold frW;dsimp only;rw[h]
theorem KJ {w:World}(hg:GW w):Sim (frW w) st0.h st0.nx w:=
 ⟨λb B S e=>(by cases e),λb e=>(by cases e),λb b' B S S' e=>(by cases e),λb e=>absurd rfl e,⟨hg,λb S j hj e=>by cases e⟩,λB vs h=>by
  obtain⟨c,e,f,h1,h2⟩:=je6 h;exact⟨⟨c,e,f.1,f.2,h1,h2,trivial⟩,λb S e=>by cases e⟩⟩
section
variable {H:Type} {enc:TypeId×Value->H} {P:Program} {w:World} {base:Nat} {sp:Nat->Bool} {held:Bool}
mutual
def wz:DataW H->Nat
 |.lit (.string bytes)=>bytes.length+1
 |.lit _=>1
 |.nil=>1
 |.ptr d=>wz d+1
 |.slice elems spare=>yY elems+yY spare+1
 |.agg parts=>yY parts+1
 |.iface _ d=>wz d+1
 |.map entries=>1
 |.held _=>1
def yY:List (DataW H)->Nat
 |[]=>0
 |d :: r=>wz d+yY r
end
def Reads (H:Type)(P:Program)(w:World)(N:Nat)(t:TypeId){α:Type}(z:Nat)(en:α->List AV)(sz:α->Nat):Prop:=
 P.cellsOf t=z/\(∀ x,(en x).length=z)/\∀ (enc:TypeId×Value->H) (base:Nat) (sp:Nat->Bool) (held:Bool) (fuel:Nat) (cs:List Value) (d:DataW H) (ps:List MemPlace),fuel<=N->DataW.trod enc P w base sp held fuel t cs=some (d,ps)->∃ x:α,VRs (frW w) (en x) cs/\(en x).all AV.cell=true/\sz x<=wz d
def U5 (k:IntKind)(n:{n:Int // (Lit.int k n).wf=true}):List AV:=[.int k n.1]
theorem HV {N:Nat}{t:TypeId}{k:IntKind}(hu:P.underlying t=some (.int k))(hc:P.cellsOf t=1):Reads H P w N t 1 (U5 k) (λ_=>1):=
 ⟨hc,λ_=>rfl,λenc base sp held fuel cs d ps hN h=>by
  obtain⟨n,rfl,hx,hw⟩:=DataW.trod_int hu h;cases hx;exact⟨⟨n,hw⟩,⟨_,_,rfl,rfl,rfl⟩,rfl,ν _⟩⟩
theorem jdq {N:Nat}{t:TypeId}(hu:P.underlying t=some .bool)(hc:P.cellsOf t=1):Reads H P w N t 1 (λb:Bool=>[.bool b]) (λ_=>1):=
 ⟨hc,λ_=>rfl,λenc base sp held fuel cs d ps hN h=>by
  obtain⟨n,rfl,hx⟩:=DataW.trod_bool hu h;cases hx;exact⟨n,⟨_,_,rfl,rfl,rfl⟩,rfl,ν _⟩⟩
theorem Wn {w:World}{a:Addr}{v:Value}(h:w.cell? a=some v):a.spot=none/\∃ c e f,w.heap[a.block]? = some (.cells c e f)/\c[a.off]? = some v:=by
 unfold World.cell? at h;split at h
 ·rename_i c e f hc;split at h
  ·cases h
  ·rename_i hs;exact⟨by simpa using hs,c,e,f,hc,h⟩
 ·cases h
theorem kE {w:World}{base:Nat}{a:Addr}{n:Nat}{cs:List Value}(h:w.cells? base a n=some cs):cs.length=n/\∀ i,i<n->w.cell? (a.add i)=some (cs.getD i undef):=by
 unfold World.cells? at h;split at h
 ·refine⟨by simpa using mapM_some_length h,λi hi=>?_⟩;have:=mapM_some_get h i i (by simp[hi]);rw[this];have hl:cs.length=n:=by simpa using mapM_some_length h
  simp[Qae,show i<cs.length by omega]
 ·cases h
theorem kR (b o n:Nat):(Addr.add ⟨b,o,none⟩ n)=⟨b,o+n,none⟩:=by
 unfold Addr.add;split
 ·rename_i h;subst h;rfl
 ·rfl
theorem vf {N:Nat}{α:Type}{t e:TypeId}{z:Nat}{en:α->List AV}{sz:α->Nat}(hz0:0<z)(hu:P.underlying t=some (.slice e))(hc:P.cellsOf t=1)(R:Reads H P w N e z en sz)(hpos:∀ x,1<=sz x) :
  Reads H P w (N+1) t 1 (λxs:List α=>[.lst xs.length (fl en xs)]) (λxs=>(xs.map sz).sum+1):=
 ⟨hc,λ_=>rfl,λenc base sp held fuel cs d ps hN h=>by
  obtain⟨hz,hl,hr⟩:=R;rcases DataW.trod_slice hu h with ⟨rfl,hx⟩|⟨a,len,cap,elems,rest,n,rfl,rfl,hx,hb,hle,hm,hel,h1,_,_⟩
  ·cases hx;exact⟨[],⟨_,_,rfl,⟨none,0,rfl,ν _,rfl,λh=>absurd h (Qbh 0)⟩,rfl⟩,rfl,by simp[wz]⟩
  ·rw[hz] at h1;have each:∀ i,i<len->∃ ci d q,w.cells? base (a.add (i * z)) z=some ci/\DataW.trod enc P w base sp held n e ci=some (d,q)/\elems[i]? = some (d,q):=λi hi=>by
    have:=h1 i hi;rw[Qac om] at this;obtain⟨ci,e1,e2⟩:=Option.bind_eq_some_iff.1 this;exact⟨ci,elems[i].1,elems[i].2,e1,e2,Qac om⟩
   have all:∀ m,m<=len->∃ xs:List α,xs.length=m/\(xs.map sz).sum<=yY ((elems.take m).map (·.1))/\∀ i (hi:i<xs.length),∃ ci,w.cells? base (a.add (i * z)) z=some ci/\VRs (frW w) (en xs[i]) ci/\(en xs[i]).all AV.cell=true:=by
    intro m;induction m with
    |zero=>exact λ_=>⟨[],rfl,by simp[yY],λi hi=>by simp at hi⟩
    |succ m ih=>
     intro hm;obtain⟨xs,e1,e2,e3⟩:=ih om;obtain⟨ci,d,q,f1,f2,f3⟩:=each m om;obtain⟨x,g1,g2,g3⟩:=hr enc base sp held n ci d q om f2;have app:∀ (l r:List (DataW H)),yY (l ++ r)=yY l+yY r:=λl r=>by
      induction l with
      |nil=>simp[yY]
      |cons y l ih=>rw[QaS,yY,yY,ih,Nat.add_assoc]
     refine⟨xs ++ [x],by simp[e1],?_,λi hi=>?_⟩
     ·rw[QbL,f3];simp only[Option.toList,QaI,ξ,τ,List.sum_append,List.sum_cons,List.sum_nil,app,yY];omega
     ·by_cases hlt:i<xs.length
      ·rw[List.getElem_append_left hlt];exact e3 i hlt
      ·have:i=m:=by simp at hi;omega
       subst this;rw[List.getElem_append_right om];simp only[e1,Nat.sub_self,QbX];exact⟨ci,f1,g1,g2⟩
   obtain⟨xs,e1,e2,e3⟩:=all len (ν _);have hcell:(fl en xs).all AV.cell=true:=by
    rw[Qal];intro v hv;obtain⟨y,hy,hv⟩:=List.mem_flatMap.1 hv;obtain⟨i,hi,rfl⟩:=QbO.1 hy;obtain⟨_,_,_,h5⟩:=e3 i hi;exact Qal.1 h5 v hv
   refine⟨xs,⟨_,_,rfl,?_,rfl⟩,rfl,?_⟩
   ·refine⟨some a,cap,by rw[e1],om,hcell,λhpos=>?_⟩;obtain⟨c0,f0,_,_⟩:=e3 0 hpos;have f1:=(kE f0).2 0 hz0;rw[QaT] at f1;have z0:(a.add 0).add 0=a:=rfl;rw[z0] at f1;obtain⟨hs,c,ty,fr,hB,_⟩:=Wn f1;obtain⟨B,o,s⟩:=a;dsimp only at hs hB;subst hs;have cell:∀ i (hi:i<xs.length) j,j<z->∃ v,c[o+(i * z+j)]? = some v/\VR (frW w) ((en xs[i]).getD j .bad) v:=λi hi j hj=>by
     obtain⟨ci,g0,g1,g2⟩:=e3 i hi;have g3:=(kE g0).2 j hj;rw[kR,kR] at g3;obtain⟨_,c',ty',fr',hB',g4⟩:=Wn g3;dsimp only at hB' g4;rw[hB] at hB';cases hB';refine⟨_,by rw[<-Nat.add_assoc];exact g4,?_⟩;exact g1.get j (by rw[hl];exact hj)
    have bound:o+xs.length * z<=c.size:=by
     have hl1:0<xs.length:=hpos;obtain⟨v,g,_⟩:=cell (xs.length - 1) om (z - 1) om;have:=(Qao.1 g).1;have e:(xs.length - 1) * z+(z - 1)+1=xs.length * z:=by
      have:(xs.length - 1+1) * z=(xs.length - 1) * z+z:=QaZ _ _;rw[show xs.length - 1+1=xs.length by omega] at this;omega
     omega
    have hfl:=ui hl xs;have hcs:c.toList.length=c.size:=Qai;refine⟨B,o,c.toList,rfl,jaB hB,by rw[hfl,hcs];exact bound,?_⟩;show VRs (frW w) _ _;refine VRs.of_get (by rw[hfl,QaL,QaO,hcs];omega) λi hi=>?_;rw[hfl] at hi;have hj:i % z<z:=Nat.mod_lt _ hz0;have hq:i / z<xs.length:=Nat.div_lt_of_lt_mul (by rw[Nat.mul_comm];exact hi);have hiz:i / z * z+i % z=i:=by rw[Nat.mul_comm];exact Nat.div_add_mod i z
    obtain⟨v,g1,g2⟩:=cell (i / z) hq (i % z) hj;rw[hiz] at g1;have g3:=jaC hl hq hj;rw[hiz] at g3;rw[g3];have g4:((c.toList.drop o).take (fl en xs).length).getD i undef=v:=by
     rw[hfl];simp only[Qae,Qbl,hi,if_true,Qbu,QbB,g1,Qar]
    rw[g4];exact g2
   ·cases hx;rw[wz];have:elems.take len=elems:=by rw[<-hel];exact Qay
    rw[this] at e2;show(xs.map sz).sum+1<=yY (elems.map (·.1))+yY (rest.map (·.1))+1;omega⟩
theorem Reads.mono {N M:Nat}{α:Type}{t:TypeId}{z:Nat}{en:α->List AV}{sz:α->Nat}(R:Reads H P w N t z en sz)(h:M<=N):Reads H P w M t z en sz:=
 ⟨R.1,R.2.1,λenc base sp held fuel cs d ps hN=>R.2.2 enc base sp held fuel cs d ps om⟩
theorem Kw {ι:Inj}{a b:List AV}{cs:List Value}{o z:Nat}(h1:VRs ι a ((cs.drop o).take z))(h2:VRs ι b (cs.drop (o+z))):VRs ι (a ++ b) (cs.drop o):=by
 have:=VRs.append h1 h2;rwa [<-List.drop_drop,Qbt] at this
theorem jdf {ι:Inj}{cs:List Value}{o:Nat}(h:cs.length=o):VRs ι [] (cs.drop o):=by
 rw[List.drop_eq_nil_of_le om];rfl
end
end Go.Sy
end
noncomputable section
set_option maxRecDepth 100000
namespace Go.Sy
open Go.Ev Go.Proofs
open Go.RowKit (Below)
theorem ent {f:FuncId}{fn:Func}(h:Tryd.prog.funcs[f]? = some fn)(hb:fn.body.isSome=true):Ev.Enters δ f:=by
 obtain⟨c,hc⟩:=Option.isSome_iff_exists.1 hb;exact(Y3 wX h hc).2
theorem Yy {ι:Inj}{s:List Nat}{v:Value}(h:VR ι (.str s) v):∃ bs:ByteArray,v=.string bs/\nl bs.data.toList=s/\bs.size=s.length:=by
 simp only[VR] at h;obtain⟨bs,h1,h2⟩:=h;refine⟨bs,h1,h2,?_⟩;rw[<-h2,QaC,Lib.size_eq]
theorem KZ {bs:ByteArray}{l:List UInt8}(h:nl bs.data.toList=nl l):bs=⟨l.toArray⟩:=by
 have e:bs.data.toList=l:=by
  have:=congrArg (List.map UInt8.ofNat) h;rwa [VL,VL] at this
 apply ByteArray.ext;rw[<-e]
theorem HP {ι:Inj}{st:St}{w:World}{vs:Array Value}(s:List Nat)(hl:s.length<=1000000000)(hs:Sim ι st.h st.nx w)(hv:VRs ι [.str s,.str [10]] vs.toList) :
  Calls δ 49 vs w λe w'=>∃ x,e=.returned x/\yp ι w st st (ssV (Jv s)) x w':=by
 obtain⟨v1,l1,e1,h1,v2,l2,rfl,h2,rfl⟩:=hv;obtain⟨bs,rfl,hb,hsz⟩:=Yy h1;obtain⟨b2,rfl,hb2,_⟩:=Yy h2;have hlit:b2=⟨#[10]⟩:=KZ (l:=[10]) hb2;subst hlit;have hvs:vs = #[.string bs,.string ⟨#[10]⟩]:=by cases vs;simpa using e1
 subst hvs;obtain⟨cs,t,f,m,hc,hm⟩:=hs.glob.1.1.2;have hm2:w.cell? ⟨3,0,none⟩=some (.int .i64 m):=by simp[World.cell?,hc,hm]
 have hcnt:=Lib.splitB_all ⟨#[10]⟩ dc 0 _ bs rfl;have hsp:=jbi bs;rw[hb] at hsp;refine(Tryd.strings_Split bs ⟨#[10]⟩ m w om hm2 dc).mono λe w' ⟨he,hw⟩=>⟨_,he,?_⟩;have hlen:(Jv s).length=Lib.countB bs ⟨#[10]⟩+1:=by rw[<-hsp,QaC,hcnt]
 rw[<-hlen,hw];refine Vg hs ((Below.refl _ w).alloc (ν _) _) (ν _) (XL w _) (ν _) hsp ?_;rw[Qbs];rw[<-hsp];simp
theorem gR {ι:Inj}{st:St}{w:World}{vs:Array Value}(s:List Nat)(hl:s.length<=1000000000)(h10:10∉s)(hs:Sim ι st.h st.nx w)(hv:VRs ι [.str s,.fn 52 []] vs.toList) :
  Calls δ 51 vs w λe w'=>∃ x,e=.returned x/\yp ι w st st (ssV (jt [] s)) x w':=by
 obtain⟨v1,l1,e1,h1,v2,l2,rfl,h2,rfl⟩:=hv;obtain⟨bs,rfl,hb,hsz⟩:=Yy h1;simp only[VR,VRs] at h2;obtain⟨cv,rfl,hcv⟩:=h2;have hcv2:cv = #[]:=by simpa using hcv
 subst hcv2;have hvs:vs = #[.string bs,.func (.func 52) #[] #[]]:=by cases vs;simpa using e1
 subst hvs;have hf:=jaD bs (by rw[hb];exact h10);rw[hb] at hf;refine(Tryd.strings_FieldsFunc_runes 52 #[] Tryd.blank_enters blankP bs w om (Tryd.blank_runes w)).mono λe w' ⟨A,he,hA,ho,hbw⟩=>⟨_,he,?_⟩;have hlen:(jt [] s).length=(Lib.goFieldsP blankP bs).length:=by rw[<-hf,QaC]
 obtain⟨ho1,⟨ho2,_⟩|⟨g,cap,cur,e2,hg,hc,hn,hcap,hsz2,htk⟩⟩:=ho
 ·cases ho2
 ·injection e2 with e2 e3 e4
  injection e2 with e2
  injection e2 with e2 _ _
  subst e2;rw[<-hlen];refine Vg hs hbw hA hc (ν _) hf ?_;rw[hlen,<-htk,Qbf]
theorem jbk {ι:Inj}{st:St}{w:World}{vs:Array Value}(s:List Nat)(hl:s.length<=9)(hs:Sim ι st.h st.nx w)(hv:VRs ι [.str s,.str [48,49,50,51,52,53,54,55,56,57]] vs.toList) :
  Calls δ 54 vs w λe w'=>∃ x,e=.returned x/\yp ι w st st (.str (YT s)) x w':=by
 obtain⟨v1,l1,e1,h1,v2,l2,rfl,h2,rfl⟩:=hv;obtain⟨bs,rfl,hb,hsz⟩:=Yy h1;obtain⟨b2,rfl,hb2,_⟩:=Yy h2;have hlit:b2=⟨#[48,49,50,51,52,53,54,55,56,57]⟩:=KZ (l:=[48,49,50,51,52,53,54,55,56,57]) hb2;subst hlit;have hvs:vs = #[.string bs,.string ⟨#[48,49,50,51,52,53,54,55,56,57]⟩]:=by cases vs;simpa using e1
 subst hvs;refine(Tryd.trim_digits bs w om).mono λe w' ⟨he,hbw⟩=>⟨_,he,ι,Le.refl ι,?_,(JN hs hbw).1,(JN hs hbw).2,Cleanly.refl ι st⟩;simp only[VR];refine⟨_,rfl,?_⟩;have hn:nl (s.map UInt8.ofNat)=s:=by rw[<-hb,VL]
 unfold YT;rw[if_pos hn,<-hb,VL];rfl
theorem jbl {ι:Inj}{st:St}{w:World}{vs:Array Value}(s:List Nat)(n:Int)(hn:qu s=some n)(hs:Sim ι st.h st.nx w)(hv:VRs ι [.str s] vs.toList) :
  Calls δ 55 vs w λe w'=>∃ x,e=.returned x/\yp ι w st st (.tup [.int .i64 n,.nilif]) x w':=by
 obtain⟨v1,l1,e1,h1,rfl⟩:=hv;obtain⟨bs,rfl,hb,hsz⟩:=Yy h1;have hvs:vs = #[.string bs]:=by cases vs;simpa using e1
 subst hvs;have hlen:=jdx hn;rw[<-hb] at hn;refine(Tryd.strconv_Atoi bs n om (jdV hn) w).mono λe w' ⟨he,hw⟩=>?_;have hbw:Below w.heap.size w w':=by
  obtain⟨t,rfl⟩:=hw;exact Lib.bytesWorld_below w 5 t
 refine⟨_,he,ι,Le.refl ι,?_,(JN hs hbw).1,(JN hs hbw).2,Cleanly.refl ι st⟩;simp only[VR,VRs];exact⟨_,rfl,_,_,rfl,rfl,_,_,rfl,rfl,rfl⟩
theorem Ur {α:Type}{ι:Inj}{f:α->AV}:∀ {l:List α} {vs:List Value} {k:Nat} (hk:k<l.length),VRs ι (l.map f) vs->∃ v,vs[k]? = some v/\VR ι (f l[k]) v
 |x :: l,vs,0,hk,h=>by
  obtain⟨v,r,rfl,h1,_⟩:=h;exact⟨v,rfl,h1⟩
 |x :: l,vs,k+1,hk,h=>by
  obtain⟨v,r,rfl,_,h2⟩:=h;exact Ur (l:=l) (by simpa using hk) h2
theorem kj:∀ cs:List ClT,fl clE cs=cs.map clV
 |[]=>rfl
 |c :: cs=>by rw[show fl clE (c :: cs)=clV c :: fl clE cs from rfl,kj cs];rfl
theorem QJ {ι:Inj}{st:St}{w:World}(hs:Sim ι st.h st.nx w){B:Nat}{vs:List Value}(hg:ι.g B=some vs)(k:Nat):w.cell? ⟨B,k,none⟩=vs[k]?:=by
 obtain⟨⟨c,e,lo,hi,h1,h2,_⟩,_⟩:=hs.glob.2 B vs hg;rw[<-h2];simp[World.cell?,h1]
theorem jdE {ι:Inj}{st:St}{w:World}(hs:Sim ι st.h st.nx w){c:ClT}{v:Value}(h:VR ι.gone (clV c) v):ja6 w v c:=by
 unfold clV at h;simp only[VR] at h;obtain⟨p,C,rfl,hC,_,h⟩:=h;refine⟨p,C,rfl,hC,λh0=>?_⟩;obtain⟨B,o,vs,rfl,hg,hle,hvs⟩:=h h0;refine⟨B,o,rfl,λj hj=>?_⟩;obtain⟨v,hv,hr⟩:=Ur hj hvs;rw[QaC] at hle hv;rw[Qbl,if_pos hj,Qbu] at hv;simp only[VR] at hr;rw[QJ hs hg,hv,hr]
def GV:Bs:=⟨λ_ _ _=>.no,UD⟩
theorem jca:NB GV:=⟨λ_ _ _ _=>rfl,rfl⟩
theorem jb9:zc δ GV.run:=λf args st ι w vs _ _=>trivial
theorem Kv (f:FmT):nl (zG f.vars f.cls f.cls.length)=fmW f:=by
 have h1:∀ c:ClT,nl (c.flatMap λl=>Lib.itoa l ++ [32])=c.flatMap zr:=by
  intro c;induction c with
  |nil=>rfl
  |cons l c ih=>
   rw[QaJ,QaJ,<-ih];unfold zr;rw[<-Wa];simp[nl]
 have h2:∀ cs:List ClT,nl (cs.flatMap vG)=cs.flatMap zx:=by
  intro cs;induction cs with
  |nil=>rfl
  |cons c cs ih=>
   rw[QaJ,QaJ,<-ih];unfold zx vG;rw[<-h1];simp[nl]
 unfold zG fmW XV Q3;rw[Qay,<-h2,<-Wa,<-Wa];simp[nl]
theorem HO {ι:Inj}{st:St}{w:World}{vs:Array Value}(f:FmT)(hr:jx f=true)(hs:Sim ι st.h st.nx w)(hv:VRs ι [.agg (fmE f)] vs.toList) :
  Calls δ 11 vs w λe w'=>∃ x,e=.returned x/\yp ι w st st (.tup [.str (fmW f),.int .i64 0]) x w':=by
 obtain⟨v1,l1,e1,h1,rfl⟩:=hv;unfold fmE qJ at h1;rw[kj] at h1;simp only[VR,VRs] at h1;obtain⟨a,rfl,v2,l2,e2,rfl,v3,l3,rfl,⟨p,C,rfl,hC,hcell,hf⟩,rfl⟩:=h1;have ha:a = #[.int .i64 f.vars,.slice p f.cls.length C]:=by cases a;simpa using e2
 subst ha;have hvs:vs = #[.agg #[.int .i64 f.vars,.slice p f.cls.length C]]:=by cases vs;simpa using e1
 subst hvs;have hsm:=YW hr;have hls:jdb w p f.cls:=λh0=>by
  obtain⟨B,o,us,rfl,hg,hle,hus⟩:=hf h0;refine⟨B,o,rfl,λk hk=>?_⟩;obtain⟨v,hv,hc⟩:=Ur hk hus;rw[QaC] at hle hv;rw[Qbl,if_pos hk,Qbu] at hv;exact⟨v,(QJ hs hg _).trans hv,jdE hs hc⟩
 have hlits:∀ c∈f.cls,c.length<=qb f.cls:=λc hc=>by
  have:∀ (l:List ClT),c∈l->c.length<=qb l:=by
   intro l;induction l with
   |nil=>intro h;cases h
   |cons a l ih=>
    intro h;unfold qb at *;rw[ξ,List.sum_cons];rcases QaM.1 h with rfl|h
    ·omega
    ·have:=ih h;omega
  exact this _ hc
 have hlen:(zG f.vars f.cls f.cls.length).length<=100000000:=by
  have:=Wg hr;rw[<-Kv,ZD] at this;exact this
 have htab : Lib.TabIs δ w "internal/strconv.uint64pow10" .u64 Lib.pow10Tab := by
  obtain⟨t,fz,h0⟩:=hs.glob.1.1.1
  have g0 : Tryd.prog.globalNamed "internal/strconv.uint64pow10" = some 0 := by kernel_rfl
  unfold Lib.TabIs World.var?;simp only[g0,QaE,h0];rfl
 have hR:∀ W,Below w.heap.size w W->Calls δ 14 #[.agg #[.int .i64 f.vars,.slice p f.cls.length C]] W λe w'=>e=.returned (.bool true)/\Below W.heap.size W w':=by
  intro W hW;have hGW:GW W:=hs.glob.1.1.same λj hj=>hW.block j (hs.glob.1.1.lt hj);have hm:∀ B us,ι.g B=some us->(frW W).g B=some us:=λB us hg=>by
   obtain⟨⟨c,e,lo,hi,q1,q2,_⟩,_⟩:=hs.glob.2 B us hg;rw[<-q2];exact jaB ((hW.block B (Qao.1 q1).1).trans q1)
  have hva:VRs (frW W) [.agg (fmE f)] (#[.agg #[.int .i64 f.vars,.slice p f.cls.length C]]:Array Value).toList:=by
   unfold fmE qJ;rw[kj];refine⟨_,[],rfl,?_,rfl⟩;simp only[VR,VRs];refine⟨_,rfl,_,_,rfl,rfl,_,[],rfl,⟨p,C,rfl,hC,hcell,λh0=>?_⟩,rfl⟩;obtain⟨B,o,us,rfl,hg,hle,hus⟩:=hf h0;exact⟨B,o,us,rfl,hm B us hg,hle,VRs.gmono hm _ _ hus⟩
  have hX:XB δ GV 14 [.agg (fmE f)] st0 (λv _=>v=.bool true) λ_ _=>False:=by
   have e:=Xp jca f (Zw hr) st0 (λv _=>v=.bool true) λ_ _=>False;rw[e,hr]
  have h2:=CW.calls wX (gk vH) jb9 (K:=λv _=>v=.bool true) hX.cb (KJ hGW) hva;refine Calls.mono h2 λe w' ⟨v,x,st',he,hK,ι',_,hv,_,hg,_⟩=>?_;rw[hK] at hv;simp only[VR] at hv;rw[hv] at he;exact⟨he,hg.os,hg.tape,hg.output,hg.size,λk hk=>hg.keep k hk (λb S e=>by cases e)⟩
 refine(Tryd.write_walk f.vars f.cls p C w hsm.1 hsm.2.1 hsm.2.2.1 hls (λc hc=>⟨by have:=hlits c hc;have:=hsm.2.2.2.1;omega,λl hl=>by have:=WA hr c hc l hl;omega⟩) om hR htab).mono λe w' ⟨he,hbw⟩=>?_;refine⟨_,he,ι,Le.refl ι,?_,(JN hs hbw).1,(JN hs hbw).2,Cleanly.refl ι st⟩;simp only[VR,VRs];refine⟨_,rfl,_,_,rfl,⟨_,rfl,?_⟩,_,[],rfl,rfl,rfl⟩;exact Kv f
theorem jb8:zc δ wA.run:=by
 intro f args st ι w vs hs hv;simp only[show wA.run=yo from rfl];rcases wR f args st with h|⟨rfl,g,rfl,h1,h⟩|⟨rfl,s,rfl,h1,h⟩|⟨rfl,s,rfl,h1,h2,h⟩|⟨rfl,s,rfl,h1,h2,h⟩|⟨rfl,s,n,rfl,h1,h⟩
 ·rw[h];trivial
 ·rw[h];exact⟨ent Tryd.func11 (by kernel_rfl),HO g h1 hs hv⟩
 ·rw[h];exact⟨ent Tryd.func49 (by kernel_rfl),HP s h1 hs hv⟩
 ·rw[h];exact⟨ent Tryd.func54 (by kernel_rfl),jbk s h2 hs hv⟩
 ·rw[h];exact⟨ent Tryd.func51 (by kernel_rfl),gR s h1 h2 hs hv⟩
 ·rw[h];exact⟨ent Tryd.func55 (by kernel_rfl),jbl s n h1 hs hv⟩
theorem law_calls {f:FuncId}{xs:List AV}{vs:Array Value}{w:World}(h:XB δ wA f xs st0 (λv _=>v=.bool true) λ_ _=>False)(hg:GW w)(hv:VRs (frW w) xs vs.toList) :
  Calls δ f vs w λe w'=>e=.returned (.bool true)/\w'.os=w.os/\w'.tape=w.tape/\w'.output=w.output/\w.heap.size<=w'.heap.size/\∀ k,k<w.heap.size->w'.heap[k]? = w.heap[k]?:=by
 have h2:=CW.calls wX (gk vH) jb8 (K:=λv _=>v=.bool true) h.cb (KJ hg) hv;refine Calls.mono h2 λe w' ⟨v,x,st',he,hK,ι',_,hv,_,hg,_⟩=>?_;rw[hK] at hv;simp only[VR] at hv;rw[hv] at he;exact⟨he,hg.os,hg.tape,hg.output,hg.size,λk hk=>hg.keep k hk (λb S e=>by cases e)⟩
end Go.Sy
end
noncomputable section
set_option maxRecDepth 100000
namespace Go.Sy
open Go.Ev Go.RowKit Go.Proofs
variable {H:Type} {w:World}
abbrev I32:={n:Int // (Lit.int .i32 n).wf=true}
def vals (s:List I32):ClT:=s.map (·.1)
theorem gc:∀ xs:List I32,fl (U5 .i32) xs=(vals xs).map (AV.int .i32)
 |[]=>rfl
 |x :: r=>by
  have:=gc r;unfold vals at this ⊢;simp only[fl,QaJ,ξ,U5,List.singleton_append] at this ⊢;rw[this]
theorem rd_lits (N:Nat):Reads H δ w (N+1) 33 1 (λs:List I32=>[clV (vals s)]) (λs=>(s.map λ_=>1).sum+1):=by
 have h:Reads H δ w (N+1) 33 1 (λxs:List I32=>[.lst xs.length (fl (U5 .i32) xs)]) (λxs=>(xs.map λ_=>1).sum+1):=vf dc Tryd.underlying33 (by kernel_rfl) (HV (N:=N) Tryd.underlying21 (by kernel_rfl)) (λx=>ν _);have e:(λxs:List I32=>[AV.lst xs.length (fl (U5 .i32) xs)])=λs=>[clV (vals s)]:=funext λxs=>by rw[gc];unfold clV vals;rw[QaC]
 rw[e] at h;exact h
theorem ge:∀ xs:List (List I32),fl (λs:List I32=>[clV (vals s)]) xs=fl clE (xs.map vals)
 |[]=>rfl
 |x :: r=>by
  have:=ge r;simp only[fl,QaJ,ξ,clE,List.singleton_append] at this ⊢;rw[this]
theorem jdp (N:Nat):Reads H δ w (N+2) 22 1 (λxs:List (List I32)=>[qJ (xs.map vals)]) (λxs=>(xs.map λs=>(s.map λ_=>1).sum+1).sum+1):=by
 have h:Reads H δ w (N+2) 22 1 (λxs:List (List I32)=>[.lst xs.length (fl (λs:List I32=>[clV (vals s)]) xs)]) (λxs=>(xs.map λs=>(s.map λ_=>1).sum+1).sum+1):=vf dc Tryd.underlying22 (by kernel_rfl) (rd_lits N) (λx=>Nat.succ_pos _);have e:(λxs:List (List I32)=>[AV.lst xs.length (fl (λs:List I32=>[clV (vals s)]) xs)])=λxs=>[qJ (xs.map vals)]:=funext λxs=>by rw[ge];unfold qJ;rw[QaC]
 rw[e] at h;exact h
theorem rd_fm (N:Nat):Reads H δ w (N+3) 24 2 (λx:{n:Int // (Lit.int .i64 n).wf=true}×List (List I32)=>fmE ⟨x.1.1,x.2.map vals⟩) (λ_=>0):=
 ⟨by kernel_rfl,λx=>rfl,λenc base sp held fuel cs d ps hN h=>by
  obtain⟨xs,n,rfl,hx,hl,hlen,hf⟩:=DataW.trod_struct Tryd.underlying24 h;cases hx;rw[show Tryd.prog.cellsOf 24=2 by kernel_rfl] at hl;have ce3:Tryd.prog.cellsOf 3=1:=by kernel_rfl
  have ce22:Tryd.prog.cellsOf 22=1:=by kernel_rfl
  match xs,hlen with
  |[y0,y1],_=>
   have h0:DataW.trod enc δ w base sp held n 3 ((cs.drop 0).take (Tryd.prog.cellsOf 3))=some y0:=hf 0 _ rfl;rw[ce3] at h0;obtain⟨x0,v0,c0,s0⟩:=(HV (N:=n) Tryd.underlying3 ce3).2.2 enc base sp held n _ y0.1 y0.2 om h0;have h1:DataW.trod enc δ w base sp held n 22 ((cs.drop 1).take (Tryd.prog.cellsOf 22))=some y1:=hf 1 _ rfl;rw[ce22] at h1;obtain⟨x1,v1,c1,s1⟩:=(jdp (H:=H) (w:=w) n).2.2 enc base sp held n _ y1.1 y1.2 om h1;refine⟨(x0,x1),?_,?_,Qaa _⟩
   ·exact Kw (z:=1) v0 (Kw (z:=1) v1 (jdf (by rw[hl])))
   ·rfl⟩
theorem kn:∀ xs:List Bool,fl (λb:Bool=>[AV.bool b]) xs=xs.map AV.bool
 |[]=>rfl
 |x :: r=>by rw[YG,kn r];rfl
theorem rd_bools (N:Nat):Reads H δ w (N+1) 34 1 (λbs:List Bool=>[bsV bs]) (λs=>(s.map λ_=>1).sum+1):=by
 have h:Reads H δ w (N+1) 34 1 (λxs:List Bool=>[.lst xs.length (fl (λb:Bool=>[AV.bool b]) xs)]) (λxs=>(xs.map λ_=>1).sum+1):=vf dc Tryd.underlying34 (by kernel_rfl) (jdq (N:=N) Tryd.underlying4 (by kernel_rfl)) (λx=>ν _);have e:(λxs:List Bool=>[AV.lst xs.length (fl (λb:Bool=>[AV.bool b]) xs)])=λbs=>[bsV bs]:=funext λxs=>by rw[kn];rfl
 rw[e] at h;exact h
theorem jdg {ι:Inj}:∀ {cs:List AV} {v:Value},VRs ι cs v.cells.toList->2<=cs.length->VR ι (.agg cs) v
 |a :: b :: r,v,h,_=>by
  cases v;case agg c=>exact⟨c,rfl,h⟩
  all_goals
   exfalso;obtain⟨v1,l1,e1,_,v2,l2,e2,_⟩:=h;simp[Value.cells] at e1;rw[e2] at e1;simp at e1
 |[],v,h,h2=>by simp at h2
 |[a],v,h,h2=>by simp at h2
theorem arg_fm {w:World}{f:FmT}{v:Value}(h:VRs (frW w) (fmE f) v.cells.toList):VR (frW w) (.agg (fmE f)) v:=jdg h (by rw[je7];decide)
theorem arg_sl {w:World}{x:AV}{a:Option Addr}{len cap:Nat}(h:VRs (frW w) [x] (Value.slice a len cap).cells.toList):VR (frW w) x (.slice a len cap):=by
 obtain⟨v,l,e,h1,rfl⟩:=h;rw[show(Value.slice a len cap).cells.toList=[.slice a len cap] from rfl] at e;cases e;exact h1
theorem arg_str {w:World}(s:ByteArray):VR (frW w) (.str (nl s.data.toList)) (.string s):=⟨s,rfl,rfl⟩
theorem gw_mk {w : World} (h0 : Lib.TabIs δ w "internal/strconv.uint64pow10" .u64 Lib.pow10Tab) (h3 : ∃ m, w.cell? ⟨3, 0, none⟩ = some (.int .i64 m)) : GW w := by
 have g0 : Tryd.prog.globalNamed "internal/strconv.uint64pow10" = some 0 := by kernel_rfl
 obtain⟨m,h3⟩:=h3;refine⟨?_,?_⟩
 ·unfold Lib.TabIs World.var? at h0;simp only[g0,QaE] at h0;cases e:w.heap[0]? with
  |none=>simp[e] at h0
  |some o=>
   rw[e] at h0;cases o with
   |cells c t f=>
    simp at h0;exact⟨t,f,by rw[h0];rfl⟩
   |_=>simp at h0
 ·obtain⟨_,c,e,f,h1,h2⟩:=Wn h3;exact⟨c,e,f,m,h1,h2⟩
end Go.Sy
end
