import Derived.Test.YtndojkghlhllpaaGreatDoorSqSyD
import Derived.Test.YtndojkghlhllpaaGreatDoorProg
import Derived.KernelRfl
import Derived.Lib.ItoaNum
set_option linter.unusedVariables false
set_option linter.unusedSimpArgs false
set_option maxHeartbeats 8000000
open Go.Proofs.Tryz renaming prog -> γ
open Nat renaming reduceAdd -> δ, reduceSub -> ε, le_refl -> μ, le_trans -> ψ, zero_le -> Qaa, zero_add -> Qaj, not_lt_zero -> Qas, lt_or_ge -> Qat, lt_of_lt_of_le -> Qau, mul_le_mul_right -> Qav, mul_one -> QaG, add_mul -> QaI, sub_zero -> QaL, le_of_eq -> QaM, zero_mul -> QaP, succ_mul -> QaR, lt_irrefl -> Qbe, lt_succ_self -> Qbf, ne_of_lt -> Qbg, min_eq_left -> Qbn, mod_eq_of_lt -> QbA, one_mul -> QbD, add_comm -> QbE, sub_self -> QbU, le_of_lt -> QbV, beq -> Qcy, ble -> QcA, add -> QcB, mul -> QcC, sub -> QcD
open List renaming map_cons -> ζ, map_nil -> η, getD_cons_zero -> θ, getD_cons_succ -> κ, length_append -> ν, length_cons -> ξ, length_nil -> φ, getElem_mem -> ω, take_length -> Qab, getD -> Qac, length_map -> Qad, range -> Qae, getElem?_eq_getElem -> Qaf, cons_append -> Qag, all_eq_true -> Qai, getD_eq_getElem?_getD -> Qak, length_take -> Qal, nil_append -> Qam, cons -> Qan, mem_append -> Qar, mem_singleton -> Qaz, all_cons -> QaD, append_assoc -> QaE, mem_map -> QaF, take_zero -> QaH, mem_cons -> QaJ, append_nil -> QaO, map_congr_left -> QaS, map_append -> QaU, eq_nil_of_length_eq_zero -> QaX, flatMap_cons -> QaZ, foldl_append -> Qba, length_singleton -> Qbb, drop_zero -> Qbd, mem_iff_getElem -> Qbi, mem_range -> Qbj, ext_getElem -> Qbm, getElem?_eq_some_iff -> Qbp, getElem?_append_left -> Qbq, take_append_drop -> Qbr, length_eq_zero_iff -> Qbs, length_pos_iff -> Qbv, drop_length -> Qbw, length_set -> Qbx, foldl_cons -> QbC, nodup_append -> QbJ, length_range -> QbP, take_add_one -> QbQ, drop_eq_getElem_cons -> QbW, getElem_cons_drop -> QbY, range_succ -> Qce, getElem?_append_right -> Qcf, mem_append_left -> Qch, take_of_length_le -> Qcj, mem_flatMap -> Qck
open Int renaming toNat_natCast -> Qcl
open Bool renaming and_eq_true -> χ, eq_iff_iff -> QaA, or_eq_true -> QaC, not_eq_true' -> QaQ, true_and -> Qbu, or_eq_false_iff -> QbN, and_eq_false_iff -> Qcb, eq_false_iff -> Qcs
open Option renaming map_some -> Qax, map_none -> Qbc
noncomputable section
set_option maxRecDepth 100000
namespace Go.Sy
open Go.Ev Go.Proofs
variable {base:Bs}
section
variable {st:St} {K:AV->St->Prop}
theorem jic (k:IntKind)(a b:Int):jq (JC .add (.int k a) (.int k b) st) K=K (.int k (qQ k (a+b))) st:=by
 cases k<;>rfl
theorem jhQ (k:IntKind)(a b:Int):jq (JC .sub (.int k a) (.int k b) st) K=K (.int k (qQ k (a - b))) st:=by
 cases k<;>rfl
theorem jhZ (k:IntKind)(a b:Int):jq (JC .mul (.int k a) (.int k b) st) K=K (.int k (qQ k (a * b))) st:=by
 cases k<;>rfl
theorem jqT (k:IntKind)(a:Int):jq (unV .neg (.int k a) st) K=K (.int k (qQ k (-a))) st:=by
 have e:k.wrap (0 - a)=qQ k (-a):=by rw[<-JU,Int.zero_sub]
 simp only[unV,YC,O,e,jq]
theorem jia (k j:IntKind)(a:Int):jq (jss k (.int j a) st) K=K (.int k (qQ k a)) st:=by
 cases k<;>cases j<;>rfl
end
def ga (b:Bool):Int:=if b then 1 else 0
def jhm (op num a b:Int):Int:=
 if op=5 then qQ .i64 (-a) else if op=6 then qQ .i64 (1 - a) else if op=14 then qQ .i64 (a * b) else if op=15 then qQ .i64 (a+b) else if op=16 then qQ .i64 (a - b)
 else if op=17\/op=30 then ga (decide (a=b)) else if op=18 then ga (decide (a≠b)) else if op=19 then ga (decide (a<b)) else if op=20\/op=29 then ga (decide (a<=b))
 else if op=21 then ga (decide (b<a)) else if op=22 then ga (decide (b<=a)) else if op=27 then qQ .i64 (a * b) else if op=28 then max a b else num
mutual
def JF:Ex->Int
 |.mk op num _ ks _ _=>jhm op num ((QK ks).getD 0 0) ((QK ks).getD 1 0)
def QK:List Ex->Lu
 |[]=>[]
 |x :: xs=>JF x :: QK xs
end
mutual
def Qp:Ex->Bool
 |.mk _ _ _ ks _ _=>decide (ks.length<=2) && J7 ks
def J7:List Ex->Bool
 |[]=>true
 |x :: xs=>Qp x && J7 xs
end
theorem jjU (x:Ex):JF x=jhm x.op x.num ((QK x.kids).getD 0 0) ((QK x.kids).getD 1 0):=by cases x;rw[JF];rfl
theorem jac:∀ {xs:List Ex} {k:Nat} (h:k<xs.length),J7 xs=true->Qp xs[k]=true
 |x :: xs,0,_,h=>by rw[J7,χ] at h;exact h.1
 |x :: xs,k+1,hk,h=>by rw[J7,χ] at h;exact jac (xs:=xs) (k:=k) (by simpa using hk) h.2
theorem GG:∀ {xs:List Ex} {k:Nat} (h:k<xs.length),Jg xs=none->Qg xs[k]=none
 |x :: xs,0,_,h=>by
  rw[Jg] at h;cases hx:Qg x with
  |none=>exact hx
  |some y=>rw[hx] at h;cases h
 |x :: xs,k+1,hk,h=>by
  rw[Jg] at h;cases hx:Qg x with
  |none=>rw[hx] at h;exact GG (xs:=xs) (k:=k) (by simpa using hk) h
  |some y=>rw[hx] at h;cases h
def gf (ks:List Ex)(k:Nat):List AV:=[.int .i64 ((QK (ks.take k)).getD 0 0),.int .i64 ((QK (ks.take k)).getD 1 0)]
theorem jea (ks:List Ex)(k:Nat):(gf ks k).length=2:=nr rfl
theorem jpk {ks:List Ex}{k:Nat}(hk:k<ks.length)(h2:ks.length<=2):upd (gf ks k) k [.int .i64 (JF ks[k])]=gf ks (k+1):=by
 match ks,k with
 |[a],0=>rfl
 |[a,b],0=>rfl
 |[a,b],1=>rfl
 |[a],k+1=>simp at hk
 |[a,b],k+2=>exact absurd hk hac
 |a :: b :: c :: l,_=>simp at h2
theorem jtQ (hb:NB base)(q:Bool):Tot base 124 [.bool q] (.int .i64 (ga q)):=by
 refine hb.tot ?_ rfl rfl;refine jE juH haa (hb.pur 124 1 dc) ?_;simp only[jqh,jr,ζ,η,θ,κ];rw[(by unfold jkW;simp only[qq];rfl:jkW=_)];repeat' first|apply jb<;>intro _|simp(disch:=try exact dzG) only[r8,δ,ε]
 .rename_i h;subst h;exact G0.v rfl rfl
 .rename_i h;have h:q=false:=by simpa using h
  subst h;exact G0.v rfl rfl
theorem jho (hb:NB base):∀ x:Ex,Qp x=true->Qg x=none->Tot base 96 [.agg (eE x)] (.int .i64 (JF x)):=by
 refine Ex.indk λx ih ht hf=>?_;have ht':x.kids.length<=2/\J7 x.kids=true:=by cases x;rw[Qp,χ,decide_eq_true_eq] at ht;exact ht
 have hop:x.op≠4:=λh=>by rw[u4,if_pos h] at hf;cases hf
 rw[u4,if_neg hop] at hf;refine hb.tot ?_ (by first|rfl|simp[pa,pc,ya,Xu,Qh,JS,Yz,vf,wk,Ju,wj]) rfl;refine jE ju2 haa (hb.pur 96 1 dc) ?_;simp only[jqC,jr,ζ,η,θ,κ];rw[(by unfold jlh;simp only[qq];rfl:jlh=_)];repeat' first|apply jb<;>intro _|simp(disch:=try exact dzG) only[r8,δ,ε]
 refine jV x.kids.length (λk L s=>2<=s.nx/\Cl s 0 (eE x)/\Cl s 1 (gf x.kids k)/\Has L 1 (.ptr 0 0)/\Has L 3 (.ptr 1 0)/\Has L 8 (.lst x.kids.length (fl eE x.kids))) ?_ (λk L s hk hI hi hn=>?_) (λL s hI=>?_)
 .refine⟨by(first|omega|(simp only[jg,jn,jt,jp,jo];first|done|omega)),?_,Cl.new _ _,?_,?_,?_⟩
  .have n0:=Cl.new st0 (eE x);exact n0.nw _
  all_goals simp(disch:=decide) only[jm,ju]
 .obtain⟨h2,C0,C1,i1,i3,i8⟩:=hI;have E:=ih x.kids[k] (ω hk) (jac hk ht'.2) (GG hk hf);have ap:=jpk hk ht'.1;have hk2:k<2:=om
  (have zz:=aI @jea (aI C0.r C1.r);repeat' first|apply jb<;>intro _|simp(disch:=try exact jW) only[ja i1,ja i3,ja i8,ja hi,ja hn,E,jea,C0.q,C1.q,jea,C0.r,C1.r,r8,δ,ε])
  refine⟨⟨by(first|omega|(simp only[jg,jn,jt,jp,jo];first|done|omega)),ckX,Cl.cv (Cl.wr (?_:Cl _ 1 (gf x.kids k)) k _) ap,?_,?_,?_⟩,?_,?_⟩
  .exact ckX
  all_goals exact hsX
 .obtain⟨h2,C0,C1,i1,i3,i8⟩:=hI;have hc:=jjU x;have ea:gf x.kids x.kids.length=[.int .i64 ((QK x.kids).getD 0 0),.int .i64 ((QK x.kids).getD 1 0)]:=by unfold gf;rw[Qab]
  rw[ea] at C1;generalize (QK x.kids).getD 0 0=a at *;generalize (QK x.kids).getD 1 0=b at *;rw[hc];have B:=jtQ hb
  (have zz:=aI C0.r C1.r;repeat' first|apply jb<;>intro _|simp(disch:=try exact jW) only[ja i1,ja i3,ja i8,B,jqT,jhQ,jhZ,jic,C0.q,C1.q,C0.r,C1.r,r8,δ,ε])
  all_goals(refine G0.v (congrArg _ ?_) rfl;unfold jhm;simp_all)
def stW (n:Int)(v:VarT):Int:=qQ .u64 (n * qQ .u64 (qQ .u64 (qQ .u64 v.hi - qQ .u64 v.lo)+1))
def JP (vars:List VarT):Int:=qQ .i64 (vars.foldl stW 1)
theorem jcE (hb:NB base)(vars:List VarT)(hl:vars.length<=1000000)(n2 n3:Nat)(c2 c3:List AV):PL γ base 36 [.agg [.lst vars.length (fl vaE vars),.lst n2 c2,.lst n3 c3]] (.ok (.int .i64 (JP vars))):=by
 refine zL x33 haa (hb.pur 36 5 dc) rfl ?_;simp only[y33,jr,ζ,η,θ,κ];rw[(by unfold z33;simp only[qq];rfl:z33=_)];repeat' first|apply jb<;>intro _|simp(disch:=try exact dzG) only[r8,δ,ε]
 refine jV vars.length (λk L s=>1<=s.nx/\Has L 3 (.int .u64 ((vars.take k).foldl stW 1))/\Has L 7 (.lst vars.length (fl vaE vars))) ?_ (λk L s hk hI hi hn=>?_) (λL s hI=>?_)
 .refine⟨by(first|omega|(simp only[jg,jn,jt,jp,jo];first|done|omega)),?_,?_⟩<;>simp(disch:=decide) only[jm,ju,QaH,List.foldl_nil]
 .obtain⟨h1,i3,i7⟩:=hI;have tk:vars.take (k+1)=vars.take k ++ [vars[k]]:=yt hk;have A1:=λa b st K=>@jic st K .u64 a b;have A2:=λa b st K=>@jhQ st K .u64 a b;repeat' first|apply jb<;>intro _|simp(disch:=try exact dzG) only[ja i3,ja i7,ja hi,ja hn,jia,jhZ,A1,A2,r8,δ,ε]
  refine⟨⟨by(first|omega|(simp only[jg,jn,jt,jp,jo];first|done|omega)),?_,?_⟩,?_,?_⟩
  .rw[tk,Qba];exact⟨rfl,rfl⟩
  all_goals exact hsX
 .obtain⟨h1,i3,i7⟩:=hI;rw[Qab] at i3;repeat' first|apply jb<;>intro _|simp(disch:=try exact dzG) only[ja i3,jia,r8,δ,ε]
  exact G0.v rfl rfl
def Ji (vars:List VarT)(enums:List EnumT):VarT->List Ex->KR VarT
 |v,[]=>.ok v
 |v,x :: xs=>match yD vars enums false x v.kind v.enum with
  |.er a b c=>.er a b c
  |.ok y=>match Qg y with
   |some z=>.er 161 z.line z.col
   |none=>if JF y<v.lo\/v.hi<JF y then .er 164 x.line x.col else Ji vars enums { v with beg:=true,first:=JF y } xs
theorem gb {vars:List VarT}{enums:List EnumT}:∀ {xs ys:List Ex} {v:VarT},Ji vars enums v (xs ++ ys)=match Ji vars enums v xs with | .er a b c=>.er a b c | .ok u=>Ji vars enums u ys
 |[],ys,v=>rfl
 |x :: xs,ys,v=>by
  simp only[Qag,Ji];cases yD vars enums false x v.kind v.enum with
  |er a b c=>rfl
  |ok y=>
   dsimp only;cases Qg y with
   |some z=>rfl
   |none=>
    dsimp only;split
    .rfl
    .exact gb
def en0:EnumT:=⟨[],[],0,0⟩
def JJ (enums:List EnumT)(nm:Lt):Int:=fi (λx=>decide (x.name=nm)) enums
def wt (enums:List EnumT)(d:DeclT):KR VarT:=
 if d.ty=[98,111,111,108] then .ok ⟨d.name,2,[],0,1,false,0⟩
 else if 0<=JJ enums d.ty then .ok ⟨d.name,3,d.ty,0,((enums.getD (JJ enums d.ty).toNat en0).vals.length:Int) - 1,false,0⟩
 else if d.ty≠[] then .er 161 d.line d.col
 else if d.hi<d.lo then .er 164 d.line d.col
 else if 1024<=d.hi - d.lo then .er 165 d.line d.col
 else .ok ⟨d.name,1,[],d.lo,d.hi,false,0⟩
def Ux (m:ModT)(ts:Lq)(d:DeclT)(v:VarT):KR (ModT×Lq):=
 if 281474976710656<JP (m.vars ++ [v]) then .er 165 d.line d.col else .ok ({ m with vars:=m.vars ++ [v] },ts)
def wA (m:ModT)(ts:Lq)(d:DeclT)(v:VarT):KR (ModT×Lq):=match Ji m.vars m.enums v d.begins with
 |.er a b c=>.er a b c
 |.ok v=>Ux m ts d v
def Q7 (m:ModT)(ts:Lq)(d:DeclT):KR (ModT×Lq):=match XX ts d.name d.line d.col with
 |.er a b c=>.er a b c
 |.ok ts=>match wt m.enums d with
  |.er a b c=>.er a b c
  |.ok v=>wA m ts d v
section
variable {p mb lo hi:Nat} {m:ModT} {ts us:Lq} {v1 v2 v3:AV} {s t:St}
theorem MS.ck (S:MS p mb lo hi m ts v1 v2 v3 s):Ck p v1 v2 v3 (.map mb) m.vars m.enums false s:=by
 obtain⟨C,M,l1,l2,l3,d12,d13,d23,hp,hm,pm,h1,h2⟩:=S;refine⟨C,l1.lr,l2.lr,?_,?_⟩
 .intro b k z x e;rcases l1 with ⟨h,_⟩|⟨c,h,h2,_⟩
  .rw[h] at e;cases e
  .rw[h] at e;cases e;omega
 .intro b k z x e;rcases l2 with ⟨h,_⟩|⟨c,h,h2,_⟩
  .rw[h] at e;cases e
  .rw[h] at e;cases e;omega
theorem MS.var (S:MS p mb lo hi m ts v1 v2 v3 s)(e:VarT):MS p mb lo (s.nx+1) { m with vars:=m.vars ++ [e] } ts (apv 7 v1 s) v2 v3 (Go.Sy.wr (Go.Sy.aps v1 s (vaE e)) p 0 [apv 7 v1 s]):=by
 obtain⟨C,M,l1,l2,l3,d12,d13,d23,hp,hm,pm,h1,h2⟩:=S;have h4:=C.lt;have hn:(Go.Sy.wr (Go.Sy.aps v1 s (vaE e)) p 0 [apv 7 v1 s]).nx=s.nx+1:=by rw[jn,jp]
 refine⟨?_,?_,?_,?_,?_,(Df.put l2 h2).1,(Df.put l3 h2).1,d23,hp,hm,pm,om,by rw[hn];exact μ _⟩
 .exact(cast (l1.cl s (vaE e) _ p (.inl hp) h4).symm C:Cl (Go.Sy.aps v1 s (vaE e)) p _).wr 0 [apv 7 v1 s]
 .exact M.keep (by rw[hn];omega) (by rw[zN (λh=>pm h.symm)];exact l1.get s (vaE e) mb (.inl hm) M.lt)
 .rw[jA (.inl hp),ν,QH,Qf];exact l1.put (YA e) om rfl
 .rw[jA (.inl hp)];exact(l2.apsD d12).up om
 .rw[jA (.inl hp)];exact(l3.apsD d13).up om
end
def va0:List AV:=[.str [],.int .i64 0,.str [],.int .i64 0,.int .i64 0,.bool false,.int .i64 0]
def dQ (st:St)(K:AV->St->Prop):Out->Prop:=XQ γ y62.res λv s=>K v (back st s)
def dP (st:St)(Kp:AV->St->Prop):AV->Sl->St->Prop:=λv _ s=>Kp v (bk st s)
structure DS (p mb lo q:Nat)(m:ModT)(ts:Lq)(v1 v2 v3:AV)(d:DeclT)(v:VarT)(st:St)(L:Sl)(s:St):Prop where
 S:MS p mb lo q m ts v1 v2 v3 s
 k:Kq p mb lo st.bare s
 nx:q+2<=s.nx
 c3:Cl s q (qy d)
 c4:Cl s (q+1) (vaE v)
 i0:Has L 0 (.ptr p 0)
 i3:Has L 3 (.ptr q 0)
 i4:Has L 4 (.ptr (q+1) 0)
theorem jlE (hb:NB base)(vars:List VarT)(hl:vars.length<=1000000){st:St}{v1 v2 v3:AV}{n2 n3:Nat}{c2 c3:List AV}(h1:Lr st v1 vars.length (fl vaE vars))(h2:Lr st v2 n2 c2)(h3:Lr st v3 n3 c3)(p2:c2.all pc=true)(p3:c3.all pc=true)(K Kp:AV->St->Prop) :
  XB γ base 36 [.agg [v1,v2,v3]] st K Kp=K (.int .i64 (JP vars)) st:=by
 refine(jcE hb vars hl n2 n3 c2 c3).xb (qK (ji3 (jgV (h1.fz (d:=6) (za Yz vars)) (jgV (h2.fz (d:=6) p2) (jgV (h3.fz (d:=6) p3) jtJ)))) zO) (λst=>hb.no 36 dc _ _) K Kp
theorem jsp (hb:NB base){p mb lo q:Nat}{m:ModT}{ts:Lq}{v1 v2 v3:AV}{d:DeclT}{v:VarT}{st:St}{L:Sl}{s:St}(D:DS p mb lo q m ts v1 v2 v3 d v st L s)(hV:m.vars.length<=900000)(K Kp:AV->St->Prop)(hK:KM p mb lo st (Ux m ts d v) K Kp):xC γ base jf6 L s (dQ st K) (dP st Kp):=by
 obtain⟨S,k,nx,C3,C4,i0,i3,i4⟩:=D;obtain⟨C,M,l1,l2,l3,d12,d13,d23,hp,hm,pm,lo0,hi0⟩:=id S;have ve1:=l1.eqs;have Ap:=λst' bv xc xx K h hv=>@JK lo q m.vars.length 7 st' v1 (fl vaE m.vars) K 72 bv xc xx h dc om om hv;have hqp:q≠p:=om
 have hqp1:q+1≠p:=om
 have S3:=(S.nw (vaE v)).var v;have q2:=(((k.nw om (vaE v)).aps l1 (by(first|omega|(simp only[jg,jn,jt,jp,jo];first|done|omega))) (vaE v)).wr (.inl rfl) 0 [apv 7 v1 (nw s (vaE v))]).bk;have S33:=λK Kp=>jlE hb (m.vars ++ [v]) hae S3.l1.lr S3.l2.lr S3.l3.lr (za Qh _) (za wk _) K Kp;have S2:=(S3.up (by(first|omega|(simp only[jg,jn,jt,jp,jo];first|done|omega))) (μ _)).ofbk (u:=st);have gp:rat s.h p 0=v1:=C.cell 0 (by simp only[ξ,φ];omega);clear S3;simp only[Zh] at S33;unfold dQ dP y62;rw[(by unfold jf6;simp only[qq];rfl:jf6=_)];unfold Ux at hK;by_cases hs:281474976710656<JP (m.vars ++ [v])
 .rw[if_pos hs] at hK
  (have zz:=a8 @l1.ln @l1.rts @jA @jG @jK @l1 @jC (a4 @jJ @jN C3.r (aI C4.r C.r));repeat' first|apply jb<;>intro _|simp(disch:=try exact jW) only[ja i0,ja i3,ja i4,Ap,l1.at,S33,hs,Jh hb,jC,C3.q,C4.q,C.q,l1.ln,l1.rts,jA,jG,jK,l1,jC,jJ,jN,C3.r,C4.r,C.r,r8,δ,ε])
  exact hK _ q2
 .rw[if_neg hs] at hK
  (have zz:=a8 @l1.ln @l1.rts @jA @jG @jK @l1 @jC (a4 @jJ @jN C3.r (aI C4.r C.r));repeat' first|apply jb<;>intro _|simp(disch:=try exact jW) only[ja i0,ja i3,ja i4,Ap,l1.at,S33,hs,jC,C3.q,C4.q,C.q,l1.ln,l1.rts,jA,jG,jK,l1,jC,jJ,jN,C3.r,C4.r,C.r,r8,δ,ε])
  exact hK _ q2 ⟨_,_,_,S2⟩
mutual
theorem Gt {vars:List VarT}{enums:List EnumT}:∀ (fm:Bool) (x y:Ex) (m:MtT),Qp x=true->ye vars enums fm x=.ok (y,m)->Qp y=true
 |fm,.mk op num name ks l c,y,m,ht,h=>by
  rw[ye] at h;split at h
  .cases h;exact ht
  .split at h
   .cases h;exact ht
   .split at h
    .unfold zi at h;split at h
     .cases h;rfl
     .split at h
      .cases h
      .cases h;rfl
    .split at h
     .cases h
     .rename_i r hr;rw[Qp,χ,decide_eq_true_eq] at ht;have h2:=Ks _ _ r.1 r.2 ht.2 hr;have h3:r.1.length=ks.length:=(Jn hr).1;unfold Ym at h;have e:∀ o n nm l c,Qp (.mk o n nm r.1 l c)=true:=λo n nm l c=>by rw[Qp,χ,decide_eq_true_eq];exact⟨om,h2⟩
      split at h
      .cases h
      .split at h
       .cases h;exact e _ _ _ _ _
       .split at h
        .cases h
        .cases h;exact e _ _ _ _ _
theorem Ks {vars:List VarT}{enums:List EnumT}:∀ (fm:Bool) (xs ys:List Ex) (ms:List MtT),J7 xs=true->qf vars enums fm xs=.ok (ys,ms)->J7 ys=true
 |fm,[],ys,ms,_,h=>by rw[qf] at h;cases h;rfl
 |fm,x :: xs,ys,ms,ht,h=>by
  rw[J7,χ] at ht;rw[qf] at h;cases hx:ye vars enums fm x with
  |er a b d=>rw[hx] at h;cases h
  |ok y=>
   rw[hx] at h;cases hr:qf vars enums fm xs with
   |er a b d=>rw[hr] at h;cases h
   |ok r=>
    rw[hr] at h;cases h;rw[J7,χ];exact⟨Gt fm x y.1 y.2 ht.1 hx,Ks fm xs r.1 r.2 ht.2 hr⟩
end
theorem jep {vars:List VarT}{enums:List EnumT}{fm:Bool}{x y:Ex}{w:Int}{en:Lt}(ht:Qp x=true)(h:yD vars enums fm x w en=.ok y):Qp y=true:=by
 unfold yD at h;split at h
 .cases h
 .rename_i r hr;split at h
  .cases h
  .cases h;exact Gt fm x r.1 r.2 ht hr
mutual
theorem Y5:∀ x:Ex,Qp x=true->w5 x=true
 |.mk op num name ks l c,h=>by
  rw[Qp,χ,decide_eq_true_eq] at h;rw[w5,χ,decide_eq_true_eq];exact⟨om,gD ks h.2⟩
theorem gD:∀ xs:List Ex,J7 xs=true->Zg xs=true
 |[],_=>rfl
 |x :: xs,h=>by
  rw[J7,χ] at h;rw[Zg,χ];exact⟨Y5 x h.1,gD xs h.2⟩
end
def OkE (x:Ex):Prop:=Qp x=true/\wh x=true
section
variable {p mb lo q:Nat} {m:ModT} {ts:Lq} {v1 v2 v3:AV} {d:DeclT} {v:VarT} {st:St} {L:Sl} {s:St}
theorem DS.push (D:DS p mb lo q m ts v1 v2 v3 d v st L s){c:Nat}{w:AV}(h:c≠0/\c≠3/\c≠4):DS p mb lo q m ts v1 v2 v3 d v st ((c,w) :: L) s:=by
 obtain⟨S,k,nx,c3,c4,i0,i3,i4⟩:=D;exact⟨S,k,nx,c3,c4,by rw[jm h.1];exact i0,by rw[jm h.2.1];exact i3,by rw[jm h.2.2];exact i4⟩
end
theorem jsq (hb:NB base){p mb lo q:Nat}{m:ModT}{ts:Lq}{v1 v2 v3:AV}{d:DeclT}{v:VarT}{st:St}{L:Sl}{s:St}(D:DS p mb lo q m ts v1 v2 v3 d v st L s)(V:VarsOK m.vars m.enums)(hV:m.vars.length<=900000)(hx:∀ x∈d.begins,OkE x)(hbl:d.begins.length<=1000000)(K Kp:AV->St->Prop)(hK:KM p mb lo st (wA m ts d v) K Kp):xC γ base jcc L s (dQ st K) (dP st Kp):=by
 have i0:=D.i0;have i3:=D.i3;have i4:=D.i4;have C3:=D.c3;have C4:=D.c4;rw[(by unfold jcc;simp only[qq];rfl:jcc=_)]
 (have zz:=aI C3.r C4.r;repeat' first|apply jb<;>intro _|simp(disch:=try exact jW) only[ja i0,ja i3,ja i4,C3.q,C4.q,C3.r,C4.r,r8,δ,ε])
 refine jV d.begins.length (λk L s=>(∃ u,Ji m.vars m.enums v (d.begins.take k)=.ok u/\DS p mb lo q m ts v1 v2 v3 d u st L s)/\Has L 93 (.lst d.begins.length (fl eE d.begins))) ?_ (λk L s hk hI hi hn=>?_) (λL s hI=>?_) (hc:=(λk L s v h=>(by obtain⟨⟨u,h1,h2⟩,h3⟩:=h;refine⟨⟨u,h1,h2.push dc⟩,?_⟩;simp(disch:=decide) only[jm];assumption))) (hI:=(λk L s v h=>(by obtain⟨⟨u,h1,h2⟩,h3⟩:=h;refine⟨⟨u,h1,h2.push dc⟩,?_⟩;simp(disch:=decide) only[jm];assumption)))
 .refine⟨⟨v,by rw[QaH,Ji],((D.push dc).push dc).push dc⟩,?_⟩;simp(disch:=decide) only[jm,ju]
 .obtain⟨⟨u,h1,D⟩,i93⟩:=hI;obtain⟨S,k0,nx,C3,C4,i0,i3,i4⟩:=D;have tk:d.begins.take (k+1)=d.begins.take k ++ [d.begins[k]]:=yt hk;obtain⟨x1,x2⟩:=hx _ (ω hk);have hqm:q≠p/\q+1≠p:=by have:=S.hp;have:=S.lo;omega
  have hqn:=S.hi;have hlq:=S.lo;have z6l:(eE d.begins[k]).length=([.int .i64 0,.int .i64 0,.str [],.nils,.int .i64 0,.int .i64 0]:List AV).length:=by rw[zR];rfl
  have S1:=(S.nw [.int .i64 0,.int .i64 0,.str [],.nils,.int .i64 0,.int .i64 0]).wr hqn 0 (eE d.begins[k]);have k1:=(k0.nw om [.int .i64 0,.int .i64 0,.str [],.nils,.int .i64 0,.int .i64 0]).wr (c:=s.nx) (.inr om) 0 (eE d.begins[k]);have C7:=(Cl.new s [.int .i64 0,.int .i64 0,.str [],.nils,.int .i64 0,.int .i64 0]).wr0 z6l;have D3:Cl (wr (nw s [.int .i64 0,.int .i64 0,.str [],.nils,.int .i64 0,.int .i64 0]) s.nx 0 (eE d.begins[k])) q (qy d):=ckX
  have D4:Cl (wr (nw s [.int .i64 0,.int .i64 0,.str [],.nils,.int .i64 0,.int .i64 0]) s.nx 0 (eE d.begins[k])) (q+1) (vaE u):=ckX
  (have zz:=aI C3.r C4.r;repeat' first|apply jb<;>intro _|simp(disch:=try exact jW) only[ja i0,ja i3,ja i4,ja i93,ja hi,ja hn,C3.q,C4.q,C3.r,C4.r,r8,δ,ε])
  have hn1:(wr (nw s [.int .i64 0,.int .i64 0,.str [],.nils,.int .i64 0,.int .i64 0]) s.nx 0 (eE d.begins[k])).nx=s.nx+1:=rfl;generalize wr (nw s [.int .i64 0,.int .i64 0,.str [],.nils,.int .i64 0,.int .i64 0]) s.nx 0 (eE d.begins[k])=t1 at *;refine kG hb V _ x2 (Y5 _ x1) u.kind u.enum S1.ck _ _ ?_;have e3:d.begins=d.begins.take k ++ (d.begins[k] :: d.begins.drop (k+1)):=by rw[QbY,Qbr]
  have bk1:Ji m.vars m.enums v d.begins=Ji m.vars m.enums u (d.begins[k] :: d.begins.drop (k+1)):=by
   have e:=congrArg (Ji m.vars m.enums v) e3;rw[gb,h1] at e;exact e
  have bk2:Ji m.vars m.enums v (d.begins.take (k+1))=Ji m.vars m.enums u [d.begins[k]]:=by
   rw[tk,gb,h1]
  unfold wA at hK;rw[bk1,Ji] at hK;rw[Ji] at bk2;cases hr:yD m.vars m.enums false d.begins[k] u.kind u.enum with
  |er a b c=>
   rw[hr] at hK;intro s' k2;exact hK _ (k1.keep k2 om).bk
  |ok y=>
   have y1:=jep x1 hr;have y2:=Y5 _ y1;rw[hr] at hK bk2;dsimp only at hK bk2;intro s' k2 C2;have hs':=k2.nx;have k3:=k1.keep k2 om;have S3:=S1.keep k2 C2;have E3:=k2.cl D3 hqm.1;have E4:=k2.cl D4 hqm.2;have E7:=k2.cl C7 (by have:=S.cp.lt;omega);have F:=jo3 hb y y2;clear S1 k1 k2 C2 C7 D3 D4 C3 C4 S k0;cases hf:Qg y with
   |some z=>
    rw[show JE y=(z,true) by unfold JE;rw[hf]] at F;rw[hf] at hK
    (have zz:=aI E3.r (aI E4.r E7.r);repeat' first|apply jb<;>intro _|simp(disch:=try exact jW) only[ja i0,ja i3,ja i4,F,Jh hb,E3.q,E4.q,E7.q,E3.r,E4.r,E7.r,r8,δ,ε])
    exact hK _ (((((k3.nw om _).wr (c:=s'.nx) (.inr om) 0 _).nw (by(first|omega|(simp only[jg,jn,jt,jp,jo];first|done|omega))) _).wr (.inr (by(first|omega|(simp only[jg,jn,jt,jp,jo];first|done|omega)))) 0 _)).bk
   |none=>
    rw[show JE y=(y,false) by unfold JE;rw[hf]] at F;rw[hf] at hK bk2;dsimp only at hK bk2;have G:=jho hb y y1 hf;by_cases hc:JF y<u.lo\/u.hi<JF y
    .rw[if_pos hc] at hK
     (have zz:=aI E3.r (aI E4.r E7.r);repeat' first|apply jb<;>intro _|simp(disch:=try exact jW) only[ja i0,ja i3,ja i4,F,G,Jh hb,E3.q,E4.q,E7.q,E3.r,E4.r,E7.r,r8,δ,ε])
     all_goals exact hK _ ((((((k3.nw om _).wr (c:=s'.nx) (.inr om) 0 _).nw (by(first|omega|(simp only[jg,jn,jt,jp,jo];first|done|omega))) _).wr (.inr (by(first|omega|(simp only[jg,jn,jt,jp,jo];first|done|omega)))) 0 _).wr (c:=q+1) (.inr om) 5 _).wr (c:=q+1) (.inr om) 6 _).bk
    .rw[if_neg hc] at bk2;have hc1:¬ JF y<u.lo:=λh=>hc (.inl h);have hc2:¬ u.hi<JF y:=λh=>hc (.inr h)
     (have zz:=aI E3.r (aI E4.r E7.r);repeat' first|apply jb<;>intro _|simp(disch:=try exact jW) only[ja i0,ja i3,ja i4,ja hi,F,G,hc1,hc2,E3.q,E4.q,E7.q,E3.r,E4.r,E7.r,r8,δ,ε])
     have S5:=((((((S3.nw [.int .i64 0,.int .i64 0,.str [],.nils,.int .i64 0,.int .i64 0]).wr (c:=s'.nx) om 0 (eE y)).nw [.int .i64 0,.int .i64 0,.str [],.nils,.int .i64 0,.int .i64 0]).wr (c:=s'.nx+1) om 0 (eE y)).wr (c:=q+1) om 5 [.bool true]).wr (c:=q+1) om 6 [.int .i64 (JF y)]);have k5:=((((((k3.nw om [.int .i64 0,.int .i64 0,.str [],.nils,.int .i64 0,.int .i64 0]).wr (c:=s'.nx) (.inr om) 0 (eE y)).nw (by(first|omega|(simp only[jg,jn,jt,jp,jo];first|done|omega))) [.int .i64 0,.int .i64 0,.str [],.nils,.int .i64 0,.int .i64 0]).wr (c:=s'.nx+1) (.inr om) 0 (eE y)).wr (c:=q+1) (.inr om) 5 [.bool true]).wr (c:=q+1) (.inr om) 6 [.int .i64 (JF y)]);refine⟨⟨⟨{ u with beg:=true,first:=JF y },?_,S5,k5,by(first|omega|(simp only[jg,jn,jt,jp,jo];first|done|omega)),?_,Cl.wr (Cl.wr (?_:Cl _ (q+1) (vaE u)) 5 [.bool true]) 6 [.int .i64 (JF y)],?_,?_,?_⟩,?_⟩,?_,?_⟩
     .rw[bk2];rfl
     .exact ckX
     .exact ckX
     all_goals exact hsX
 .obtain⟨⟨u,h1,D⟩,i93⟩:=hI;rw[Qab] at h1;unfold wA at hK;rw[h1] at hK;repeat' first|apply jb<;>intro _|simp(disch:=try exact dzG) only[r8,δ,ε]
  exact jsp hb D hV K Kp hK
theorem jg2 (hb:NB base)(enums:List EnumT)(hl:enums.length<=1000000)(d:DeclT){v2:AV}(st:St){q:Nat}(h:Lr st v2 enums.length (fl enE enums))(C:Cl st q (qy d))(K Kp:AV->St->Prop) :
  XB γ base 92 [v2,.fn 93 [.ptr q 0]] st K Kp=K (.int .i64 (JJ enums d.ty)) st:=by
 refine(jg1 hb enums (by unfold BIG;omega) d).xb (qK (h.lend (za Qh enums)) (qK ?_ zO)) (λst=>hb.no 92 dc _ _) K Kp;show(QD st.h [.ptr q 0]).map (AV.fn 93)=_;have:wo st.h (.ptr q 0)=some (.lptr (qy d) 0):=uj C (QG (VM 8 rfl) rfl (QG (VM 8 rfl) rfl (QG (VM 8 rfl) rfl (QG (VM 8 rfl) rfl (QG (VM 8 rfl) rfl (QG (VM 8 rfl) rfl (QG (VM 8 rfl) rfl HJ)))))));simp only[QD,this];rfl
theorem jso (hb:NB base){p mb lo:Nat}{m:ModT}{ts:Lq}{st:St}(d:DeclT)(V:VarsOK m.vars m.enums)(hV:m.vars.length<=900000)(hx:∀ x∈d.begins,OkE x)(hbl:d.begins.length<=1000000)(hlo : -100000000<=d.lo/\d.lo<=100000000)(hhi : -100000000<=d.hi/\d.hi<=100000000)(H:MX p mb lo m ts st)(K Kp:AV->St->Prop)(hK:KM p mb lo st (Q7 m ts d) K Kp):XB γ base 69 [.ptr p 0,.agg (qy d)] st K Kp:=by
 obtain⟨v1,v2,v3,S⟩:=H;obtain⟨C,M,l1,l2,l3,d12,d13,d23,hp,hm,pm,lo0,hi0⟩:=id S;refine zP x62 haa (hb.at0 69 dc dc _ _) ?_;simp only[y62,jr,ζ,η,θ,κ];rw[(by unfold z62;simp only[qq];rfl:z62=_)];have hnx:st.bare.nx=st.nx:=rfl;have S0:=S.bare.nw (qy d);have q1:=(Kq.refl:Kq p mb lo st.bare st.bare).nw (ψ lo0 hi0) (qy d);have Cb:Cl (nw st.bare (qy d)) st.nx (qy d):=Cl.new st.bare (qy d);unfold Q7 XX at hK;repeat' first|apply jb<;>intro _|simp(disch:=try exact dzG) only[r8,δ,ε]
 refine gG hb S0.cp S0.mp _ _ _ _ _ ?_;by_cases h:d.name∈ts
 .rw[if_pos h] at hK ⊢;exact hK _ q1.bk
 .rw[if_neg h] at hK ⊢
  replace S0:=S0.take (ts ++ [d.name])
  replace q1:=q1.mp (mpl (ts ++ [d.name]))
  have Cb:Cl (Go.Sy.mp (nw st.bare (qy d)) mb (mpl (ts ++ [d.name]))) st.nx (qy d):=by rw[V4 om];exact Cb
  have hn1:(Go.Sy.mp (nw st.bare (qy d)) mb (mpl (ts ++ [d.name]))).nx=st.nx+1:=rfl;generalize Go.Sy.mp (nw st.bare (qy d)) mb (mpl (ts ++ [d.name]))=s1 at *;dsimp only at hK;have Cv:=(Cl.new s1 va0).wr0 (c':=vaE ⟨d.name,1,[],d.lo,d.hi,false,0⟩) rfl;have S1:=(S0.nw va0).wr (c:=s1.nx) om 0 (vaE ⟨d.name,1,[],d.lo,d.hi,false,0⟩);have q2:=(q1.nw om va0).wr (c:=s1.nx) (.inr om) 0 (vaE ⟨d.name,1,[],d.lo,d.hi,false,0⟩);have Cd:Cl (wr (nw s1 va0) s1.nx 0 (vaE ⟨d.name,1,[],d.lo,d.hi,false,0⟩)) st.nx (qy d):=ckX
  have FE:=λK Kp=>jg2 hb m.enums V.len2 d _ S1.l2.lr Cd K Kp;have C0:=S0.cp;have C1:=S1.cp;have hmp:st.nx≠p/\st.nx+1≠p:=om
  simp only[Zh,hn1] at FE;simp only[hn1] at S1 q2 Cv Cd C1;unfold va0 at *;have mk:∀ (v:VarT) (L:Sl) (s:St),MS p mb lo st.nx m (ts ++ [d.name]) v1 v2 v3 s->Kq p mb lo st.bare s->st.nx+2<=s.nx->Cl s st.nx (qy d)->Cl s (st.nx+1) (vaE v)->Has L 0 (.ptr p 0)->Has L 3 (.ptr st.nx 0)->Has L 4 (.ptr (st.nx+1) 0)->KM p mb lo st (wA m (ts ++ [d.name]) d v) K Kp->xC γ base jcc L s (dQ st K) (dP st Kp):=λv L s a1 a2 a3 a4 a5 a6 a7 a8 hK=>jsq hb ⟨a1,a2,a3,a4,a5,a6,a7,a8⟩ V hV hx hbl K Kp hK;unfold wt at hK;by_cases h1:d.ty=[98,111,111,108]
  .rw[if_pos h1] at hK;have S2:=(((S1.wr (c:=st.nx+1) om 1 [.int .i64 2]).wr (c:=st.nx+1) om 3 [.int .i64 0]).wr (c:=st.nx+1) om 4 [.int .i64 1]);have q3:=(((q2.wr (c:=st.nx+1) (.inr om) 1 [.int .i64 2]).wr (c:=st.nx+1) (.inr om) 3 [.int .i64 0]).wr (c:=st.nx+1) (.inr om) 4 [.int .i64 1])
   (have zz:=aI @hn1 (aI @Cb.r C0.r);repeat' first|apply jb<;>intro _|simp(disch:=try exact jW) only[FE,h1,hn1,Cb.q,C0.q,hn1,Cb.r,C0.r,r8,δ,ε])
   refine mk ⟨d.name,2,[],0,1,false,0⟩ _ _ S2 q3 (by(first|omega|(simp only[jg,jn,jt,jp,jo];first|done|omega))) (ckX) ?_ ?_ ?_ ?_ hK
   .exact((Cv.wr 1 [.int .i64 2]).wr 3 [.int .i64 0]).wr 4 [.int .i64 1]
   all_goals simp(disch:=decide) only[jm,ju]
  rw[if_neg h1] at hK;by_cases h2:0<=JJ m.enums d.ty
  .rw[if_pos h2] at hK;have hlt:JJ m.enums d.ty<(m.enums.length:Int):=ZA;have hi2:(JJ m.enums d.ty).toNat<m.enums.length:=om
   have eg:m.enums.getD (JJ m.enums d.ty).toNat en0=m.enums[(JJ m.enums d.ty).toNat]:=by simp[Qac,hi2]
   rw[eg] at hK;have Lw:=S0.l2;rcases id Lw with ⟨_,e0,_⟩|⟨b,rfl,b1,b2,Ce,b5,b6⟩
   .omega
   have gl:qp s1.h b=m.enums.length * 4:=by rw[Ce.len,zH Q6]
   have ge:rat s1.h b ((JJ m.enums d.ty).toNat * 4+1)=.lst m.enums[(JJ m.enums d.ty).toNat].vals.length (m.enums[(JJ m.enums d.ty).toNat].vals.map .str):=by
    rw[Ce.cell _ (by rw[zH Q6];omega),ur Q6 hi2 dc];rfl
   have hbp:b≠p/\b≠st.nx/\b≠st.nx+1/\b<s1.nx:=om
   have gp:rat s1.h p 1=.slice b 0 m.enums.length m.enums.length 4 false:=C0.cell 1 (by simp only[ξ,φ];omega);have gd:rat s1.h st.nx 1=.str d.ty:=(Cb.cell 1 (by rw[Yh];decide)).trans (by rw[jo8];rfl);have hvl:=V.vals _ (ω hi2)
   (have zz:=a4 @hn1 @gl @ge (aI @Cb.r C0.r);repeat' first|apply jb<;>intro _|simp(disch:=try exact jW) only[FE,h1,h2,hn1,ge,sm9,Hn,Hm,Cb.q,C0.q,hn1,gl,ge,Cb.r,C0.r,r8,δ,ε])
   refine⟨?_,?_,?_,?_⟩;rotate_right
   .have S2:=((((S1.wr (c:=st.nx+1) om 1 [.int .i64 3]).wr (c:=st.nx+1) om 2 [.str d.ty]).wr (c:=st.nx+1) om 3 [.int .i64 0]).wr (c:=st.nx+1) om 4 [.int .i64 ((m.enums[(JJ m.enums d.ty).toNat].vals.length:Int) - 1)]);have q3:=((((q2.wr (c:=st.nx+1) (.inr om) 1 [.int .i64 3]).wr (c:=st.nx+1) (.inr om) 2 [.str d.ty]).wr (c:=st.nx+1) (.inr om) 3 [.int .i64 0]).wr (c:=st.nx+1) (.inr om) 4 [.int .i64 ((m.enums[(JJ m.enums d.ty).toNat].vals.length:Int) - 1)]);refine mk ⟨d.name,3,d.ty,0,(m.enums[(JJ m.enums d.ty).toNat].vals.length:Int) - 1,false,0⟩ _ _ S2 q3 (by(first|omega|(simp only[jg,jn,jt,jp,jo];first|done|omega))) (ckX) ?_ ?_ ?_ ?_ hK
    .exact(((Cv.wr 1 [.int .i64 3]).wr 2 [.str d.ty]).wr 3 [.int .i64 0]).wr 4 [.int .i64 ((m.enums[(JJ m.enums d.ty).toNat].vals.length:Int) - 1)]
    all_goals simp(disch:=decide) only[jm,ju]
   all_goals
    repeat' apply aI
    all_goals first
     |exact(Hm (by simp(disch:=omega) only[XG,Ya,gl];omega) (by simp(disch:=omega) only[wL,uF,ge]) rfl).mpr trivial
     |exact(Hn (by simp(disch:=omega) only[XG,Ya,C0.len,ξ,φ];omega) (by simp(disch:=omega) only[wL,uF,gp]) rfl).mpr trivial
     |exact(sm9 (by simp(disch:=omega) only[XG,Ya,Cb.len,Yh];omega) (by simp(disch:=omega) only[wL,uF,gd]) rfl).mpr trivial
  rw[if_neg h2] at hK;by_cases h3:d.ty≠[]
  .rw[if_pos h3] at hK
   (have zz:=aI @hn1 (aI @Cb.r C0.r);repeat' first|apply jb<;>intro _|simp(disch:=try exact jW) only[FE,h1,h2,h3,hn1,Jh hb,Cb.q,C0.q,hn1,Cb.r,C0.r,r8,δ,ε])
   exact hK _ q2.bk
  rw[if_neg h3] at hK;have h3:(d.ty=[])=True:=eq_true (by simpa using h3);by_cases h4:d.hi<d.lo
  .rw[if_pos h4] at hK
   (have zz:=aI @hn1 (aI @Cb.r C0.r);repeat' first|apply jb<;>intro _|simp(disch:=try exact jW) only[FE,h1,h2,h3,h4,hn1,Jh hb,Cb.q,C0.q,hn1,Cb.r,C0.r,r8,δ,ε])
   exact hK _ q2.bk
  rw[if_neg h4] at hK;by_cases h5:1024<=d.hi - d.lo
  .rw[if_pos h5] at hK
   (have zz:=aI @hn1 (aI @Cb.r C0.r);repeat' first|apply jb<;>intro _|simp(disch:=try exact jW) only[FE,h1,h2,h3,h4,h5,hn1,Jh hb,Cb.q,C0.q,hn1,Cb.r,C0.r,r8,δ,ε])
   exact hK _ q2.bk
  rw[if_neg h5] at hK
  (have zz:=aI @hn1 (aI @Cb.r C0.r);repeat' first|apply jb<;>intro _|simp(disch:=try exact jW) only[FE,h1,h2,h3,h4,h5,hn1,Cb.q,C0.q,hn1,Cb.r,C0.r,r8,δ,ε])
  refine mk _ _ _ S1 q2 (by(first|omega|(simp only[jg,jn,jt,jp,jo];first|done|omega))) (ckX) Cv ?_ ?_ ?_ hK;all_goals simp(disch:=decide) only[jm,ju]
theorem UL {s:St}:∀ {cs:List AV},cs.all pc=true->lall AV.cell cs=true->YO (fz 9 s.h) cs=cs
 |[],_,_=>HJ
 |v :: l,hp,hc=>by
  rw[QaD,χ] at hp;have h1:v.cell=true/\lall AV.cell l=true:=by
   have:cond v.cell (lall AV.cell l) false=true:=hc;cases h:v.cell with
   |true=>rw[h] at this;exact⟨rfl,this⟩
   |false=>rw[h] at this;cases this
  exact QG (VM 8 hp.1) h1.1 (UL hp.2 h1.2)
theorem js5 {α:Type}{enc:α->List AV}{z:Nat}(hz:∀ x,(enc x).length=z){xs:List α}{k:IntKind}{i:Nat}(hi:i<=xs.length){st:St}{K:AV->St->Prop}:jq (Wp z (.lst xs.length (fl enc xs)) none (some (.int k (i:Int))) st) K=K (.lst i (fl enc (xs.take i))) st:=by
 have e1:QcA (QcC i z) (jQ (fl enc xs))=true:=by
  rw[jM,zH hz];exact qw (Qav z hi)
 simp only[Wp,optA,Hw,qw hi,qw (Qaa i),e1,cond_true,jq,qN,yR];have e2:(fl enc xs).drop (QcC 0 z)=fl enc xs:=by rw[show QcC 0 z=0 from QaP z];rfl
 have e3:QcC (QcD i 0) z=i * z:=rfl;rw[e2,e3,jfx hz];rfl
theorem jo2 (hb:NB base)(xs:List AsT)(hl:xs.length<=1000000)(a:AsT)(st:St){q:Nat}(C:Cl st q (asE a))(n:Nat)(hn:n=xs.length)(K Kp:AV->St->Prop) :
  XB γ base 98 [.lst n (fl asE xs),.fn 99 [.ptr q 0]] st K Kp=K (.bool (decide (0<=fi (λx=>decide (x.name=a.name)) xs))) st:=by
 subst hn;refine(jo1 hb xs (by unfold BIG;omega) a).xb (JZ rfl (qK ?_ zO)) (λst=>hb.no 98 dc _ _) K Kp;show(QD st.h [.ptr q 0]).map (AV.fn 99)=_;have:wo st.h (.ptr q 0)=some (.lptr (asE a) 0):=uj C (UL (Xu a) (GZ a));simp only[QD,this];rfl
theorem jgk (hb:NB base){p:Nat}{v1 v2 v3 mm:AV}{vars:List VarT}{enums:List EnumT}{fm:Bool}{st:St}(C:Ck p v1 v2 v3 mm vars enums fm st)(hl:vars.length<=1000000)(s:Lt)(K Kp:AV->St->Prop) :
  XB γ base 97 [.ptr p 0,.str s] st K Kp=K (.int .i64 (qc vars s)) st:=by
 obtain⟨r,hr⟩:=C.lend;exact(gv hb vars (by unfold BIG;omega) s _).xb (qK hr (JZ rfl zO)) (λst=>hb.no 97 dc _ _) K Kp
def mvc:List MoveT->List AV->List AV
 |m :: ms,u :: us=>(eE m.when ++ [u]) ++ mvc ms us
 |_,_=>[]
theorem jfg:∀ {ms:List MoveT} {us:List AV} {m:MoveT} {u:AV},us.length=ms.length->mvc (ms ++ [m]) (us ++ [u])=mvc ms us ++ (eE m.when ++ [u])
 |[],[],m,u,_=>by simp[mvc]
 |m' :: ms,u' :: us,m,u,h=>by
  show(eE m'.when ++ [u']) ++ mvc (ms ++ [m]) (us ++ [u])=((eE m'.when ++ [u']) ++ mvc ms us) ++ (eE m.when ++ [u]);rw[jfg (by simpa using h)];simp only[QaE]
 |[],u' :: us,m,u,h=>by simp at h
 |m' :: ms,[],m,u,h=>by simp at h
def UU (lo hi:Nat)(s:St)(v3:AV):List MoveT->List AV->Prop
 |[],[]=>True
 |m :: ms,u :: us=>(Lv lo hi s u m.acts.length (fl seE m.acts) 7/\Df v3 u)/\UU lo hi s v3 ms us
 |_,_=>False
theorem UU.imp {lo hi lo' hi':Nat}{s s':St}{v3 v3':AV}(f:∀ u n cs,Lv lo hi s u n cs 7/\Df v3 u->Lv lo' hi' s' u n cs 7/\Df v3' u):∀ {ms:List MoveT} {us:List AV},UU lo hi s v3 ms us->UU lo' hi' s' v3' ms us
 |[],[],_=>trivial
 |m :: ms,u :: us,h=>⟨f _ _ _ h.1,UU.imp f h.2⟩
theorem UU.len {lo hi:Nat}{s:St}{v3:AV}:∀ {ms:List MoveT} {us:List AV},UU lo hi s v3 ms us->us.length=ms.length
 |[],[],_=>rfl
 |m :: ms,u :: us,h=>by simp[UU.len h.2]
theorem UU.app {lo hi:Nat}{s:St}{v3:AV}{m:MoveT}{u:AV}(hu:Lv lo hi s u m.acts.length (fl seE m.acts) 7/\Df v3 u):∀ {ms:List MoveT} {us:List AV},UU lo hi s v3 ms us->UU lo hi s v3 (ms ++ [m]) (us ++ [u])
 |[],[],_=>⟨hu,trivial⟩
 |m' :: ms,u' :: us,h=>⟨h.1,UU.app hu h.2⟩
structure MR (p mb lo hi:Nat)(m:ModT)(ts:Lq)(v1 v2 v3:AV)(us:List AV)(s:St):Prop where
 cp:Cl s p [v1,v2,v3,.map mb,.bool false]
 mp:Mp s mb ts
 l1:Lv lo hi s v1 m.vars.length (fl vaE m.vars) 7
 l2:Lv lo hi s v2 m.enums.length (fl enE m.enums) 4
 l3:Lv lo hi s v3 m.moves.length (mvc m.moves us) 7
 uu:UU lo hi s v3 m.moves us
 d13:Df v3 v1
 d23:Df v3 v2
 hp:p<lo
 hm:mb<lo
 pm:p≠mb
 lo:lo<=hi
 hi:hi<=s.nx
def MZ (p mb lo:Nat)(m:ModT)(ts:Lq)(s:St):Prop:=∃ v1 v2 v3 us,MR p mb lo s.nx m ts v1 v2 v3 us s
theorem Df.symm2 {v w:AV}(h:Df v w):Df w v:=by
 unfold Df at *;cases v<;>cases w<;>first|trivial|exact λe=>h e.symm
section
variable {p mb lo hi:Nat} {m:ModT} {ts us:Lq} {v1 v2 v3:AV} {ws:List AV} {s t:St}
theorem MS.mr (S:MS p mb lo hi m ts v1 v2 v3 s)(h:m.moves=[]):MR p mb lo hi m ts v1 v2 v3 [] s:=by
 obtain⟨C,M,l1,l2,l3,d12,d13,d23,hp,hm,pm,h1,h2⟩:=S;refine⟨C,M,l1,l2,?_,?_,Df.symm2 d13,Df.symm2 d23,hp,hm,pm,h1,h2⟩
 .rw[h] at l3 ⊢;exact l3
 .rw[h];trivial
theorem MR.ck (S:MR p mb lo hi m ts v1 v2 v3 ws s):Ck p v1 v2 v3 (.map mb) m.vars m.enums false s:=by
 obtain⟨C,M,l1,l2,l3,uu,d13,d23,hp,hm,pm,h1,h2⟩:=S;refine⟨C,l1.lr,l2.lr,?_,?_⟩
 .intro b k z x e;rcases l1 with ⟨h,_⟩|⟨c,h,h2,_⟩
  .rw[h] at e;cases e
  .rw[h] at e;cases e;omega
 .intro b k z x e;rcases l2 with ⟨h,_⟩|⟨c,h,h2,_⟩
  .rw[h] at e;cases e
  .rw[h] at e;cases e;omega
theorem MR.imp (S:MR p mb lo hi m ts v1 v2 v3 ws s){hi':Nat}(C:Cl t p [v1,v2,v3,.map mb,.bool false])(M:Mp t mb us)(f:∀ v n cs z,Lv lo hi s v n cs z->Lv lo hi' t v n cs z)(h1:hi<=hi')(h2:hi'<=t.nx):MR p mb lo hi' m us v1 v2 v3 ws t:=
 ⟨C,M,f _ _ _ _ S.l1,f _ _ _ _ S.l2,f _ _ _ _ S.l3,S.uu.imp λu n cs h=>⟨f _ _ _ _ h.1,h.2⟩,S.d13,S.d23,S.hp,S.hm,S.pm,ψ S.lo h1,h2⟩
theorem MR.nw (S:MR p mb lo hi m ts v1 v2 v3 ws s)(ds:List AV):MR p mb lo hi m ts v1 v2 v3 ws (Go.Sy.nw s ds):=by
 have C:=S.cp;have h1:=S.hp;have h2:=S.hi;have h3:=S.lo;exact S.imp (ckX) (S.mp.nw ds) (λv n cs z h=>ckX) (μ _) (by rw[jg];omega)
theorem MR.wr (S:MR p mb lo hi m ts v1 v2 v3 ws s){c:Nat}(hc:hi<=c)(o:Nat)(ds:List AV):MR p mb lo hi m ts v1 v2 v3 ws (Go.Sy.wr s c o ds):=by
 have C:=S.cp;have h1:=S.hp;have h2:=S.hi;have h3:=S.lo;have h4:=S.hm;exact S.imp (ckX) (S.mp.wr om o ds) (λv n cs z h=>ckX) (μ _) (by rw[jn];omega)
theorem MR.take (S:MR p mb lo hi m ts v1 v2 v3 ws s)(us:Lq):MR p mb lo hi m us v1 v2 v3 ws (Go.Sy.mp s mb (mpl us)):=
 S.imp (by rw[V4 S.pm];exact S.cp) S.mp.put (λv n cs z h=>h.mp S.hm) (μ _) S.hi
theorem MR.keep (S:MR p mb lo hi m ts v1 v2 v3 ws s)(k:Keep p s t)(C':Cl t p [v1,v2,v3,.map mb,.bool false]):MR p mb lo hi m ts v1 v2 v3 ws t:=
 S.imp C' (S.mp.keep k.nx (k.get mb S.mp.lt (λe=>S.pm e.symm))) (λv n cs z h=>k.lv h (.inl S.hp)) (μ _) (ψ S.hi k.nx)
theorem MR.up (S:MR p mb lo hi m ts v1 v2 v3 ws s){hi':Nat}(h:hi<=hi')(h2:hi'<=s.nx):MR p mb lo hi' m ts v1 v2 v3 ws s:=
 S.imp S.cp S.mp (λv n cs z k=>k.up h) h h2
theorem MR.bare (S:MR p mb lo hi m ts v1 v2 v3 ws s):MR p mb lo hi m ts v1 v2 v3 ws s.bare:=
 S.imp S.cp.bar ⟨S.mp.lt,S.mp.get⟩ (λv n cs z h=>by rw[jH];exact h) (μ _) S.hi
theorem MR.ofbk {u:St}(S:MR p mb lo hi m ts v1 v2 v3 ws s):MR p mb lo hi m ts v1 v2 v3 ws (bk u s):=by
 have e:∀ b cs,Cl s b cs->Cl (bk u s) b cs:=λb cs h=>⟨h.lt,h.row,h.len,h.cell⟩;exact S.imp (e _ _ S.cp) ⟨S.mp.lt,S.mp.get⟩ (λv n cs z h=>h.imp id λ⟨c,h1,h2,h3,h4,h5,h6⟩=>⟨c,h1,h2,h3,e _ _ h4,h5,h6⟩) (μ _) S.hi
theorem MR.aps (S:MR p mb lo hi m ts v1 v2 v3 ws s){lo' hi' n' z':Nat}{v':AV}{cs':List AV}(V:Lv lo' hi' s v' n' cs' z')(h:hi<=lo')(ds:List AV):MR p mb lo hi m ts v1 v2 v3 ws (Go.Sy.aps v' s ds):=by
 have h0:=S.hp;have h1:=S.hm;have h2:=S.lo;have h3:=S.hi;exact S.imp (S.cp.aps V (.inl om)) (S.mp.keep (by rw[jp];omega) (V.get s ds mb (.inl om) S.mp.lt)) (λv n cs z k=>k.aps V (.inl h)) (μ _) (by rw[jp];omega)
theorem Lv.low {lo lo' hi n z:Nat}{s:St}{v:AV}{cs:List AV}(h:Lv lo' hi s v n cs z)(h2:lo<=lo'):Lv lo hi s v n cs z:=h.imp id λ⟨c,h1,h3,h4,h5,h6,h7⟩=>⟨c,h1,h3,h4,h5,om,h7⟩
theorem MR.move (S:MR p mb lo hi m ts v1 v2 v3 ws s)(e:MoveT){u:AV}{z:Nat}(V:Lv z s.nx s u e.acts.length (fl seE e.acts) 7)(hz:hi<=z):MR p mb lo (s.nx+1) { m with moves:=m.moves ++ [e] } ts v1 v2 (apv 7 v3 s) (ws ++ [u]) (Go.Sy.wr (Go.Sy.aps v3 s (eE e.when ++ [u])) p 2 [apv 7 v3 s]):=by
 obtain⟨C,M,l1,l2,l3,uu,d13,d23,hp,hm,pm,h1,h2⟩:=S;have h4:=C.lt;have hn:(Go.Sy.wr (Go.Sy.aps v3 s (eE e.when ++ [u])) p 2 [apv 7 v3 s]).nx=s.nx+1:=by rw[jn,jp]
 refine⟨?_,?_,?_,?_,?_,?_,(Df.put l1 h2).1,(Df.put l2 h2).1,hp,hm,pm,om,by rw[hn];exact μ _⟩
 .exact(cast (l3.cl s (eE e.when ++ [u]) _ p (.inl hp) h4).symm C:Cl (Go.Sy.aps v3 s (eE e.when ++ [u])) p _).wr 2 [apv 7 v3 s]
 .exact M.keep (by rw[hn];omega) (by rw[zN (λh=>pm h.symm)];exact l3.get s (eE e.when ++ [u]) mb (.inl hm) M.lt)
 .rw[jA (.inl hp)];exact(l1.apsD d13).up om
 .rw[jA (.inl hp)];exact(l2.apsD d23).up om
 .rw[jA (.inl hp),ν,jfg uu.len];exact l3.put (by rw[ν,zR];rfl) om rfl
 .refine UU.app ?_ (uu.imp λu n cs h=>?_)
  .rw[jA (.inl hp)];refine⟨((V.aps l3 (.inr hz)).up om).low om,?_⟩;have V':Lv lo s.nx s u e.acts.length (fl seE e.acts) 7:=V.low om;exact(Df.put V' (μ _)).1
  .rw[jA (.inl hp)];exact⟨(h.1.apsD h.2).up om,(Df.put h.1 h2).1⟩
end
def vz:VarT:=⟨[],0,[],0,0,false,0⟩
def QZ (vars:List VarT)(enums:List EnumT):List SetT->List AsT->List AsT->KR (List SetT)
 |acc,done,[]=>.ok acc
 |acc,done,a :: rest=>if qc vars a.name<0 then .er 161 a.line a.col
  else if 0<=fi (λx=>decide (x.name=a.name)) done then .er 162 a.line a.col
  else match yD vars enums false a.to (vars.getD (qc vars a.name).toNat vz).kind (vars.getD (qc vars a.name).toNat vz).enum with
   |.er x y z=>.er x y z
   |.ok y=>QZ vars enums (acc ++ [⟨qc vars a.name,y⟩]) (done ++ [a]) rest
def X5 (m:ModT)(ts:Lq)(r:RuleT):KR (ModT×Lq):=match yD m.vars m.enums false r.when 2 [] with
 |.er a b c=>.er a b c
 |.ok w=>match QZ m.vars m.enums [] [] r.acts with
  |.er a b c=>.er a b c
  |.ok ss=>.ok ({ m with moves:=m.moves ++ [⟨w,ss⟩] },ts)
def KZ (p mb lo:Nat)(st:St)(r:KR (ModT×Lq))(K Kp:AV->St->Prop):Prop:=match r with
 |.ok y=>∀ s',Kq p mb lo st s'->MZ p mb lo y.1 y.2 s'->K (.tup []) s'
 |.er c l k=>∀ s',Kq p mb lo st s'->Kp (kf c l k) s'
def moL (w:Ex)(vl:AV):List AV:=[.int .i64 w.op,.int .i64 w.num,.str w.name,.lst w.kids.length (fl eE w.kids),.int .i64 w.line,.int .i64 w.col,vl]
theorem jrG (w:Ex)(vl:AV):eE w ++ [vl]=moL w vl:=by rw[qA];rfl
def rQ (st:St)(K:AV->St->Prop):Out->Prop:=XQ γ y64.res λv s=>K v (back st s)
structure RS (p mb lo q z:Nat)(m:ModT)(ts:Lq)(v1 v2 v3:AV)(ws:List AV)(r:RuleT)(w:Ex)(acc:List SetT)(vl:AV)(st:St)(L:Sl)(s:St):Prop where
 S:MR p mb lo q m ts v1 v2 v3 ws s
 k:Kq p mb lo st.bare s
 qz:q<z
 nx:z+1<=s.nx
 c3:Cl s q (ruE r)
 c4:Cl s z (moL w vl)
 lv:Lv (z+1) s.nx s vl acc.length (fl seE acc) 7
 i0:Has L 0 (.ptr p 0)
 i3:Has L 3 (.ptr q 0)
 i4:Has L 4 (.ptr z 0)
theorem RS.push {p mb lo q z:Nat}{m:ModT}{ts:Lq}{v1 v2 v3:AV}{ws:List AV}{r:RuleT}{w:Ex}{acc:List SetT}{vl:AV}{st:St}{L:Sl}{s:St}(D:RS p mb lo q z m ts v1 v2 v3 ws r w acc vl st L s){c:Nat}{v:AV}(h:c≠0/\c≠3/\c≠4):RS p mb lo q z m ts v1 v2 v3 ws r w acc vl st ((c,v) :: L) s:=by
 obtain⟨S,k,qz,nx,c3,c4,lv,i0,i3,i4⟩:=D;exact⟨S,k,qz,nx,c3,c4,lv,by rw[jm h.1];exact i0,by rw[jm h.2.1];exact i3,by rw[jm h.2.2];exact i4⟩
theorem r13:type_of%(a8 @jd @jf @jZ @je @jc @jh @ji (a4 @jk @jl @jj @rzZ)):=a8 @jd @jf @jZ @je @jc @jh @ji (a4 @jk @jl @jj @rzZ)
theorem jrp (hb:NB base){p mb lo q z:Nat}{m:ModT}{ts:Lq}{v1 v2 v3:AV}{ws:List AV}{r:RuleT}{w:Ex}{acc:List SetT}{vl:AV}{st:St}{L:Sl}{s:St}(D:RS p mb lo q z m ts v1 v2 v3 ws r w acc vl st L s)(hM:m.moves.length<=1000000)(K Kp:AV->St->Prop)
  (hK:KZ p mb lo st (.ok ({ m with moves:=m.moves ++ [⟨w,acc⟩] },ts)) K Kp):xC γ base jf4 L s (rQ st K) (dP st Kp):=by
 obtain⟨S,k,qz,nx,C3,C4,lv,i0,i3,i4⟩:=D;have C:=S.cp;have l3:=S.l3;have hp:=S.hp;have hlo:=S.lo;have hhi:=S.hi;have ve3:=l3.eqs;have vc:∀ l,lall AV.cell (vl :: l)=lall AV.cell l:=λl=>by show cond vl.cell _ false=_;rw[lv.cell];rfl
 have Ap:=λst' bv xc xx K h hv=>@JK lo q m.moves.length 7 st' v3 (mvc m.moves ws) K 96 bv xc xx h dc om om hv;have hqp:q≠p/\z≠p:=om
 have lv2:Lv (z+1) (nw s (moL w vl)).nx (nw s (moL w vl)) vl acc.length (fl seE acc) 7:=by
  refine Lv.up (hi:=s.nx) ?_ (by(first|omega|(simp only[jg,jn,jt,jp,jo];first|done|omega)))
  exact ckX
 have S3:=(S.nw (moL w vl)).move ⟨w,acc⟩ (u:=vl) lv2 om;rw[jrG] at S3;have q2:=(((k.nw om (moL w vl)).aps l3 (by(first|omega|(simp only[jg,jn,jt,jp,jo];first|done|omega))) (moL w vl)).wr (.inl rfl) 2 [apv 7 v3 (nw s (moL w vl))]).bk;have S2:=(S3.up (by(first|omega|(simp only[jg,jn,jt,jp,jo];first|done|omega))) (μ _)).ofbk (u:=st);have gp:rat s.h p 2=v3:=C.cell 2 (by simp only[ξ,φ];omega);clear S3 lv2;unfold moL at *;unfold rQ dP y64;rw[(by unfold jf4;simp only[qq];rfl:jf4=_)]
 (have zz:=a8 @vc @l3.ln @l3.rts @jA @jG @jK @l3 (a4 @jC @jJ @jN (aI C3.r (aI C4.r C.r)));repeat' first|apply jb<;>intro _|simp(disch:=try exact jW) only[ja i0,ja i3,ja i4,Ap,l3.at,jC,C3.q,C4.q,C.q,vc,l3.ln,l3.rts,jA,jG,jK,l3,jC,jJ,jN,C3.r,C4.r,C.r,r13,δ,ε])
 exact hK _ q2 ⟨_,_,_,_,S2⟩
theorem jth:Go.Ev.isAgg γ 67=some false:=Qa0
theorem jtg:Go.Ev.sizeOf γ 67=some 1:=Qa0
theorem jrh {b o:Nat}{v:AV}{h:T AO}(ho:o<qp h b)(hv:rat h b o=v)(hc:eqs v=true):(qb γ 67 (.ptr b o) v h=true)=True:=eq_true (Qz jth jtg ho hv hc)
def zA9:List AV:=[.str [],.int .i64 0,.int .i64 0,.str [],.nils,.int .i64 0,.int .i64 0,.int .i64 0,.int .i64 0]
theorem jcJ {vars:List VarT}{enums:List EnumT}{acc:List SetT}{xs:List AsT}{k:Nat}(hk:k<xs.length):QZ vars enums acc (xs.take k) (xs.drop k)=if qc vars xs[k].name<0 then .er 161 xs[k].line xs[k].col
  else if 0<=fi (λx=>decide (x.name=xs[k].name)) (xs.take k) then .er 162 xs[k].line xs[k].col
  else match yD vars enums false xs[k].to (vars.getD (qc vars xs[k].name).toNat vz).kind (vars.getD (qc vars xs[k].name).toNat vz).enum with
   |.er x y z=>.er x y z
   |.ok y=>QZ vars enums (acc ++ [⟨qc vars xs[k].name,y⟩]) (xs.take (k+1)) (xs.drop (k+1)):=by
 have e:xs.drop k=xs[k] :: xs.drop (k+1):=(QbY hk).symm;rw[e,QZ,<-yt hk]<;>rfl
theorem jrq (hb:NB base){p mb lo q z:Nat}{m:ModT}{ts:Lq}{v1 v2 v3:AV}{ws:List AV}{r:RuleT}{w:Ex}{st:St}{L:Sl}{s:St}(D:RS p mb lo q z m ts v1 v2 v3 ws r w [] .nils st L s)(V:VarsOK m.vars m.enums)(hx:∀ a∈r.acts,OkE a.to)(hbl:r.acts.length<=1000000)(hM:m.moves.length<=1000000)(K Kp:AV->St->Prop)
  (hK:KZ p mb lo st (match QZ m.vars m.enums [] [] r.acts with | .er a b c=>.er a b c | .ok ss=>.ok ({ m with moves:=m.moves ++ [⟨w,ss⟩] },ts)) K Kp):xC γ base jf5 L s (rQ st K) (dP st Kp):=by
 have i0:=D.i0;have i3:=D.i3;have i4:=D.i4;have C3:=D.c3;rw[(by unfold jf5;simp only[qq];rfl:jf5=_)]
 (have zz:=C3.r;repeat' first|apply jb<;>intro _|simp(disch:=try exact jW) only[ja i0,ja i3,ja i4,C3.q,C3.r,r13,δ,ε])
 refine jV r.acts.length (λk L s=>(∃ acc vl,acc.length=k/\QZ m.vars m.enums [] [] r.acts=QZ m.vars m.enums acc (r.acts.take k) (r.acts.drop k)/\RS p mb lo q z m ts v1 v2 v3 ws r w acc vl st L s)/\Has L 14 (.lst r.acts.length (fl asE r.acts))) ?_ (λk L s hk hI hi hn=>?_) (λL s hI=>?_) (hc:=(λk L s v h=>(by obtain⟨⟨acc,vl,h0,h1,h2⟩,h3⟩:=h;refine⟨⟨acc,vl,h0,h1,h2.push dc⟩,?_⟩;simp(disch:=decide) only[jm];assumption))) (hI:=(λk L s v h=>(by obtain⟨⟨acc,vl,h0,h1,h2⟩,h3⟩:=h;refine⟨⟨acc,vl,h0,h1,h2.push dc⟩,?_⟩;simp(disch:=decide) only[jm];assumption)))
 .refine⟨⟨[],.nils,rfl,rfl,((D.push dc).push dc).push dc⟩,?_⟩;simp(disch:=decide) only[jm,ju]
 .obtain⟨⟨acc,vl,hacc,h1,D⟩,i14⟩:=hI;obtain⟨S,k0,qz,nx,C3,C4,lv,i0,i3,i4⟩:=D;obtain⟨x1,x2⟩:=hx _ (ω hk);have hlo:=S.lo;have hhi:=S.hi;have hp:=S.hp;have hqm:q≠p/\z≠p:=om
  have zl9:(asE r.acts[k]).length=zA9.length:=by rw[vK];rfl
  have S1:=(S.nw zA9).wr (c:=s.nx) om 0 (asE r.acts[k]);have k1:=(k0.nw om zA9).wr (c:=s.nx) (.inr om) 0 (asE r.acts[k]);have C6:=(Cl.new s zA9).wr0 zl9;have D3:Cl (wr (nw s zA9) s.nx 0 (asE r.acts[k])) q (ruE r):=ckX
  have D4:Cl (wr (nw s zA9) s.nx 0 (asE r.acts[k])) z (moL w vl):=ckX
  have lv1:Lv (z+1) s.nx (wr (nw s zA9) s.nx 0 (asE r.acts[k])) vl acc.length (fl seE acc) 7:=ckX
  have hn1:(wr (nw s zA9) s.nx 0 (asE r.acts[k])).nx=s.nx+1:=rfl;have VC:=λnm K Kp=>jgk hb S1.ck V.len nm K Kp;have HA:=λK Kp=>jo2 hb (r.acts.take k) (by rw[Qal];omega) r.acts[k] _ C6 k (by rw[Qal];omega) K Kp;have SL:=λst K=>@js5 _ asE 9 vK r.acts .i64 k (QbV hk) st K;rw[h1,jcJ hk] at hK;unfold zA9 at *
  (have zz:=aI C3.r C4.r;repeat' first|apply jb<;>intro _|simp(disch:=try exact jW) only[ja i0,ja i3,ja i4,ja i14,ja hi,ja hn,C3.q,C4.q,C3.r,C4.r,r13,δ,ε])
  generalize wr (nw s [.str [],.int .i64 0,.int .i64 0,.str [],.nils,.int .i64 0,.int .i64 0,.int .i64 0,.int .i64 0]) s.nx 0 (asE r.acts[k])=t1 at *;have C1:=S1.cp;by_cases c1:qc m.vars r.acts[k].name<0
  .rw[if_pos c1] at hK
   (have zz:=aI D3.r (aI D4.r C6.r);repeat' first|apply jb<;>intro _|simp(disch:=try exact jW) only[ja i0,ja i3,ja i4,VC,c1,Jh hb,D3.q,D4.q,C6.q,D3.r,D4.r,C6.r,r13,δ,ε])
   exact hK _ k1.bk
  rw[if_neg c1] at hK;by_cases c2:0<=fi (λx=>decide (x.name=r.acts[k].name)) (r.acts.take k)
  .rw[if_pos c2] at hK
   (have zz:=aI D3.r (aI D4.r C6.r);repeat' first|apply jb<;>intro _|simp(disch:=try exact jW) only[ja i0,ja i3,ja i4,VC,c1,HA,SL,c2,Jh hb,D3.q,D4.q,C6.q,D3.r,D4.r,C6.r,r13,δ,ε])
   exact hK _ k1.bk
  rw[if_neg c2] at hK;have hlt:qc m.vars r.acts[k].name<(m.vars.length:Int):=ZA;have hi2:(qc m.vars r.acts[k].name).toNat<m.vars.length:=om
  have eg:m.vars.getD (qc m.vars r.acts[k].name).toNat vz=m.vars[(qc m.vars r.acts[k].name).toNat]:=by simp[Qac,hi2]
  rw[eg] at hK;have Lw:=S1.l1;rcases id Lw with ⟨_,e0,_⟩|⟨b,rfl,b1,b2,Ce,b5,b6⟩
  .omega
  have gl:qp t1.h b=m.vars.length * 7:=by rw[Ce.len,zH YA]
  have ge1:rat t1.h b ((qc m.vars r.acts[k].name).toNat * 7+1)=.int .i64 m.vars[(qc m.vars r.acts[k].name).toNat].kind:=by
   rw[Ce.cell _ (by rw[zH YA];omega),ur YA hi2 dc];rfl
  have ge2:rat t1.h b ((qc m.vars r.acts[k].name).toNat * 7+2)=.str m.vars[(qc m.vars r.acts[k].name).toNat].enum:=by
   rw[Ce.cell _ (by rw[zH YA];omega),ur YA hi2 dc];rfl
  have gp:rat t1.h p 0=.slice b 0 m.vars.length m.vars.length 7 false:=C1.cell 0 (by simp only[ξ,φ];omega);unfold moL at D4 C4
  (have zz:=a4 @gl @ge1 @ge2 (a4 C1.r D3.r D4.r C6.r);repeat' first|apply jb<;>intro _|simp(disch:=try exact jW) only[ja i0,ja i3,ja i4,VC,c1,HA,SL,c2,ge1,ge2,Y4,Ug,Uf (base:=base),C1.q,D3.q,D4.q,C6.q,gl,ge1,ge2,C1.r,D3.r,D4.r,C6.r,r13,δ,ε])
  rw[<-qA];refine kG hb V _ x2 (Y5 _ x1) _ _ S1.ck _ _ ?_;cases hr:yD m.vars m.enums false r.acts[k].to m.vars[(qc m.vars r.acts[k].name).toNat].kind m.vars[(qc m.vars r.acts[k].name).toNat].enum with
  |er a b c=>
   rw[hr] at hK;intro s' k2;repeat' first|apply jb<;>intro _|simp(disch:=try exact dzG) only[Y4,Ug,Uf (base:=base),r13,δ,ε]
   exact hK _ (k1.keep k2 om).bk
  |ok y=>
   rw[hr] at hK;dsimp only at hK;intro s' k2 C2;have hs':=k2.nx;have k3:=k1.keep k2 om;have S3:=S1.keep k2 C2;have E3:=k2.cl D3 hqm.1;have E4:=k2.cl D4 hqm.2;have lv2:=k2.lv lv1 (.inl om);have ve:=lv2.eqs;have gz:rat s'.h z 6=vl:=E4.cell 6 (by simp only[ξ,φ];omega);have Ap:=λst' bv xc xx K h hv=>@JK (z+1) s.nx acc.length 7 st' vl (fl seE acc) K 80 bv xc xx h dc om om hv;have a59:qb γ 67 (.ptr z 6) vl t1.h=true:=(jrh (by rw[D4.len];simp only[ξ,φ];omega) (D4.cell 6 (by simp only[ξ,φ];omega)) ve).mpr trivial;clear S1 k1 k2 C2 C6 D3 D4 C3 C4 S k0 VC HA SL ge1 ge2 gl gp Ce Lw C1 lv lv1;have hzp:p≠z:=λe=>hqm.2 e.symm;have lv3:Lv (z+1) (nw s' (seE ⟨qc m.vars r.acts[k].name,y⟩)).nx (nw s' (seE ⟨qc m.vars r.acts[k].name,y⟩)) vl acc.length (fl seE acc) 7:=by
    refine Lv.up (hi:=s.nx) ?_ (by(first|omega|(simp only[jg,jn,jt,jp,jo];first|done|omega)))
    exact ckX
   have S4:=((S3.nw (seE ⟨qc m.vars r.acts[k].name,y⟩)).aps lv3 om (seE ⟨qc m.vars r.acts[k].name,y⟩)).wr (c:=z) om 6 [apv 7 vl (nw s' (seE ⟨qc m.vars r.acts[k].name,y⟩))];have k4:=((k3.nw om (seE ⟨qc m.vars r.acts[k].name,y⟩)).aps (lv3.low (lo:=lo) om) (by(first|omega|(simp only[jg,jn,jt,jp,jo];first|done|omega))) (seE ⟨qc m.vars r.acts[k].name,y⟩)).wr (c:=z) (.inr om) 6 [apv 7 vl (nw s' (seE ⟨qc m.vars r.acts[k].name,y⟩))];have hlz:z+1<=s'.nx:=om
   (have zz:=a8 @lv2.ln @lv2.rts @jA @jG @jK @lv2 @jC (a4 @jJ @jN @ve (aI E3.r E4.r));repeat' first|apply jb<;>intro _|simp(disch:=try exact jW) only[ja i0,ja i3,ja i4,Ap,lv2.at,jrh,ve,jC,E3.q,E4.q,lv2.ln,lv2.rts,jA,jG,jK,lv2,jC,jJ,jN,ve,E3.r,E4.r,r13,δ,ε])
   refine⟨a59,⟨⟨acc ++ [⟨qc m.vars r.acts[k].name,y⟩],_,?_,h1.trans ?_,S4,k4,qz,?_,?_,Cl.wr (?_:Cl _ z (moL w vl)) 6 [apv 7 vl (nw s' (seE ⟨qc m.vars r.acts[k].name,y⟩))],?_,?_,?_,?_⟩,?_⟩,?_,?_⟩
   .rw[ν,hacc];rfl
   .rw[jcJ hk,if_neg c1,if_neg c2,eg,hr]
   .rw[jn,jp,jg];omega
   .have:=(E3.nw (seE ⟨qc m.vars r.acts[k].name,y⟩)).aps lv3 (.inl om) (news:=seE ⟨qc m.vars r.acts[k].name,y⟩)
    exact ckX
   .exact(E4.nw (seE ⟨qc m.vars r.acts[k].name,y⟩)).aps lv3 (.inl om)
   .rw[jA (.inl om),ν,QH,Qf];exact lv3.put (YD _) (by(first|omega|(simp only[jg,jn,jt,jp,jo];first|done|omega))) (by(first|omega|(simp only[jg,jn,jt,jp,jo];first|done|omega)))
   all_goals exact hsX
 .obtain⟨⟨acc,vl,hacc,h1,D⟩,i14⟩:=hI;rw[Qab,Qbw,QZ] at h1;rw[h1] at hK;repeat' first|apply jb<;>intro _|simp(disch:=try exact dzG) only[r13,δ,ε]
  exact jrp hb D hM K Kp hK
def z7:List AV:=[.int .i64 0,.int .i64 0,.str [],.nils,.int .i64 0,.int .i64 0,.nils]
theorem jro (hb:NB base){p mb lo:Nat}{m:ModT}{ts:Lq}{st:St}(r:RuleT)(V:VarsOK m.vars m.enums)(hw:OkE r.when)(hx:∀ a∈r.acts,OkE a.to)(hbl:r.acts.length<=1000000)(hM:m.moves.length<=1000000)(H:MZ p mb lo m ts st)(K Kp:AV->St->Prop)(hK:KZ p mb lo st (X5 m ts r) K Kp):XB γ base 71 [.ptr p 0,.agg (ruE r)] st K Kp:=by
 obtain⟨v1,v2,v3,ws,S⟩:=H;have hp:=S.hp;have hlo:=S.lo;have hhi:=S.hi;refine zP x64 haa (hb.at0 71 dc dc _ _) ?_;simp only[y64,jr,ζ,η,θ,κ];rw[(by unfold z64;simp only[qq];rfl:z64=_)];have hnx:st.bare.nx=st.nx:=rfl;have S0:=S.bare.nw (ruE r);have q1:=(Kq.refl:Kq p mb lo st.bare st.bare).nw om (ruE r);have Cb:Cl (nw st.bare (ruE r)) st.nx (ruE r):=Cl.new st.bare (ruE r);unfold X5 at hK
 (have zz:=@Cb.r;repeat' first|apply jb<;>intro _|simp(disch:=try exact jW) only[Cb.q,Cb.r,r13,δ,ε])
 rw[<-qA];have hn0:(nw st.bare (ruE r)).nx=st.nx+1:=rfl;refine kG hb V _ hw.2 (Y5 _ hw.1) _ _ S0.ck _ _ ?_;cases hr:yD m.vars m.enums false r.when 2 [] with
 |er a b c=>
  rw[hr] at hK;intro s' k2;exact hK _ (q1.keep k2 om).bk
 |ok y=>
  rw[hr] at hK;dsimp only at hK;intro s' k2 C2;have hs':=k2.nx;have k3:=q1.keep k2 om;have S3:=S0.keep k2 C2;have E3:=k2.cl Cb om;rw[qA];have S4:=(S3.nw z7).wr (c:=s'.nx) om 0 (moL y .nils);have k4:=(k3.nw om z7).wr (c:=s'.nx) (.inr om) 0 (moL y .nils);have C4:=(Cl.new s' z7).wr0 (c':=moL y .nils) rfl;unfold z7 moL at *;repeat' first|apply jb<;>intro _|simp(disch:=try exact dzG) only[r13,δ,ε]
  refine jrq hb ⟨S4,k4,?_,by(first|omega|(simp only[jg,jn,jt,jp,jo];first|done|omega)),ckX,C4,Lv.nil,?_,?_,?_⟩ V hx hbl hM K Kp hK
  .omega
  all_goals simp(disch:=decide) only[jm,ju]
def fcl (c l k:Int):List AV:=[.int .i64 c,.int .i64 l,.int .i64 k]
theorem jtU (c l k:Int)(st:St)(K:AV->St->Prop):jq (GY γ 45 (kf c l k) st) K=K (.tup [.agg (fcl c l k),.bool true]) st:=by
 have:GY γ 45 (kf c l k) st=.ok (.tup [.agg (fcl c l k),.bool true]) st:=Qa0
 rw[this];rfl
theorem jsc (c l k:Int)(st:St)(K:AV->St->Prop):jq (XO γ .eql 20 true (kf c l k) .nilif st) K=K (.bool false) st:=by
 have:XO γ .eql 20 true (kf c l k) .nilif st=.ok (.bool false) st:=Qa0
 rw[this];rfl
theorem GR {fb:Nat}(st:St)(K:Md->St->Prop):DX γ base 67 [.ptr fb 0] .calm st.bare K=K .calm st.bare:=by
 refine jb1 (λK hK=>?_) K;refine Wa jqI haa rfl ?_;simp only[G9,jr,ζ,η,θ,Yl,YX];rw[(by unfold W6;simp only[qq];rfl:W6=_)];repeat' first|apply jb<;>intro _|simp(disch:=try exact dzG) only[jjI,W8,r13,δ,ε]
 exact hK
theorem jbE {fb:Nat}(c l k:Int)(st:St)(h:qp st.h fb=3)(hn:fb<st.nx)(K:Md->St->Prop) :
  DX γ base 67 [.ptr fb 0] (.pan (kf c l k)) st.bare K=K .done (wr (wr (nw st.bare [.int .i64 0,.int .i64 0,.int .i64 0]) st.nx 0 (fcl c l k)) fb 0 (fcl c l k)):=by
 have C:Cl st.bare fb (rats st.h fb 0 3):=(Cl.of_rats hn h (Qn _ _ _ _) dc rfl).bar;have hcs:(rats st.h fb 0 3).length=3:=Qn _ _ _ _;refine jb1 (λK hK=>?_) K;refine Wa jqI haa rfl ?_;simp only[G9,jr,ζ,η,θ,Yl,YX];rw[(by unfold W6;simp only[qq];rfl:W6=_)];have hl:=C.lt;have l0:=C.len;have hB:st.bare.nx=st.nx:=rfl;have hne:¬ fb=st.bare.nx:=om
 unfold fcl at *;have A:=jtU c l k;unfold fcl at A
 (have zz:=aI @l0 @hcs;repeat' first|apply jb<;>intro _|simp(disch:=try exact jW) only[jsc,jjo,A,W8,l0,hcs,r13,δ,ε])
 exact hK
theorem jvf {n:Nat}(h:0<n)(cs:List AV)(st:St)(K:AV->St->Prop):jq (XO γ .eql 106 true (.lst n cs) .nils st) K=K (.bool false) st:=by
 obtain⟨k,rfl⟩:∃ k,n=k+1:=⟨n - 1,om⟩;have:XO γ .eql 106 true (.lst (k+1) cs) .nils st=.ok (.bool false) st:=Qa0
 rw[this];rfl
theorem jvl {n:Nat}{cs:List AV}(h0:0<n)(hl:cs.length=n)(hn:n<=1000000)(K:AV->St->Prop):jq (zJ 1 16 (.slice 0 0 0 0 1 true) (.lst n cs) (nw st0 [])) K=K (.slice 1 0 n n 1 false) (nw (nw st0 []) cs):=by
 have hg:jv (nw st0 []).h 0=some (.row 0 0 [] .e):=Qa0
 have e1:QcC n 1=n:=QaG n;have e2:QcA n (jQ cs)=true:=qw (by rw[jM];omega);have e3:yj cs n=cs:=by rw[qN,<-hl,Qab]
 have e4:Qcy (jQ cs) n=true:=YT (by rw[jM,hl]);have e5:QcB 0 n=n:=Qaj n;have e6:QcA n 0=false:=jb2 h0;have e7:QcA (QcC n 16) 140737488355328=true:=qw (by show n * 16<=_;omega);have e8:QcA n 9223372036854775807=true:=qw om;have e9:QcC 0 1=0:=rfl;have e10:QcA (QcB 0 0) 0=true:=rfl;have e11:jP 0 [] .e 0 0=[]:=rfl;have e12:yS [] cs=cs:=by rw[yz];rfl
 simp only[zJ,zF,firstCells,jF,e1,e2,cond_true,e3,q7,e4,hg,yh,e5,e6,cond_false,e7,e8,e9,e10,e11,e12,St.alloc_eq,jq];conv=>rhs;unfold nw
 rw[hl];rfl
theorem jpc (hb:NB base)(vs:Lq)(hv:0<vs.length)(hl:vs.length<=1000000):Tot base 91 [.lst vs.length (vs.map .str)] (.lst vs.length (vs.map .str)):=by
 refine hb.tot ?_ rfl rfl;have N:=jvf hv (vs.map .str);have A:=λK=>jvl (cs:=vs.map .str) hv hac hl K;refine jE x99 haa (hb.pur 91 1 dc) ?_;simp only[y99,jr,ζ,η,θ,κ];rw[(by unfold z99;simp only[qq];rfl:z99=_)];repeat' first|apply jb<;>intro _|simp(disch:=try exact dzG) only[N,jbO,A,r13,δ,ε]
 have C:Cl (nw (nw st0 []) (vs.map .str)) 1 (vs.map .str):=Cl.new (nw st0 []) _;refine FzD.slice C.rw_ hac (Qaa _) ?_;rw[QaG,<-Qad (f:=AV.str),Qab];refine FzsD.pc ?_;simp[pc]
def yn {α β:Type}(f:β->α->KR β):β->List α->KR β
 |b,[]=>.ok b
 |b,x :: xs=>match f b x with
  |.er a c d=>.er a c d
  |.ok b=>yn f b xs
theorem VV {α β:Type}{f:β->α->KR β}{b:β}{xs:List α}{k:Nat}(hk:k<xs.length):yn f b (xs.drop k)=match f b xs[k] with
  |.er a c d=>.er a c d
  |.ok b=>yn f b (xs.drop (k+1)):=by
 have e:xs.drop k=xs[k] :: xs.drop (k+1):=(QbY hk).symm;rw[e,yn]
abbrev MT:=ModT×Lq
def Zs (b:MT)(p:ProcT):KR MT:=match XX b.2 p.name p.line p.col with
 |.er a c d=>.er a c d
 |.ok ts=>yn (λb r=>X5 b.1 b.2 r) (b.1,ts) p.rules
def md0:ModT:=⟨[],[],[]⟩
def UZ (b:MT)(l:List EnumT):KR MT:=yn (λb e=>vC b.1 b.2 e) b l
def uz (b:MT)(l:List DeclT):KR MT:=yn (λb e=>Q7 b.1 b.2 e) b l
def Ys (b:MT)(l:List ProcT):KR MT:=yn Zs b l
def zj (s:SrcT):KR MT:=match UZ (md0,[]) s.enums with
 |.er a c d=>.er a c d
 |.ok b=>match uz b s.vars with
  |.er a c d=>.er a c d
  |.ok b=>Ys b s.procs
def kH (r:KR MT):AV:=match r with
 |.er c l k=>.tup [.agg (mdE md0),.agg (fcl c l k)]
 |.ok b=>.tup [.agg (mdE b.1),.agg (fcl 0 0 0)]
def mQ (base:Bs)(r:KR MT):Out->Prop:=HW γ base y26.res (Yg G0 (.ok (kH r))) (X8 G0 (.ok (kH r)))
def mP (base:Bs)(r:KR MT):AV->Sl->St->Prop:=Uz γ base y26.res (Yg G0 (.ok (kH r))) (X8 G0 (.ok (kH r)))
structure QS (src:SrcT)(L:Sl)(s:St):Prop where
 c0:Cl s 0 (srE src)
 c1:Cl s 1 [.nils,.nils,.nils]
 c2:Cl s 2 [.int .i64 0,.int .i64 0,.int .i64 0]
 fr:s.fr=[(67,[.ptr 2 0])]
 i1:Has L 1 (.ptr 0 0)
 i2:Has L 2 (.ptr 1 0)
 i3:Has L 3 (.ptr 2 0)
 i4:Has L 4 (.ptr 4 0)
section
variable {src:SrcT} {L:Sl} {s t:St}
theorem QS.push (h:QS src L s){c:Nat}{v:AV}(hc:c≠1/\c≠2/\c≠3/\c≠4):QS src ((c,v) :: L) s:=by
 obtain⟨c0,c1,c2,fr,i1,i2,i3,i4⟩:=h;exact⟨c0,c1,c2,fr,by rw[jm hc.1];exact i1,by rw[jm hc.2.1];exact i2,by rw[jm hc.2.2.1];exact i3,by rw[jm hc.2.2.2];exact i4⟩
theorem QS.kq (h:QS src L s)(k:Kq 4 3 5 s t):QS src L t:=
 ⟨k.cl h.c0 dc dc dc,k.cl h.c1 dc dc dc,k.cl h.c2 dc dc dc,k.fr.trans h.fr,h.i1,h.i2,h.i3,h.i4⟩
theorem jiX {m d:Nat}{s:St}:FzD m (d+3) s (.agg [.nils,.nils,.nils]) (.agg (mdE md0)):=FzD.agg (.cons FzD.nils (.cons FzD.nils (.cons FzD.nils .nil)))
theorem r12:type_of%(a8 @jd @jf @jZ @je @jc @qT @qS (a4 @jh @ji @jk (aI @jl (aI @jj @rzZ)))):=a8 @jd @jf @jZ @je @jc @qT @qS (a4 @jh @ji @jk (aI @jl (aI @jj @rzZ)))
theorem kW {c l k:Int}(h:QS src L s):mP base (.er c l k) (kf c l k) L s:=by
 obtain⟨c0,c1,c2,fr,i1,i2,i3,i4⟩:=h;have l2:=c2.len;have n2:=c2.lt;unfold mP y26
 (have zz:=aI @c0.r (aI @c1.r @c2.r);repeat' first|apply jb<;>intro _|simp(disch:=try exact jW) only[ja i2,ja i3,Qv (f:=67) (vs:=[.ptr 2 0]),JT (f:=67) (vs:=[.ptr 2 0]),GR,jbE,c0.q,c1.q,c2.q,c0.r,c1.r,c2.r,r12,δ,ε])
 exact FzD.tup (.cons jiX (.cons (.agg (.pc haa)) .nil))
end
theorem jiT {m lo hi d:Nat}{s:St}{v3:AV}(hm:m<=lo):∀ {ms:List MoveT} {us:List AV},UU lo hi s v3 ms us->FzsD m (d+3) s (mvc ms us) (fl moE ms)
 |[],[],_=>.nil
 |e :: ms,u :: us,h=>by
  show FzsD m (d+3) s ((eE e.when ++ [u]) ++ mvc ms us) (moE e ++ fl moE ms);refine FzsD.append ?_ (jiT hm h.2);exact FzsD.append (FzsD.pc (ya _)) (.cons (h.1.1.fz hm (za vf _)) .nil)
theorem m_d {src:SrcT}{L:Sl}{s:St}(D:QS src L s){m:ModT}{ts:Lq}(H:MZ 4 3 5 m ts s):xC γ base jf8 L s (mQ base (.ok (m,ts))) (mP base (.ok (m,ts))):=by
 obtain⟨v1,v2,v3,ws,S⟩:=H;obtain⟨c0,c1,c2,fr,i1,i2,i3,i4⟩:=D;have C4:=S.cp;have l2:=c2.len;have n2:=c2.lt;have vc:∀ l,lall AV.cell (v1 :: v2 :: v3 :: l)=lall AV.cell l:=λl=>by
  show cond v1.cell (cond v2.cell (cond v3.cell _ false) false) false=_;rw[S.l1.cell,S.l2.cell,S.l3.cell];rfl
 unfold mQ mP y26;rw[(by unfold jf8;simp only[qq];rfl:jf8=_)]
 (have zz:=a4 @vc @c0.r @c1.r (aI @c2.r C4.r);repeat' first|apply jb<;>intro _|simp(disch:=try exact jW) only[ja i1,ja i2,ja i3,ja i4,He i3,Zo,Qv (f:=67) (vs:=[.ptr 2 0]),JT (f:=67) (vs:=[.ptr 2 0]),GR,jbE,c0.q,c1.q,c2.q,C4.q,vc,c0.r,c1.r,c2.r,C4.r,r12,δ,ε])
 have f:∀ v n cs z,Lv 5 s.nx s v n cs z->Lv 5 s.nx (wr (wr s 1 0 [v1,v2,v3]) 2 0 [.int .i64 0,.int .i64 0,.int .i64 0]).bare v n cs z:=λv n cs z h=>by
  rw[jH,jA (.inl dc),jA (.inl dc)];exact h
 refine FzD.tup (.cons (FzD.agg (.cons ((f _ _ _ _ S.l1).fz (Qaa _) (za Yz _)) (.cons ((f _ _ _ _ S.l2).fz (Qaa _) (za Qh _)) (.cons ?_ .nil)))) (.cons (.agg (.pc haa)) .nil))
 .have u3:=S.uu.imp (λu n cs h=>(⟨f _ _ _ _ h.1,h.2⟩:Lv 5 s.nx (wr (wr s 1 0 [v1,v2,v3]) 2 0 [.int .i64 0,.int .i64 0,.int .i64 0]).bare u n cs 7/\Df v3 u));rcases f _ _ _ _ S.l3 with ⟨rfl,h1,h2⟩|⟨b,rfl,h1,h2,C,h3,h4⟩
  .have:m.moves=[]:=QaX h1;show FzD _ _ _ _ (.lst m.moves.length (fl moE m.moves));rw[this];exact FzD.nils
  .refine FzD.slice C.rw_ (QaM h2.symm) (Qaa _) ?_;rw[<-h2,Qab];exact jiT (Qaa _) u3
structure ProcOK (p:ProcT):Prop where
 len:p.rules.length<=1000
 rules:∀ r∈p.rules,OkE r.when/\(∀ a∈r.acts,OkE a.to)/\r.acts.length<=1000000
structure DeclOK (d:DeclT):Prop where
 ex:∀ x∈d.begins,OkE x
 len:d.begins.length<=1000000
 lo : -100000000<=d.lo/\d.lo<=100000000
 hi : -100000000<=d.hi/\d.hi<=100000000
structure SrcOK (s:SrcT):Prop where
 ne:s.enums.length<=1000
 nv:s.vars.length<=1000
 np:s.procs.length<=100
 vals:∀ e∈s.enums,0<e.vals.length/\e.vals.length<=1000000
 vars:∀ d∈s.vars,DeclOK d
 procs:∀ p∈s.procs,ProcOK p
theorem uv {m:ModT}{ts:Lq}{e:EnumT}{b:MT}(h:vC m ts e=.ok b):b.1={ m with enums:=m.enums ++ [e] }:=by
 unfold vC at h;split at h
 .cases h
 .cases h;rfl
theorem jcM {m:ModT}{ts:Lq}{r:RuleT}{b:MT}(h:X5 m ts r=.ok b):∃ e,b.1={ m with moves:=m.moves ++ [e] }:=by
 unfold X5 at h;split at h
 .cases h
 .split at h
  .cases h
  .cases h;exact⟨_,rfl⟩
theorem H8 {vars:List VarT}{enums:List EnumT}:∀ {xs:List Ex} {v u:VarT},Ji vars enums v xs=.ok u->u.lo=v.lo/\u.hi=v.hi/\u.kind=v.kind/\u.enum=v.enum/\u.name=v.name
 |[],v,u,h=>by rw[Ji] at h;cases h;exact⟨rfl,rfl,rfl,rfl,rfl⟩
 |x :: xs,v,u,h=>by
  rw[Ji] at h;split at h
  .cases h
  .split at h
   .cases h
   .split at h
    .cases h
    .have:=H8 h;exact this
theorem jma {enums:List EnumT}{d:DeclT}{v:VarT}(hv:∀ e∈enums,e.vals.length<=1000000)(hd:DeclOK d)(h:wt enums d=.ok v) : -100000000<=v.lo/\v.lo<=100000000/\-100000000<=v.hi/\v.hi<=100000000:=by
 unfold wt at h;split at h
 .cases h;dsimp only;omega
 .split at h
  .rename_i h2;cases h;dsimp only;have hlt:JJ enums d.ty<(enums.length:Int):=ZA;have hi2:(JJ enums d.ty).toNat<enums.length:=om
   have eg:enums.getD (JJ enums d.ty).toNat en0=enums[(JJ enums d.ty).toNat]:=by simp[Qac,hi2]
   rw[eg];have:=hv _ (ω hi2);omega
  .split at h
   .cases h
   .split at h
    .cases h
    .split at h
     .cases h
     .cases h;exact⟨hd.lo.1,hd.lo.2,hd.hi.1,hd.hi.2⟩
theorem jdS {m:ModT}{ts:Lq}{d:DeclT}{b:MT}(hv:∀ e∈m.enums,e.vals.length<=1000000)(hd:DeclOK d)(h:Q7 m ts d=.ok b):∃ v:VarT,b.1={ m with vars:=m.vars ++ [v] }/\(-100000000<=v.lo/\v.lo<=100000000/\-100000000<=v.hi/\v.hi<=100000000):=by
 unfold Q7 at h;split at h
 .cases h
 .split at h
  .cases h
  .rename_i v hk;unfold wA at h;split at h
   .cases h
   .rename_i u hu;unfold Ux at h;split at h
    .cases h
    .cases h;have hb:=H8 hu;refine⟨u,rfl,?_⟩;rw[hb.1,hb.2.1];exact jma hv hd hk
section
variable {src:SrcT} {L:Sl} {s t:St} {m:ModT} {ts:Lq}
theorem MX.box (h:MX 4 3 5 m ts s)(z cs:List AV):MX 4 3 5 m ts (Go.Sy.wr (Go.Sy.nw s z) s.nx 0 cs):=by
 obtain⟨v1,v2,v3,S⟩:=h;exact⟨v1,v2,v3,((S.nw z).wr (c:=s.nx) (μ _) 0 cs).up (by rw[jn,jg];omega) (μ _)⟩
theorem MZ.box (h:MZ 4 3 5 m ts s)(z cs:List AV):MZ 4 3 5 m ts (Go.Sy.wr (Go.Sy.nw s z) s.nx 0 cs):=by
 obtain⟨v1,v2,v3,ws,S⟩:=h;exact⟨v1,v2,v3,ws,((S.nw z).wr (c:=s.nx) (μ _) 0 cs).up (by rw[jn,jg];omega) (μ _)⟩
theorem MZ.nx5 (h:MZ 4 3 5 m ts s):5<=s.nx:=by obtain⟨v1,v2,v3,ws,S⟩:=h;exact S.lo
theorem MX.nx5 (h:MX 4 3 5 m ts s):5<=s.nx:=by obtain⟨v1,v2,v3,S⟩:=h;exact S.lo
theorem Gp (h:5<=s.nx)(z cs:List AV):Kq 4 3 5 s (wr (nw s z) s.nx 0 cs):=(Kq.refl.nw h z).wr (.inr h) 0 cs
end
theorem MZ.take {m:ModT}{ts:Lq}{s:St}(h:MZ 4 3 5 m ts s)(us:Lq):MZ 4 3 5 m us (Go.Sy.mp s 3 (mpl us)):=by
 obtain⟨v1,v2,v3,ws,S⟩:=h;exact⟨v1,v2,v3,ws,S.take us⟩
def zr7:List AV:=[.int .i64 0,.int .i64 0,.str [],.nils,.int .i64 0,.int .i64 0,.nils]
def zp4:List AV:=[.str [],.nils,.int .i64 0,.int .i64 0]
theorem m_c (hb:NB base){src:SrcT}{L:Sl}{s:St}(D:QS src L s){m:ModT}{ts:Lq}(V:VarsOK m.vars m.enums)(hm:m.moves=[])(O:SrcOK src)(H:MZ 4 3 5 m ts s):xC γ base jf9 L s (mQ base (Ys (m,ts) src.procs)) (mP base (Ys (m,ts) src.procs)):=by
 have c0:=D.c0;have i1:=D.i1;have onp:=O.np;generalize hR:Ys (m,ts) src.procs=R;rw[(by unfold jf9;simp only[qq];rfl:jf9=_)]
 (have zz:=@c0.r;repeat' first|apply jb<;>intro _|simp(disch:=try exact jW) only[ja i1,c0.q,c0.r,r12,δ,ε])
 refine jV src.procs.length (λk L s=>(∃ b:MT,Ys b (src.procs.drop k)=R/\b.1.vars=m.vars/\b.1.enums=m.enums/\b.1.moves.length<=1000 * k/\MZ 4 3 5 b.1 b.2 s/\QS src L s)/\Has L 39 (.lst src.procs.length (fl prE src.procs))) ?_ (λk L s hk hI hi hn=>?_) (λL s hI=>?_) (hc:=(λk L s v h=>(by obtain⟨⟨b,h1,h2,h3,h4,h5,h6⟩,h7⟩:=h;refine⟨⟨b,h1,h2,h3,h4,h5,h6.push dc⟩,?_⟩;simp(disch:=decide) only[jm];assumption))) (hI:=(λk L s v h=>(by obtain⟨⟨b,h1,h2,h3,h4,h5,h6⟩,h7⟩:=h;refine⟨⟨b,h1,h2,h3,h4,h5,h6.push dc⟩,?_⟩;simp(disch:=decide) only[jm];assumption)))
 .refine⟨⟨(m,ts),by rw[Qbd];exact hR,rfl,rfl,by rw[hm];exact Qaa _,H,((D.push dc).push dc).push dc⟩,?_⟩;simp(disch:=decide) only[jm,ju]
 .clear D c0 i1;obtain⟨⟨b,h1,h2,h3,h4,H,D⟩,i39⟩:=hI;obtain⟨c0,c1,c2,fr,i1,i2,i3,i4⟩:=id D;have hP:=O.procs _ (ω hk);have n5:=H.nx5;have H1:=H.box zp4 (prE src.procs[k]);have k1:=Gp n5 zp4 (prE src.procs[k]);have D1:=D.kq k1;have C10:=(Cl.new s zp4).wr0 (c':=prE src.procs[k]) rfl;unfold Ys at h1;rw[VV hk] at h1;unfold zp4 at *;repeat' first|apply jb<;>intro _|simp(disch:=try exact dzG) only[ja i1,ja i2,ja i3,ja i4,ja i39,ja hi,ja hn,r12,δ,ε]
  obtain⟨v1,v2,v3,ws,S⟩:=id H1;refine gG hb S.cp S.mp _ _ _ _ _ ?_;have S1mp:=S.mp;clear S;by_cases hin:src.procs[k].name∈b.2
  .rw[if_pos hin];have hp:Zs b src.procs[k]=.er 162 src.procs[k].line src.procs[k].col:=by unfold Zs XX;rw[if_pos hin]
   rw[hp] at h1;rw[<-h1];exact kW (D1.push dc)
  .rw[if_neg hin];have hp:Zs b src.procs[k]=yn (λb r=>X5 b.1 b.2 r) (b.1,b.2 ++ [src.procs[k].name]) src.procs[k].rules:=by unfold Zs XX;rw[if_neg hin]
   have H2:=H1.take (b.2 ++ [src.procs[k].name]);have D2:=D1.kq ((Kq.refl:Kq 4 3 5 _ _).mp (mpl (b.2 ++ [src.procs[k].name])));have C10:Cl (Go.Sy.mp (wr (nw s [.str [],.nils,.int .i64 0,.int .i64 0]) s.nx 0 (prE src.procs[k])) 3 (mpl (b.2 ++ [src.procs[k].name]))) s.nx (prE src.procs[k]):=by rw[V4 om];exact C10
   have hrl:=hP.len;generalize Go.Sy.mp (wr (nw s [.str [],.nils,.int .i64 0,.int .i64 0]) s.nx 0 (prE src.procs[k])) 3 (mpl (b.2 ++ [src.procs[k].name]))=t1 at *;clear D1 H1 k1 S1mp
   (have zz:=C10.r;repeat' first|apply jb<;>intro _|simp(disch:=try exact jW) only[ja i1,ja i2,ja i3,ja i4,ja i39,ja hi,ja hn,C10.q,C10.r,r12,δ,ε])
   refine jV src.procs[k].rules.length (λky L s=>(∃ c:MT,yn (λb r=>X5 b.1 b.2 r) c (src.procs[k].rules.drop ky)=Zs b src.procs[k]/\c.1.vars=m.vars/\c.1.enums=m.enums/\c.1.moves.length<=1000 * k+ky/\MZ 4 3 5 c.1 c.2 s/\QS src L s)/\Has L 54 (.lst src.procs[k].rules.length (fl ruE src.procs[k].rules))/\Has L 39 (.lst src.procs.length (fl prE src.procs))/\Has L 41 (.int .i64 k)/\Has L 40 (.int .i64 src.procs.length)) ?_ (λky Ly sy hky hIy hiy hny=>?_) (λLy sy hIy=>?_) (hc:=(λk L s v h=>(by obtain⟨⟨c,g1,g2,g3,g4,g5,g6⟩,g7,g8,g9,g10⟩:=h;refine⟨⟨c,g1,g2,g3,g4,g5,g6.push dc⟩,?_,?_,?_,?_⟩<;>exact hsX))) (hI:=(λk L s v h=>(by obtain⟨⟨c,g1,g2,g3,g4,g5,g6⟩,g7,g8,g9,g10⟩:=h;refine⟨⟨c,g1,g2,g3,g4,g5,g6.push dc⟩,?_,?_,?_,?_⟩<;>exact hsX)))
   .refine⟨⟨(b.1,b.2 ++ [src.procs[k].name]),by rw[Qbd];exact hp.symm,h2,h3,om,H2,(((D2.push dc).push dc).push dc).push dc⟩,?_⟩;simp(disch:=decide) only[jm,ju,true_and];exact⟨i39,hi,hn⟩
   .obtain⟨⟨c,g1,g2,g3,g4,H3,D3⟩,j54,j39,j41,j40⟩:=hIy;obtain⟨c0',c1',c2',fr',i1',i2',i3',i4'⟩:=id D3;have hr:=hP.rules _ (ω hky);have n5':=H3.nx5;have H4:=H3.box zr7 (ruE src.procs[k].rules[ky]);have k4:=Gp n5' zr7 (ruE src.procs[k].rules[ky]);have D4:=D3.kq k4;have hlr:(ruE src.procs[k].rules[ky]).length=zr7.length:=by rw[uP];rfl
    have C12:=(Cl.new sy zr7).wr0 hlr;rw[VV hky] at g1;unfold zr7 at *;repeat' first|apply jb<;>intro _|simp(disch:=try exact dzG) only[ja i1',ja i2',ja i3',ja i4',ja j54,ja hiy,ja hny,r12,δ,ε]
    refine jro hb _ (by rw[g2,g3];exact V) hr.1 hr.2.1 hr.2.2 om H4 _ _ ?_;cases hk1:X5 c.1 c.2 src.procs[k].rules[ky] with
    |er x y z=>
     rw[hk1] at g1;rw[<-g1] at h1;intro s' k5;rw[<-h1];exact kW ((D4.kq k5).push dc)
    |ok d=>
     rw[hk1] at g1;intro s' k5 H5;obtain⟨e,he⟩:=jcM hk1;repeat' first|apply jb<;>intro _|simp(disch:=try exact dzG) only[r12,δ,ε]
     refine⟨⟨⟨d,g1,by rw[he];exact g2,by rw[he];exact g3,by rw[he];simp only[ν,ξ,φ];omega,H5,(D4.kq k5).push dc⟩,?_,?_,?_,?_⟩,?_,?_⟩<;>exact hsX
   .obtain⟨⟨c,g1,g2,g3,g4,H3,D3⟩,j54,j39,j41,j40⟩:=hIy;rw[Qbw,yn] at g1;rw[<-g1] at h1;repeat' first|apply jb<;>intro _|simp(disch:=try exact dzG) only[r12,δ,ε]
    refine⟨⟨⟨c,h1,g2,g3,om,H3,D3⟩,?_⟩,?_,?_⟩<;>assumption
 .obtain⟨⟨b,h1,h2,h3,h4,H,D⟩,i39⟩:=hI;rw[Qbw] at h1;unfold Ys at h1;rw[yn] at h1;rw[<-h1];repeat' first|apply jb<;>intro _|simp(disch:=try exact dzG) only[r12,δ,ε]
  exact m_d D H
theorem MX.mz {m:ModT}{ts:Lq}{s:St}(h:MX 4 3 5 m ts s)(hm:m.moves=[]):MZ 4 3 5 m ts s:=by
 obtain⟨v1,v2,v3,S⟩:=h;exact⟨v1,v2,v3,[],S.mr hm⟩
def zd7:List AV:=[.str [],.str [],.int .i64 0,.int .i64 0,.nils,.int .i64 0,.int .i64 0]
def ze4:List AV:=[.str [],.nils,.int .i64 0,.int .i64 0]
theorem m_b (hb:NB base){src:SrcT}{L:Sl}{s:St}(D:QS src L s){m:ModT}{ts:Lq}(V:VarsOK m.vars m.enums)(hm:m.moves=[])(hv0:m.vars=[])(O:SrcOK src)(H:MX 4 3 5 m ts s)(R:KR MT)(hR:(match uz (m,ts) src.vars with | .er a c d=>.er a c d | .ok b=>Ys b src.procs)=R):xC γ base jga L s (mQ base R) (mP base R):=by
 have c0:=D.c0;have i1:=D.i1;have onv:=O.nv;rw[(by unfold jga;simp only[qq];rfl:jga=_)]
 (have zz:=@c0.r;repeat' first|apply jb<;>intro _|simp(disch:=try exact jW) only[ja i1,c0.q,c0.r,r12,δ,ε])
 refine jV src.vars.length (λk L s=>(∃ b:MT,(match uz b (src.vars.drop k) with | .er a c d=>.er a c d | .ok b=>Ys b src.procs)=R/\b.1.moves=[]/\b.1.vars.length<=k/\VarsOK b.1.vars b.1.enums/\MX 4 3 5 b.1 b.2 s/\QS src L s)/\Has L 28 (.lst src.vars.length (fl qy src.vars))) ?_ (λk L s hk hI hi hn=>?_) (λL s hI=>?_) (hc:=(λk L s v h=>(by obtain⟨⟨b,h1,h2,h3,h4,h5,h6⟩,h7⟩:=h;refine⟨⟨b,h1,h2,h3,h4,h5,h6.push dc⟩,?_⟩;simp(disch:=decide) only[jm];assumption))) (hI:=(λk L s v h=>(by obtain⟨⟨b,h1,h2,h3,h4,h5,h6⟩,h7⟩:=h;refine⟨⟨b,h1,h2,h3,h4,h5,h6.push dc⟩,?_⟩;simp(disch:=decide) only[jm];assumption)))
 .refine⟨⟨(m,ts),by rw[Qbd];exact hR,hm,by rw[hv0];exact Qaa _,V,H,((D.push dc).push dc).push dc⟩,?_⟩;simp(disch:=decide) only[jm,ju]
 .clear D c0 i1 H V hm hv0;obtain⟨⟨b,h1,hm,h3,V,H,D⟩,i28⟩:=hI;obtain⟨c0,c1,c2,fr,i1,i2,i3,i4⟩:=id D;have hd:=O.vars _ (ω hk);have n5:=H.nx5;have H1:=H.box zd7 (qy src.vars[k]);have k1:=Gp n5 zd7 (qy src.vars[k]);have D1:=D.kq k1;have C10:=(Cl.new s zd7).wr0 (c':=qy src.vars[k]) rfl;unfold uz at h1;rw[VV hk] at h1;unfold zd7 at *;repeat' first|apply jb<;>intro _|simp(disch:=try exact dzG) only[ja i1,ja i2,ja i3,ja i4,ja i28,ja hi,ja hn,r12,δ,ε]
  refine jso hb _ V om hd.ex hd.len hd.lo hd.hi H1 _ _ ?_;cases hk1:Q7 b.1 b.2 src.vars[k] with
  |er x y z=>
   rw[hk1] at h1;intro s' k5;rw[<-h1];exact kW ((D1.kq k5).push dc)
  |ok d=>
   rw[hk1] at h1;intro s' k5 H5;obtain⟨v,he,hv⟩:=jdS V.vals hd hk1;repeat' first|apply jb<;>intro _|simp(disch:=try exact dzG) only[r12,δ,ε]
   refine⟨⟨⟨d,h1,by rw[he];exact hm,by rw[he];simp only[ν,ξ,φ];omega,?_,H5,(D1.kq k5).push dc⟩,?_⟩,?_,?_⟩
   .rw[he];refine⟨by simp only[ν,ξ,φ];omega,V.len2,V.vals,λu hu=>?_⟩;rcases Qar.1 hu with hu|hu
    .exact V.ends u hu
    .simp only[Qaz] at hu;rw[hu];exact hv
   all_goals exact hsX
 .obtain⟨⟨b,h1,hm,h3,V,H,D⟩,i28⟩:=hI;rw[Qbw] at h1;unfold uz at h1;rw[yn] at h1;dsimp only at h1;rw[<-h1];repeat' first|apply jb<;>intro _|simp(disch:=try exact dzG) only[r12,δ,ε]
  exact m_c hb D V hm O (H.mz hm)
theorem m_a (hb:NB base){src:SrcT}{L:Sl}{s:St}(D:QS src L s)(O:SrcOK src)(H:MX 4 3 5 md0 [] s):xC γ base jgb L s (mQ base (zj src)) (mP base (zj src)):=by
 have c0:=D.c0;have i1:=D.i1;have one:=O.ne;generalize hR:zj src=R;unfold zj at hR;rw[(by unfold jgb;simp only[qq];rfl:jgb=_)]
 (have zz:=@c0.r;repeat' first|apply jb<;>intro _|simp(disch:=try exact jW) only[ja i1,c0.q,c0.r,r12,δ,ε])
 refine jV src.enums.length (λk L s=>(∃ b:MT,(match UZ b (src.enums.drop k) with | .er a c d=>.er a c d | .ok b=>(match uz b src.vars with | .er a c d=>.er a c d | .ok b=>Ys b src.procs))=R/\b.1.moves=[]/\b.1.vars=[]/\b.1.enums.length<=k/\(∀ e∈b.1.enums,e.vals.length<=1000000)/\MX 4 3 5 b.1 b.2 s/\QS src L s)/\Has L 17 (.lst src.enums.length (fl enE src.enums))) ?_ (λk L s hk hI hi hn=>?_) (λL s hI=>?_) (hc:=(λk L s v h=>(by obtain⟨⟨b,h1,h2,h3,h4,h4b,h5,h6⟩,h7⟩:=h;refine⟨⟨b,h1,h2,h3,h4,h4b,h5,h6.push dc⟩,?_⟩;simp(disch:=decide) only[jm];assumption))) (hI:=(λk L s v h=>(by obtain⟨⟨b,h1,h2,h3,h4,h4b,h5,h6⟩,h7⟩:=h;refine⟨⟨b,h1,h2,h3,h4,h4b,h5,h6.push dc⟩,?_⟩;simp(disch:=decide) only[jm];assumption)))
 .refine⟨⟨(md0,[]),by rw[Qbd];exact hR,rfl,rfl,Qaa _,(λe he=>by cases he),H,((D.push dc).push dc).push dc⟩,?_⟩;simp(disch:=decide) only[jm,ju]
 .clear D c0 i1 H;obtain⟨⟨b,h1,hm,h3,h4,hv,H,D⟩,i17⟩:=hI;obtain⟨c0,c1,c2,fr,i1,i2,i3,i4⟩:=id D;have hd:=O.vals _ (ω hk);have n5:=H.nx5;have H1:=H.box ze4 (enE src.enums[k]);have k1:=Gp n5 ze4 (enE src.enums[k]);have D1:=D.kq k1;have C10:=(Cl.new s ze4).wr0 (c':=enE src.enums[k]) rfl;unfold UZ at h1;rw[VV hk] at h1;unfold ze4 at *;repeat' first|apply jb<;>intro _|simp(disch:=try exact dzG) only[ja i1,ja i2,ja i3,ja i4,ja i17,ja hi,ja hn,r12,δ,ε]
  refine jsg hb (λvs h h2=>jpc hb vs h h2) _ hd.1 hd.2 om H1 _ _ ?_;cases hk1:vC b.1 b.2 src.enums[k] with
  |er x y z=>
   rw[hk1] at h1;intro s' k5;rw[<-h1];exact kW ((D1.kq k5).push dc)
  |ok d=>
   rw[hk1] at h1;intro s' k5 H5;have he:=uv hk1;repeat' first|apply jb<;>intro _|simp(disch:=try exact dzG) only[r12,δ,ε]
   refine⟨⟨⟨d,h1,by rw[he];exact hm,by rw[he];exact h3,by rw[he];simp only[ν,ξ,φ];omega,?_,H5,(D1.kq k5).push dc⟩,?_⟩,?_,?_⟩
   .rw[he];intro u hu;rcases Qar.1 hu with hu|hu
    .exact hv u hu
    .simp only[Qaz] at hu;rw[hu];exact hd.2
   all_goals exact hsX
 .obtain⟨⟨b,h1,hm,h3,h4,hv,H,D⟩,i17⟩:=hI;rw[Qbw] at h1;unfold UZ at h1;rw[yn] at h1;dsimp only at h1;repeat' first|apply jb<;>intro _|simp(disch:=try exact dzG) only[r12,δ,ε]
  exact m_b hb D ⟨by rw[h3];exact Qaa _,om,hv,λv hv=>by rw[h3] at hv;cases hv⟩ hm h3 O H R h1
theorem joP (hb:NB base)(src:SrcT)(O:SrcOK src):Tot base 53 [.agg (srE src)] (kH (zj src)):=by
 refine hb.tot ?_ (by first|rfl|simp[pa,pc,ya,Xu,Vm,Qh,JS,jbB,gI,Yz,vf,wk,Ju,wj]) rfl;refine Vo x26 (hb.pur 53 1 dc) ?_;simp only[y26,jr,ζ,η,θ,κ];rw[(by unfold z26;simp only[qq];rfl:z26=_)];repeat' first|apply jb<;>intro _|simp(disch:=try exact dzG) only[w4,jnF,jm8,r12,δ,ε]
 obtain⟨X,hX⟩:∃ X,X=nw (nw (nw st0 (srE src)) [.nils,.nils,.nils]) [.int .i64 0,.int .i64 0,.int .i64 0]:=⟨_,rfl⟩;have X2:Cl X 2 [.int .i64 0,.int .i64 0,.int .i64 0]:=by rw[hX];exact Cl.new _ _
 have X1:Cl X 1 [.nils,.nils,.nils]:=by rw[hX];exact(Cl.new _ _).nw _
 have X0:Cl X 0 (srE src):=by rw[hX];exact((Cl.new _ _).nw _).nw _
 have Xn:X.nx=3:=by rw[hX];rfl
 have Xf:X.fr=[]:=by rw[hX];rfl
 rw[<-hX];have hn4:(nmp (df (67,[.ptr 2 0]) X)).nx=4:=by show X.nx+1=4;omega
 have hc:(AV.nils :: AV.nils :: AV.nils :: upd [AV.nilm,AV.bool false] 0 (AV.map 3).cells)=[.nils,.nils,.nils,.map 3,.bool false]:=rfl;rw[hn4,hc];have Y:∀ c cs,c<3->Cl X c cs->Cl (nw (nmp (df (67,[.ptr 2 0]) X)) [.nils,.nils,.nils,.map 3,.bool false]) c cs:=λc cs h3 h=>by
  refine h.keep ?_ ?_
  .rw[jg,hn4];omega
  .rw[q8 om,Gz,if_neg (by show c≠X.nx;omega)];rfl
 have C4:Cl (nw (nmp (df (67,[.ptr 2 0]) X)) [.nils,.nils,.nils,.map 3,.bool false]) 4 [.nils,.nils,.nils,.map 3,.bool false]:=hn4▸Cl.new (nmp (df (67,[.ptr 2 0]) X)) _;have M3:Mp (nw (nmp (df (67,[.ptr 2 0]) X)) [.nils,.nils,.nils,.map 3,.bool false]) 3 []:=by
  have h:Mp (nmp (df (67,[.ptr 2 0]) X)) X.nx []:=Mp.new (df (67,[.ptr 2 0]) X);rw[Xn] at h;exact h.nw _
 have n5:(nw (nmp (df (67,[.ptr 2 0]) X)) [.nils,.nils,.nils,.map 3,.bool false]).nx=5:=by rw[jg,hn4]
 refine m_a hb ⟨Y _ _ dc X0,Y _ _ dc X1,Y _ _ dc X2,?_,?_,?_,?_,?_⟩ O ⟨.nils,.nils,.nils,C4,M3,Lv.nil,Lv.nil,Lv.nil,trivial,trivial,trivial,dc,dc,dc,om,μ _⟩
 .show(67,[AV.ptr 2 0]) :: X.fr=_;rw[Xf]
 all_goals simp(disch:=decide) only[jm,ju]
def jgo (r:KR Ex):AV:=match r with
 |.er c l k=>.tup [.agg (eE ex0),.agg (fcl c l k)]
 |.ok y=>.tup [.agg (eE y),.agg (fcl 0 0 0)]
theorem jjv (hb:NB base)(m:ModT)(V:VarsOK m.vars m.enums)(x:Ex)(hx:OkE x):PX γ base 55 [.agg (mdE m),.agg (eE x)] (.ok (jgo (yD m.vars m.enums true x 2 []))):=by
 refine Vo x25 (hb.pur 55 1 dc) ?_;simp only[y25,jr,ζ,η,θ,κ];rw[(by unfold z25;simp only[qq];rfl:z25=_)];have uq:upd [.nils,.nils,.nils,.nilm,.bool false] 0 (mdE m)=[.lst m.vars.length (fl vaE m.vars),.lst m.enums.length (fl enE m.enums),.lst m.moves.length (fl moE m.moves),.nilm,.bool false]:=rfl;repeat' first|apply jb<;>intro _|simp(disch:=try exact dzG) only[w4,Y4,Ug,Uf (base:=base),uq,r12,δ,ε]
 obtain⟨X,hX⟩:∃ X,X=nw (nw (nw (nw st0 (mdE m)) (eE x)) [.int .i64 0,.int .i64 0,.str [],.nils,.int .i64 0,.int .i64 0]) [.int .i64 0,.int .i64 0,.int .i64 0]:=⟨_,rfl⟩;rw[<-hX];have X3:Cl X 3 [.int .i64 0,.int .i64 0,.int .i64 0]:=by rw[hX];exact Cl.new _ _
 have X2:Cl X 2 [.int .i64 0,.int .i64 0,.str [],.nils,.int .i64 0,.int .i64 0]:=by rw[hX];exact(Cl.new _ _).nw _
 have X1:Cl X 1 (eE x):=by rw[hX];exact((Cl.new _ _).nw _).nw _
 have Xn:X.nx=4:=by rw[hX];rfl
 have Xf:X.fr=[]:=by rw[hX];rfl
 obtain⟨S,hS⟩:∃ S,S=nw (df (67,[.ptr 3 0]) X) [.lst m.vars.length (fl vaE m.vars),.lst m.enums.length (fl enE m.enums),.lst m.moves.length (fl moE m.moves),.nilm,.bool true]:=⟨_,rfl⟩;rw[<-hS];have hn4:(df (67,[.ptr 3 0]) X).nx=4:=Xn;have Y:∀ c cs,c<4->Cl X c cs->Cl S c cs:=λc cs h3 h=>by
  rw[hS];refine h.keep ?_ ?_
  .rw[jg,hn4];omega
  .rw[q8 om];rfl
 have C1:=Y _ _ dc X1;have C2:=Y _ _ dc X2;have C3:=Y _ _ dc X3;have C4:Cl S 4 [.lst m.vars.length (fl vaE m.vars),.lst m.enums.length (fl enE m.enums),.lst m.moves.length (fl moE m.moves),.nilm,.bool true]:=by rw[hS];exact hn4▸Cl.new (df (67,[.ptr 3 0]) X) _
 have Sf:S.fr=[(67,[.ptr 3 0])]:=by
  rw[hS];show(67,[AV.ptr 3 0]) :: X.fr=_;rw[Xf]
 clear hS Y X1 X2 X3 Xn Xf hX uq hn4;refine kG hb V _ hx.2 (Y5 _ hx.1) _ _ (fm:=true) (mm:=.nilm) (v3:=.lst m.moves.length (fl moE m.moves)) ⟨C4,.inl rfl,.inl rfl,(λb k z x h=>by cases h),(λb k z x h=>by cases h)⟩ _ _ ?_;cases hr:yD m.vars m.enums true x 2 [] with
 |er a b c=>
  intro s' k2;have E1:=k2.cl C1 dc;have E2:=k2.cl C2 dc;have E3:=k2.cl C3 dc;have l3:=E3.len;have n3:=E3.lt;have hf:s'.fr=[(67,[.ptr 3 0])]:=k2.fr.trans Sf
  (have zz:=a4 @Xo C1.r C2.r (a4 C3.r E1.r E2.r E3.r);repeat' first|apply jb<;>intro _|simp(disch:=try exact jW) only[Y4,Ug,Uf (base:=base),Xk,Zo,Qv (f:=67) (vs:=[.ptr 3 0]),JT (f:=67) (vs:=[.ptr 3 0]),GR,jbE,C1.q,C2.q,C3.q,E1.q,E2.q,E3.q,Xo,C1.r,C2.r,C3.r,E1.r,E2.r,E3.r,r12,δ,ε])
  exact FzD.tup (.cons Y1 (.cons (.agg (.pc haa)) .nil))
 |ok y=>
  intro s' k2 D4;have E1:=k2.cl C1 dc;have E2:=k2.cl C2 dc;have E3:=k2.cl C3 dc;have l3:=E3.len;have n3:=E3.lt;have hf:s'.fr=[(67,[.ptr 3 0])]:=k2.fr.trans Sf
  (have zz:=a4 @Xo C1.r C2.r (a4 C3.r E1.r E2.r E3.r);repeat' first|apply jb<;>intro _|simp(disch:=try exact jW) only[Y4,Ug,Uf (base:=base),Xk,Zo,Qv (f:=67) (vs:=[.ptr 3 0]),JT (f:=67) (vs:=[.ptr 3 0]),GR,jbE,C1.q,C2.q,C3.q,E1.q,E2.q,E3.q,Xo,C1.r,C2.r,C3.r,E1.r,E2.r,E3.r,r12,δ,ε])
  exact FzD.tup (.cons (.agg (.pc (ya y))) (.cons (.agg (.pc haa)) .nil))
theorem jju (hb:NB base)(m:ModT)(V:VarsOK m.vars m.enums)(x:Ex)(hx:OkE x):Tot base 55 [.agg (mdE m),.agg (eE x)] (jgo (yD m.vars m.enums true x 2 [])):=hb.tot (jjv hb m V x hx) (by first|rfl|simp[pa,pc,ya,Xu,Vm,Qh,JS,jbB,gI,Yz,vf,wk,Ju,wj]) rfl
mutual
theorem jcO:∀ (d:Nat) (x:Ex),zg d x=true->Qp x=true/\wh x=true
 |0,_,h=>by cases h
 |d+1,.mk op num name ks l c,h=>by
  rw[Vn] at h;simp only[χ,decide_eq_true_eq] at h;obtain⟨⟨⟨⟨h1,h2⟩,h3⟩,h4⟩,h5⟩:=h;have h3:(ks.length:Int)=if 5<=op/\op<=13 then 1 else if 14<=op/\op<31 then 2 else 0:=h3
  obtain⟨k1,k2⟩:=jaj d ks h5;refine⟨?_,?_⟩
  .rw[Qp,χ,decide_eq_true_eq];refine⟨?_,k1⟩;split at h3
   .omega
   .split at h3<;>omega
  .rw[wh,χ,QaC,χ,decide_eq_true_eq,decide_eq_true_eq,decide_eq_true_eq];refine⟨?_,k2⟩;by_cases ho:op=1
   .right;unfold uX at h4;rw[if_pos (show Ex.op (.mk op num name ks l c)=1 from ho)] at h4;simp only[χ,decide_eq_true_eq] at h4;have h6:(0:Int)<=num:=h4.1.1;have h7:num<=1000000:=h4.1.2;omega
   .exact .inl ho
theorem jaj:∀ (d:Nat) (xs:List Ex),xs.all (zg d)=true->J7 xs=true/\QB xs=true
 |_,[],_=>⟨rfl,rfl⟩
 |d,x :: xs,h=>by
  rw[QaD,χ] at h;obtain⟨a1,a2⟩:=jcO d x h.1;obtain⟨b1,b2⟩:=jaj d xs h.2;rw[J7,QB,χ,χ];exact⟨⟨a1,b1⟩,⟨a2,b2⟩⟩
end
theorem uH {ts:List Tk}(W:Wds ts){i j:Nat}{x:Ex}(hi:i<ts.length)(h:yC ts i=.ok x j):OkE x:=jcO 60 x (ym W hi h).2.2.2
theorem jhO:∀ {ts:List Tk} {n i j:Nat} {vs ws:Lq},vs.length<=32->XW ts n i vs=.ok ws j->vs.length<ws.length/\ws.length<=32
 |ts,0,i,j,vs,ws,hv,h=>by cases h
 |ts,n+1,i,j,vs,ws,hv,h=>by
  rw[XW] at h;split at h
  .split at h
   .cases h
   .split at h
    .have:=jhO hae h;simp at this;omega
    .split at h
     .cases h;simp;omega
     .cases h
  .cases h
theorem jse {ts:List Tk}{i j:Nat}{e:EnumT}(h:YR ts i=.ok e j):0<e.vals.length/\e.vals.length<=1000000:=by
 unfold YR at h;split at h
 .split at h
  .split at h
   .rename_i vs k hv;cases h;have:=jhO hac hv;dsimp only;omega
   .cases h
  .cases h
 .cases h
theorem jnx {ts:List Tk}(N:Nbs ts){i j:Nat}{n:Int}(h:Zu ts i=.ok n j) : -100000000<=n/\n<=100000000:=by
 unfold Zu at h;split at h
 .split at h
  .have:=N (i+1);cases h;omega
  .cases h
 .split at h
  .have:=N i;cases h;omega
  .cases h
theorem js9 {ts:List Tk}(N:Nbs ts){i j:Nat}{y:Lt×Int×Int}(h:Vf ts i=.ok y j):(-100000000<=y.2.1/\y.2.1<=100000000)/\(-100000000<=y.2.2/\y.2.2<=100000000):=by
 unfold Vf at h;split at h
 .cases h;dsimp only;omega
 .split at h
  .cases h;dsimp only;omega
  .split at h
   .cases h
   .rename_i lo k h1;split at h
    .split at h
     .cases h
     .rename_i hi k2 h2;cases h;exact⟨jnx N h1,jnx N h2⟩
    .cases h
theorem jtS {ts:List Tk}(W:Wds ts){i j:Nat}{bs:List Ex}(hi:i<ts.length)(h:wX ts i=.ok bs j):(∀ x∈bs,OkE x)/\bs.length<=1:=by
 unfold wX at h;split at h
 .rename_i c;have hi1:=W.isM hi c;split at h
  .cases h
  .rename_i x k hx;split at h
   .cases h;exact⟨λy hy=>by simp at hy;rw[hy];exact uH W hi1 hx,by simp⟩
   .cases h
 .split at h
  .cases h;exact⟨(λy hy=>by cases hy),by simp⟩
  .cases h
theorem jsm {ts:List Tk}(W:Wds ts)(N:Nbs ts){i j:Nat}{d:DeclT}(hi:i<ts.length)(h:YS ts i=.ok d j):DeclOK d:=by
 unfold YS at h;split at h
 .rename_i k1;have hi1:=W.next i hi om
  split at h
  .rename_i c1;have hi2:=W.isM hi1 c1;split at h
   .cases h
   .rename_i y k hy;have hk:=jcC W hi2 hy;split at h
    .cases h
    .rename_i bs k2 hb;cases h;obtain⟨a,b⟩:=js9 N hy;obtain⟨c,d⟩:=jtS W hk.2 hb;exact⟨c,by dsimp only;omega,a,b⟩
  .cases h
 .cases h
theorem jj8 {ts:List Tk}(W:Wds ts):∀ {n i j:Nat} {vs ws:List AsT},i<ts.length->(∀ a∈vs,OkE a.to)->vs.length<=32->Q9 ts n i vs=.ok ws j->(∀ a∈ws,OkE a.to)/\ws.length<=32
 |0,i,j,vs,ws,hi,hv,hl,h=>by cases h
 |n+1,i,j,vs,ws,hi,hv,hl,h=>by
  rw[Q9] at h;by_cases k1:(tk ts i).kind=1
  .simp only[if_pos k1] at h;have hi1:=W.next i hi om
   by_cases h32:32<=vs.length
   .simp only[if_pos h32] at h;cases h
   simp only[if_neg h32] at h;by_cases c1:isM (tk ts (i+1)) [[58,61]]=true
   .simp only[if_pos c1] at h;have hi2:=W.isM hi1 c1;cases h1:yC ts (i+2) with
    |er t=>rw[h1] at h;cases h
    |ok x k=>
     rw[h1] at h;dsimp only at h;have hj:=ym W hi2 h1;have hx:=uH W hi2 h1;have hv2:∀ l c nm,∀ a∈vs ++ [(⟨nm,x,l,c⟩:AsT)],OkE a.to:=λl c nm a ha=>by
      rcases Qar.1 ha with ha|ha
      .exact hv a ha
      .simp at ha;rw[ha];exact hx
     by_cases c2:isM (tk ts k) [[44]]=true
     .simp only[if_pos c2] at h;exact jj8 W (W.isM hj.2.1 c2) (hv2 _ _ _) hae h
     .simp only[if_neg c2] at h;split at h
      .cases h;exact⟨hv2 _ _ _,by simp;omega⟩
      .cases h
   .simp only[if_neg c1] at h;cases h
  .simp only[if_neg k1] at h;cases h
theorem jrm {ts:List Tk}(W:Wds ts){i j:Nat}{r:RuleT}(hi:i<ts.length)(h:X4 ts i=.ok r j):OkE r.when/\(∀ a∈r.acts,OkE a.to)/\r.acts.length<=1000000:=by
 unfold X4 at h;cases h1:yC ts i with
 |er t=>rw[h1] at h;cases h
 |ok x k=>
  rw[h1] at h;dsimp only at h;have hj:=ym W hi h1;by_cases c1:isM (tk ts k) [[100,111]]=true
  .simp only[if_pos c1] at h;cases h2:Q9 ts ts.length (k+1) [] with
   |er t=>rw[h2] at h;cases h
   |ok vs k2=>
    rw[h2] at h;cases h;have:=jj8 (vs:=[]) W (W.isM hj.2.1 c1) (λa ha=>by cases ha) (Qaa _) h2;exact⟨uH W hi h1,this.1,by dsimp only;omega⟩
  .simp only[if_neg c1] at h;cases h
theorem jeZ {ts:List Tk}(W:Wds ts):∀ {n i j:Nat} {vs ws:List RuleT},i<ts.length->(∀ r∈vs,OkE r.when/\(∀ a∈r.acts,OkE a.to)/\r.acts.length<=1000000)->vs.length<=32->QA ts n i vs=.ok ws j->(∀ r∈ws,OkE r.when/\(∀ a∈r.acts,OkE a.to)/\r.acts.length<=1000000)/\ws.length<=32
 |0,i,j,vs,ws,hi,hv,hl,h=>by cases h
 |n+1,i,j,vs,ws,hi,hv,hl,h=>by
  rw[QA] at h;by_cases c1:isM (tk ts i) [[119,104,101,110]]=true
  .simp only[if_pos c1] at h;have hi1:=W.isM hi c1;by_cases h32:32<=vs.length
   .simp only[if_pos h32] at h;cases h
   simp only[if_neg h32] at h;cases h1:X4 ts (i+1) with
   |er t=>rw[h1] at h;cases h
   |ok r k=>
    rw[h1] at h;dsimp only at h;refine jeZ W (kM W hi1 h1).2 (λa ha=>?_) hae h;rcases Qar.1 ha with ha|ha
    .exact hv a ha
    .simp at ha;rw[ha];exact jrm W hi1 h1
  .simp only[if_neg c1] at h;split at h
   .cases h;exact⟨hv,hl⟩
   .cases h
theorem jry {ts:List Tk}(W:Wds ts){i j:Nat}{p:ProcT}(hi:i<ts.length)(h:YF ts i=.ok p j):ProcOK p:=by
 unfold YF at h;split at h
 .rename_i k1;have hi1:=W.next i hi om
  split at h
  .rename_i c1;have hi2:=W.isM hi1 c1;split at h
   .rename_i vs k hv;cases h;have:=jeZ (vs:=[]) W hi2 (λa ha=>by cases ha) (Qaa _) hv;exact⟨by dsimp only;omega,this.1⟩
   .cases h
  .cases h
 .cases h
theorem jbq {ts:List Tk}(W:Wds ts)(N:Nbs ts):∀ {n i j:Nat} {m w:SrcT},i<ts.length->SrcOK m->m.enums.length<=32->m.vars.length<=32->m.procs.length<=32->Yj ts n i m=.ok w j->SrcOK w/\w.enums.length<=32/\w.vars.length<=32/\w.procs.length<=32
 |0,i,j,m,w,hi,hm,h1,h2,h3,h=>by cases h
 |n+1,i,j,m,w,hi,hm,h1,h2,h3,h=>by
  rw[Yj] at h;by_cases c:isM (tk ts i) [[101,110,117,109],[118,97,114],[112,114,111,99,101,115,115]]=true
  .simp only[if_pos c] at h;have hi1:=W.isM hi c;by_cases c1:(tk ts i).text=[101,110,117,109]
   .simp only[if_pos c1] at h;by_cases hr:32<=m.enums.length
    .simp only[if_pos hr] at h;cases h
    simp only[if_neg hr] at h;cases he:YR ts (i+1) with
    |er t=>rw[he] at h;cases h
    |ok e k=>
     rw[he] at h;refine jbq (m:={ m with enums:=m.enums ++ [e] }) W N (HV W hi1 he).2 ⟨by simp;omega,hm.nv,hm.np,λa ha=>?_,hm.vars,hm.procs⟩ hae h2 h3 h;rcases Qar.1 ha with ha|ha
     .exact hm.vals a ha
     .simp at ha;rw[ha];exact jse he
   simp only[if_neg c1] at h;by_cases c2:(tk ts i).text=[118,97,114]
   .simp only[if_pos c2] at h;by_cases hr:32<=m.vars.length
    .simp only[if_pos hr] at h;cases h
    simp only[if_neg hr] at h;cases he:YS ts (i+1) with
    |er t=>rw[he] at h;cases h
    |ok e k=>
     rw[he] at h;refine jbq (m:={ m with vars:=m.vars ++ [e] }) W N (HZ W hi1 he).2 ⟨hm.ne,by simp;omega,hm.np,hm.vals,λa ha=>?_,hm.procs⟩ h1 hae h3 h;rcases Qar.1 ha with ha|ha
     .exact hm.vars a ha
     .simp at ha;rw[ha];exact jsm W N hi1 he
   .simp only[if_neg c2] at h;by_cases hr:32<=m.procs.length
    .simp only[if_pos hr] at h;cases h
    simp only[if_neg hr] at h;cases he:YF ts (i+1) with
    |er t=>rw[he] at h;cases h
    |ok e k=>
     rw[he] at h;refine jbq (m:={ m with procs:=m.procs ++ [e] }) W N (Ht W hi1 he).2 ⟨hm.ne,hm.nv,by simp;omega,hm.vals,hm.vars,λa ha=>?_⟩ h1 h2 hae h;rcases Qar.1 ha with ha|ha
     .exact hm.procs a ha
     .simp at ha;rw[ha];exact jry W hi1 he
  .simp only[if_neg c] at h;split at h
   .cases h;exact⟨hm,h1,h2,h3⟩
   .cases h
theorem jeW {l:Lt}(h:(yF l).2.1=0):SrcOK (yF l).1:=by
 unfold yF at h ⊢;by_cases c:(qu l).2.1≠0
 .rw[if_pos c] at h;exact absurd h c
 .rw[if_neg c] at h ⊢;have c0:(qu l).2.1=0:=by simpa using c
  obtain⟨W,ne,_⟩:=U6 c0;cases hr:Yj (qu l).1 (qu l).1.length 0 Vk with
  |er t=>rw[hr] at h;exact absurd h (λh=>by cases h)
  |ok m j=>exact(jbq W (jjS c0) (Qbv.2 ne) ⟨dc,dc,dc,(λa ha=>by cases ha),(λa ha=>by cases ha),(λa ha=>by cases ha)⟩ dc dc dc hr).1
theorem jmn {l:Lt}(h:(yo l).2.1=0):OkE (yo l).1:=by
 unfold yo at h ⊢;by_cases c:(qu l).2.1≠0
 .rw[if_pos c] at h;exact absurd h c
 .rw[if_neg c] at h ⊢;have c0:(qu l).2.1=0:=by simpa using c
  obtain⟨W,ne,_⟩:=U6 c0;cases hr:yC (qu l).1 0 with
  |er t=>rw[hr] at h;exact absurd h (λh=>by cases h)
  |ok x j=>
   rw[hr] at h;dsimp only at h ⊢;by_cases k5:(tk (qu l).1 j).kind=5
   .rw[if_pos k5];exact uH W (Qbv.2 ne) hr
   .rw[if_neg k5] at h;exact absurd h (λh=>by cases h)
def Bad (c:Int):Prop:=c≠0
theorem jgL {vars:List VarT}{enums:List EnumT}{x:Ex}{c l k:Int}(h:zi vars enums x=.er c l k):Bad c:=by
 unfold zi at h;split at h
 .cases h
 .split at h
  .cases h;exact λh=>by cases h
  .cases h
mutual
theorem jaS {vars:List VarT}{enums:List EnumT}:∀ (fm:Bool) (x:Ex) {a b d:Int},ye vars enums fm x=.er a b d->Bad a
 |fm,.mk op num name ks l c,a,b,d,h=>by
  rw[ye] at h;split at h
  .cases h
  .split at h
   .cases h
   .split at h
    .exact jgL h
    .split at h
     .rename_i hr;cases h;exact Gs _ _ hr
     .unfold Ym at h;split at h
      .cases h;exact λh=>by cases h
      .split at h
       .cases h
       .split at h
        .cases h;exact λh=>by cases h
        .cases h
theorem Gs {vars:List VarT}{enums:List EnumT}:∀ (fm:Bool) (xs:List Ex) {a b d:Int},qf vars enums fm xs=.er a b d->Bad a
 |fm,[],a,b,d,h=>by rw[qf] at h;cases h
 |fm,x :: xs,a,b,d,h=>by
  rw[qf] at h;cases hx:ye vars enums fm x with
  |er p q r=>rw[hx] at h;cases h;exact jaS fm x hx
  |ok y=>
   rw[hx] at h;cases hr:qf vars enums fm xs with
   |er p q r=>rw[hr] at h;cases h;exact Gs fm xs hr
   |ok r=>rw[hr] at h;cases h
end
theorem QW {vars:List VarT}{enums:List EnumT}{fm:Bool}{x:Ex}{w:Int}{en:Lt}{a b c:Int}(h:yD vars enums fm x w en=.er a b c):Bad a:=by
 unfold yD at h;split at h
 .rename_i hr;cases h;exact jaS fm x hr
 .split at h
  .cases h;exact λh=>by cases h
  .cases h
theorem Ul {ts:Lq}{n:Lt}{l c a b d:Int}(h:XX ts n l c=.er a b d):Bad a:=by
 unfold XX at h;split at h
 .cases h;exact λh=>by cases h
 .cases h
theorem gF {l c:Int}:∀ {ns ts:Lq} {a b d:Int},zA l c ts ns=.er a b d->Bad a
 |[],ts,a,b,d,h=>by cases h
 |n :: ns,ts,a,b,d,h=>by
  rw[zA] at h;split at h
  .rename_i hr;cases h;exact Ul hr
  .exact gF h
theorem jjM {m:ModT}{ts:Lq}{e:EnumT}{a b d:Int}(h:vC m ts e=.er a b d):Bad a:=by
 unfold vC at h;split at h
 .rename_i hr;cases h;exact gF hr
 .cases h
theorem jd6 {vars:List VarT}{enums:List EnumT}:∀ {xs:List Ex} {v:VarT} {a b d:Int},Ji vars enums v xs=.er a b d->Bad a
 |[],v,a,b,d,h=>by rw[Ji] at h;cases h
 |x :: xs,v,a,b,d,h=>by
  rw[Ji] at h;split at h
  .rename_i hr;cases h;exact QW hr
  .split at h
   .cases h;exact λh=>by cases h
   .split at h
    .cases h;exact λh=>by cases h
    .exact jd6 h
theorem jjR {m:ModT}{ts:Lq}{e:DeclT}{a b d:Int}(h:Q7 m ts e=.er a b d):Bad a:=by
 unfold Q7 at h;split at h
 .rename_i hr;cases h;exact Ul hr
 .split at h
  .rename_i hr;cases h;unfold wt at hr;split at hr
   .cases hr
   .split at hr
    .cases hr
    .split at hr
     .cases hr;exact λh=>by cases h
     .split at hr
      .cases hr;exact λh=>by cases h
      .split at hr
       .cases hr;exact λh=>by cases h
       .cases hr
  .unfold wA at h;split at h
   .rename_i hr;cases h;exact jd6 hr
   .unfold Ux at h;split at h
    .cases h;exact λh=>by cases h
    .cases h
theorem jag {vars:List VarT}{enums:List EnumT}:∀ {xs done:List AsT} {acc:List SetT} {a b d:Int},QZ vars enums acc done xs=.er a b d->Bad a
 |[],done,acc,a,b,d,h=>by rw[QZ] at h;cases h
 |x :: xs,done,acc,a,b,d,h=>by
  rw[QZ] at h;split at h
  .cases h;exact λh=>by cases h
  .split at h
   .cases h;exact λh=>by cases h
   .split at h
    .rename_i hr;cases h;exact QW hr
    .exact jag h
theorem jiv {m:ModT}{ts:Lq}{e:RuleT}{a b d:Int}(h:X5 m ts e=.er a b d):Bad a:=by
 unfold X5 at h;split at h
 .rename_i hr;cases h;exact QW hr
 .split at h
  .rename_i hr;cases h;exact jag hr
  .cases h
theorem wH {α β:Type}{f:β->α->KR β}(hf:∀ b x a c d,f b x=.er a c d->Bad a):∀ {xs:List α} {b:β} {a c d:Int},yn f b xs=.er a c d->Bad a
 |[],b,a,c,d,h=>by rw[yn] at h;cases h
 |x :: xs,b,a,c,d,h=>by
  rw[yn] at h;split at h
  .rename_i hr;cases h;exact hf _ _ _ _ _ hr
  .exact wH hf h
theorem vn {s:SrcT}{a b d:Int}(h:zj s=.er a b d):Bad a:=by
 unfold zj at h;split at h
 .rename_i hr;cases h;exact wH (λb x a c d h=>jjM h) hr
 .split at h
  .rename_i hr;cases h;exact wH (λb x a c d h=>jjR h) hr
  .refine wH (λb x a c d h=>?_) h;unfold Zs at h;split at h
   .rename_i hr;cases h;exact Ul hr
   .exact wH (λb x a c d h=>jiv h) h
theorem jtj:Go.Ev.isAgg γ 35=some true:=Qa0
theorem jti:Go.Ev.sizeOf γ 35=some 3:=Qa0
theorem jvc {b o:Nat}{cs:List AV}{h:T AO}(ho:o+3<=qp h b)(hv:rats h b o 3=cs)(hc:cs.all eqs=true):(qb γ 35 (.ptr b o) (.agg cs) h=true)=True:=eq_true (Zq jtj jti dc ho hv hc)
structure RdT where
 m:ModT
 x:Ex
 c:Int
 l:Int
 k:Int
def zp (l f:Lt):RdT:=
 if(yF l).2.1≠0 then⟨md0,ex0,(yF l).2.1,(yF l).2.2.1,(yF l).2.2.2⟩ else match zj (yF l).1 with
 |.er a b c=>⟨md0,ex0,a,b,c⟩
 |.ok m=>if(yo f).2.1≠0 then⟨md0,ex0,(yo f).2.1,(yo f).2.2.1,(yo f).2.2.2⟩ else match yD m.1.vars m.1.enums true (yo f).1 2 [] with
  |.er a b c=>⟨md0,ex0,a,b,c⟩
  |.ok y=>⟨m.1,y,0,0,0⟩
def gE (r:RdT):AV:=.tup [.agg (mdE r.m),.agg (eE r.x),.agg (fcl r.c r.l r.k)]
theorem jlz {s:St}{r:RdT}{a b c:List AV}(h1:a=mdE r.m)(h2:b=eE r.x)(h3:c=fcl r.c r.l r.k):G0 (gE r) (.tup [.agg a,.agg b,.agg c]) s:=by
 subst h1 h2 h3;exact FzD.tup (.cons (.agg (.pc (Ju _))) (.cons (.agg (.pc (ya _))) (.cons (.agg (.pc rfl)) .nil)))
theorem Vg {s:St}{r:RdT}{c:List AV}(h1:r.m=md0)(h2:r.x=ex0)(h3:c=fcl r.c r.l r.k):G0 (gE r) (.tup [.agg [.nils,.nils,.nils],.agg [.int .i64 0,.int .i64 0,.str [],.nils,.int .i64 0,.int .i64 0],.agg c]) s:=by
 subst h3;unfold gE;rw[h1,h2];exact FzD.tup (.cons jiX (.cons Y1 (.cons (.agg (.pc rfl)) .nil)))
theorem Jo {α β:Type}{f:β->α->KR β}{P:Nat->β->Prop}:∀ {xs:List α} {n:Nat} {b b':β},(∀ k b x b',x∈xs->P k b->f b x=.ok b'->P (k+1) b')->P n b->yn f b xs=.ok b'->P (n+xs.length) b'
 |[],n,b,b',_,h,e=>by rw[yn] at e;cases e;exact h
 |x :: xs,n,b,b',hs,h,e=>by
  rw[yn] at e;split at e
  .cases e
  .rename_i c hc;have:=Jo (n:=n+1) (λk b y b' hy=>hs k b y b' (by simp[hy])) (hs n b x c hac h hc) e;rw[ξ,show n+(xs.length+1)=n+1+xs.length by omega];exact this
theorem KO {b b':MT}{p:ProcT}(h:Zs b p=.ok b'):b'.1.vars=b.1.vars/\b'.1.enums=b.1.enums:=by
 unfold Zs at h;split at h
 .cases h
 .rename_i ts _;refine Jo (n:=0) (P:=λ_ c=>c.1.vars=b.1.vars/\c.1.enums=b.1.enums) (λk c x c' _ hc hr=>?_) ⟨rfl,rfl⟩ h;obtain⟨e,he⟩:=jcM hr;rw[he];exact hc
theorem jms {src:SrcT}(O:SrcOK src){b:MT}(h:UZ (md0,[]) src.enums=.ok b):b.1.vars=[]/\b.1.moves=[]/\b.1.enums.length<=1000/\(∀ e∈b.1.enums,e.vals.length<=1000000):=by
 have H:=Jo (n:=0) (P:=λk (c:MT)=>c.1.vars=[]/\c.1.moves=[]/\c.1.enums.length<=k/\(∀ e∈c.1.enums,e.vals.length<=1000000)) (λk c x c' hx hc hr=>?_) ⟨rfl,rfl,μ _,λe he=>by cases he⟩ h
 .have:=O.ne;exact⟨H.1,H.2.1,by have:=H.2.2.1;omega,H.2.2.2⟩
 .rw[uv hr];refine⟨hc.1,hc.2.1,by have:=hc.2.2.1;simp;omega,λu hu=>?_⟩;rcases Qar.1 hu with hu|hu
  .exact hc.2.2.2 u hu
  .simp only[Qaz] at hu;rw[hu];exact(O.vals x hx).2
theorem jmy {src:SrcT}(O:SrcOK src){b c:MT}(V:VarsOK b.1.vars b.1.enums)(h0:b.1.vars=[])(h:uz b src.vars=.ok c):VarsOK c.1.vars c.1.enums:=by
 have:=Jo (n:=0) (P:=λk (c:MT)=>(∀ v∈c.1.vars,-100000000<=v.lo/\v.lo<=100000000/\-100000000<=v.hi/\v.hi<=100000000)/\c.1.enums=b.1.enums/\c.1.vars.length=k) (λk c x c' hx hc hr=>?_) ⟨V.ends,rfl,by rw[h0];rfl⟩ h
 .have hn:=O.nv;exact⟨om,by rw[this.2.1];exact V.len2,by rw[this.2.1];exact V.vals,this.1⟩
 .obtain⟨v,he,hv⟩:=jdS (by rw[hc.2.1];exact V.vals) (O.vars x hx) hr;rw[he];refine⟨λu hu=>?_,hc.2.1,by simp[hc.2.2]⟩;rcases Qar.1 hu with hu|hu
  .exact hc.1 u hu
  .simp only[Qaz] at hu;rw[hu];exact hv
theorem jnA {src:SrcT}(O:SrcOK src){m:MT}(h:zj src=.ok m):VarsOK m.1.vars m.1.enums:=by
 unfold zj at h;split at h
 .cases h
 .rename_i b h1;obtain⟨e1,e2,e3,e4⟩:=jms O h1;split at h
  .cases h
  .rename_i c h2;have V:=jmy O ⟨by rw[e1];exact Qaa _,om,e4,λv hv=>by rw[e1] at hv;cases hv⟩ e1 h2;have:=Jo (n:=0) (P:=λ_ (d:MT)=>d.1.vars=c.1.vars/\d.1.enums=c.1.enums) (λk d x d' _ hd hr=>?_) ⟨rfl,rfl⟩ h
   .rw[this.1,this.2];exact V
   .have:=KO hr;rw[this.1,this.2];exact hd
theorem jsS (hb:NB base)(hP:PI base)(l f:Lt)(hl:l.length<=9223372036854775807)(hf:f.length<=9223372036854775807):Tot base 34 [.str l,.str f] (gE (zp l f)):=by
 refine hb.tot ?_ rfl rfl;have hS:=jmN hb hP l hl U6 jjS;have hX:=js0 hb hP f hf U6;refine jE x24 haa (hb.pur 34 1 dc) ?_;simp only[y24,jr,ζ,η,θ,κ];rw[(by unfold z24;simp only[qq];rfl:z24=_)];unfold zp;by_cases h1:(yF l).2.1≠0
 .have h1':¬ ((yF l).2.1:Int)=0:=om
  rw[if_pos h1];have e:zW (yF l).2=[.int .i64 ((yF l).2.1:Int),.int .i64 ((yF l).2.2.1:Int),.int .i64 ((yF l).2.2.2:Int)]:=rfl;rw[e] at hS;repeat' first|apply jb<;>intro _|simp(disch:=try exact dzG) only[hS,h1',Zo,Xk,uL,r12,δ,ε]
  exact Vg rfl rfl rfl
 rw[if_neg h1];have h1z:(yF l).2.1=0:=by simpa using h1
 have O:=jeW h1z;have e0:(yF l).2=(0,0,0):=by
  unfold yF at h1z ⊢;by_cases c:(qu l).2.1≠0
  .rw[if_pos c] at h1z;exact absurd h1z c
  .rw[if_neg c] at h1z ⊢;cases hr:Yj (qu l).1 (qu l).1.length 0 Vk with
   |er t=>rw[hr] at h1z;exact absurd h1z (λh=>by cases h)
   |ok m j=>rfl
 rw[e0] at hS;have e0':zW (0,0,0)=[.int .i64 0,.int .i64 0,.int .i64 0]:=rfl;rw[e0'] at hS;have hM:=joP hb (yF l).1 O;unfold kH at hM;cases hm:zj (yF l).1 with
 |er a b c=>
  have ha:¬ a=0:=vn hm;rw[hm] at hM;unfold fcl at hM;repeat' first|apply jb<;>intro _|simp(disch:=try exact dzG) only[hS,hM,ha,Zo,Xk,uL,r12,δ,ε]
  exact Vg rfl rfl rfl
 |ok m=>
  rw[hm] at hM;unfold fcl at hM;dsimp only at hM ⊢;have V:=jnA O hm;by_cases h2:(yo f).2.1≠0
  .have h2':¬ ((yo f).2.1:Int)=0:=om
   rw[if_pos h2];have e:zW (yo f).2=[.int .i64 ((yo f).2.1:Int),.int .i64 ((yo f).2.2.1:Int),.int .i64 ((yo f).2.2.2:Int)]:=rfl;rw[e] at hX;repeat' first|apply jb<;>intro _|simp(disch:=try exact dzG) only[hS,hM,hX,h2',Zo,Xk,uL,r12,δ,ε]
   exact Vg rfl rfl rfl
  rw[if_neg h2];have h2z:(yo f).2.1=0:=by simpa using h2
  have OX:=jmn h2z;have e2:(yo f).2=(0,0,0):=by
   unfold yo at h2z ⊢;by_cases c:(qu f).2.1≠0
   .rw[if_pos c] at h2z;exact absurd h2z c
   .rw[if_neg c] at h2z ⊢;cases hr:yC (qu f).1 0 with
    |er t=>rw[hr] at h2z;exact absurd h2z (λh=>by cases h)
    |ok x j=>
     rw[hr] at h2z;dsimp only at h2z ⊢;by_cases k5:(tk (qu f).1 j).kind=5
     .rw[if_pos k5]
     .rw[if_neg k5] at h2z;exact absurd h2z (λh=>by cases h)
  rw[e2,e0'] at hX;have hF:=jju hb m.1 V (yo f).1 OX;unfold jgo at hF;cases hr:yD m.1.vars m.1.enums true (yo f).1 2 [] with
  |er a b c=>
   have ha:¬ a=0:=QW hr;rw[hr] at hF;unfold fcl at hF;repeat' first|apply jb<;>intro _|simp(disch:=try exact dzG) only[hS,hM,hX,hF,ha,Zo,Xk,uL,r12,δ,ε]
   exact Vg rfl rfl rfl
  |ok y=>
   rw[hr] at hF;unfold fcl at hF
   (have zz:=aI @Xo @jnB;repeat' first|apply jb<;>intro _|simp(disch:=try exact jW) only[hS,hM,hX,hF,Zo,Xk,jvc,uL,Xo,jnB,r12,δ,ε])
   exact jlz rfl rfl rfl
theorem jvk (a b c d e f:Int):(eqF γ 20 45).run (.agg [.int .i64 a,.int .i64 b,.int .i64 c]) (.agg [.int .i64 d,.int .i64 e,.int .i64 f])=some (decide (a=d/\b=e/\c=f)):=by
 have h:(eqF γ 20 45).run (.agg [.int .i64 a,.int .i64 b,.int .i64 c]) (.agg [.int .i64 d,.int .i64 e,.int .i64 f])=cond (eqI a d) (cond (eqI b e) (cond (eqI c f) (some true) (some false)) (some false)) (some false):=Qa0
 rw[h,Yx,Yx,Yx];by_cases h1:a=d<;>by_cases h2:b=e<;>by_cases h3:c=f<;>simp[h1,h2,h3]
theorem fEq (a b c d e f:Int)(st:St)(K:AV->St->Prop):jq (XO γ .eql 45 false (.agg [.int .i64 a,.int .i64 b,.int .i64 c]) (.agg [.int .i64 d,.int .i64 e,.int .i64 f]) st) K=K (.bool (decide (a=d/\b=e/\c=f))) st:=by
 have h:XO γ .eql 45 false (.agg [.int .i64 a,.int .i64 b,.int .i64 c]) (.agg [.int .i64 d,.int .i64 e,.int .i64 f]) st=jT ((eqF γ 20 45).run (.agg [.int .i64 a,.int .i64 b,.int .i64 c]) (.agg [.int .i64 d,.int .i64 e,.int .i64 f])) λb=>.ok (.bool b) st:=Qa0
 rw[h,jvk];simp[jT,jq]
def ZJ (vars:List VarT):Prop:=∀ v∈vars,v.kind=2->v.enum=[]
theorem jgQ {enums:List EnumT}{d:DeclT}{v:VarT}(h:wt enums d=.ok v):v.kind=2->v.enum=[]:=by
 unfold wt at h;split at h
 .cases h;exact λ_=>rfl
 .split at h
  .cases h;intro h;cases h
  .split at h
   .cases h
   .split at h
    .cases h
    .split at h
     .cases h
     .cases h;intro h;cases h
theorem jhk {m:ModT}{ts:Lq}{d:DeclT}{b:MT}(hm:ZJ m.vars)(h:Q7 m ts d=.ok b):ZJ b.1.vars:=by
 unfold Q7 at h;split at h
 .cases h
 .split at h
  .cases h
  .rename_i v hk;unfold wA at h;split at h
   .cases h
   .rename_i u hu;unfold Ux at h;split at h
    .cases h
    .cases h;have hb:=H8 hu;intro w hw;rcases Qar.1 hw with hw|hw
     .exact hm w hw
     .simp only[Qaz] at hw;rw[hw,hb.2.2.1,hb.2.2.2.1];exact jgQ hk
theorem joU {src:SrcT}{m:MT}(h:zj src=.ok m):ZJ m.1.vars:=by
 unfold zj at h;split at h
 .cases h
 .rename_i b h1;have hb:ZJ b.1.vars:=Jo (n:=0) (P:=λ_ (c:MT)=>ZJ c.1.vars) (λk c x c' _ hc hr=>by rw[uv hr];exact hc) (λv hv=>by cases hv) h1;split at h
  .cases h
  .rename_i c h2;have hc:ZJ c.1.vars:=Jo (n:=0) (P:=λ_ (c:MT)=>ZJ c.1.vars) (λk c x c' _ hc hr=>jhk hc hr) hb h2;exact Jo (n:=0) (P:=λ_ (c:MT)=>ZJ c.1.vars) (λk c x c' _ hc hr=>by rw[(KO hr).1];exact hc) hc h
mutual
theorem jds {vars:List VarT}{enums:List EnumT}:∀ (fm:Bool) (x y:Ex) (m:MtT),ye vars enums fm x=.ok (y,m)->szE y<=szE x
 |fm,.mk op num name ks l c,y,m,h=>by
  rw[ye] at h;split at h
  .cases h;exact μ _
  .split at h
   .cases h;exact μ _
   .split at h
    .have hs:∀ o n l c,szE (.mk o n [] [] l c)<=szE (.mk op num name ks l c):=λo n l c=>by rw[Xw,Xw];simp[yP]
     unfold zi at h;split at h
     .cases h;exact hs _ _ _ _
     .split at h
      .cases h
      .cases h;exact hs _ _ _ _
    .split at h
     .cases h
     .rename_i r hr;have h2:=jaM _ _ r.1 r.2 hr;have e:∀ l' c',szE (.mk op num name r.1 l' c')<=szE (.mk op num name ks l c):=λl' c'=>by rw[Xw,Xw];omega
      unfold Ym at h;split at h
      .cases h
      .split at h
       .cases h;exact e _ _
       .split at h
        .cases h
        .cases h;exact e _ _
theorem jaM {vars:List VarT}{enums:List EnumT}:∀ (fm:Bool) (xs ys:List Ex) (ms:List MtT),qf vars enums fm xs=.ok (ys,ms)->yP ys<=yP xs
 |fm,[],ys,ms,h=>by rw[qf] at h;cases h;exact μ _
 |fm,x :: xs,ys,ms,h=>by
  rw[qf] at h;cases hx:ye vars enums fm x with
  |er a b d=>rw[hx] at h;cases h
  |ok y=>
   rw[hx] at h;cases hr:qf vars enums fm xs with
   |er a b d=>rw[hr] at h;cases h
   |ok r=>
    rw[hr] at h;cases h;have h1:=jds fm x y.1 y.2 hx;have h2:=jaM fm xs r.1 r.2 hr;simp only[yP];omega
end
theorem Y6 {α:Type}{f:α->Nat}:∀ {l:List α} {x:α},x∈l->f x<=(l.map f).sum
 |y :: l,x,h=>by
  rw[ζ,List.sum_cons];rcases QaJ.1 h with rfl|h
  .omega
  .have:=Y6 (f:=f) h;omega
theorem Y7 {α:Type}{f:α->Nat}(hf:∀ x,1<=f x):∀ l:List α,l.length<=(l.map f).sum
 |[]=>Qaa _
 |y :: l=>by
  rw[ζ,List.sum_cons,ξ];have:=Y7 hf l;have:=hf y;omega
theorem jlA {xs:List Ex}{x:Ex}(h:x∈xs):szE x<=yP xs:=by rw[<-Qk];exact Y6 h
theorem joo (xs:List Ex):xs.length<=yP xs:=by rw[<-Qk];exact Y7 Hl xs
theorem jqO {m:SrcT}(h:szS m<=1048576):WrS m:=by
 unfold szS at h;have hB:(1048576:Nat)<=BIG:=dc
 have l1:=Y7 (f:=szN) (λe=>by unfold szN;omega) m.enums;have l2:=Y7 (f:=szD) (λe=>by unfold szD;omega) m.vars;have l3:=Y7 (f:=szP) (λe=>by unfold szP;omega) m.procs;refine⟨om,λe he=>?_,om,λd hd=>?_,om,λp hp=>?_⟩
 .have h0:=Y6 (f:=szN) he;have e0:szN e=e.name.length+(e.vals.map szV).sum+1:=rfl;have lv:=Y7 (f:=szV) (λe=>by unfold szV;omega) e.vals;refine⟨om,om,λv hv=>?_⟩;have h1:=Y6 (f:=szV) hv;have e1:szV v=v.length+1:=rfl;omega
 .have h0:=Y6 (f:=szD) hd;have e0:szD d=d.name.length+d.ty.length+yP d.begins+1:=rfl;have:=joo d.begins;refine⟨om,om,om,λx hx=>?_⟩;have:=jlA hx;omega
 .have h0:=Y6 (f:=szP) hp;have e0:szP p=p.name.length+(p.rules.map szR).sum+1:=rfl;have lr:=Y7 (f:=szR) (λe=>by unfold szR;omega) p.rules;refine⟨om,om,λr hr=>?_⟩;have h1:=Y6 (f:=szR) hr;have e1:szR r=szE r.when+(r.acts.map szA).sum+1:=rfl;have la:=Y7 (f:=szA) (λe=>by unfold szA;omega) r.acts;refine⟨om,om,λa ha=>?_⟩;have h2:=Y6 (f:=szA) ha;have e2:szA a=a.name.length+szE a.to+1:=rfl;omega
section
variable {st:St} {K:AV->St->Prop}
theorem jni (a b c:AV):jq (HO 0 (.tup [a,b,c]) st) K=K a st:=nr rfl
theorem jnh (a b c:AV):jq (HO 1 (.tup [a,b,c]) st) K=K b st:=nr rfl
theorem jng (a b c:AV):jq (HO 2 (.tup [a,b,c]) st) K=K c st:=nr rfl
end
theorem jcS {l f:Lt}(h:(zp l f).c=0):VarsOK (zp l f).m.vars (zp l f).m.enums/\ZJ (zp l f).m.vars:=by
 unfold zp at h ⊢;by_cases h1:(yF l).2.1≠0
 .rw[if_pos h1] at h;exact absurd (show((yF l).2.1:Int)=0 from h) om
 .rw[if_neg h1] at h ⊢;have O:=jeW (l:=l) (by simpa using h1);cases hm:zj (yF l).1 with
  |er a b c=>
   rw[hm] at h;exact absurd h (vn hm)
  |ok m=>
   rw[hm] at h;dsimp only at h ⊢;by_cases h2:(yo f).2.1≠0
   .rw[if_pos h2] at h;exact absurd (show((yo f).2.1:Int)=0 from h) om
   .rw[if_neg h2] at h ⊢;cases hr:yD m.1.vars m.1.enums true (yo f).1 2 [] with
    |er a b c=>
     rw[hr] at h;exact absurd h (QW hr)
    |ok y=>exact⟨jnA O hm,joU hm⟩
mutual
def wkB:Ex->Bool
 |.mk op num _ ks _ _=>(decide (Qd op=(ks.length:Int)) && (decide (op≠2) ||decide (num=0) ||decide (num=1))) && Wo ks
def Wo:List Ex->Bool
 |[]=>true
 |x :: xs=>wkB x && Wo xs
end
def WkX (x:Ex):Prop:=wkB x=true/\szE x<=BIG
mutual
theorem jcN:∀ (d:Nat) (x:Ex),zg d x=true->wkB x=true
 |0,_,h=>by cases h
 |d+1,.mk op num name ks l c,h=>by
  rw[Vn] at h;simp only[χ,decide_eq_true_eq] at h;obtain⟨⟨⟨⟨h1,h2⟩,h3⟩,h4⟩,h5⟩:=h;have h1:(1:Int)<=op:=h1;have h2:op<31:=h2;have h3:(ks.length:Int)=if 5<=op/\op<=13 then 1 else if 14<=op/\op<31 then 2 else 0:=h3
  rw[wkB,χ,χ,decide_eq_true_eq];refine⟨⟨?_,?_⟩,jai d ks h5⟩
  .unfold Qd;rw[h3];repeat' split
   all_goals omega
  .by_cases ho:op=2
   .unfold uX at h4;rw[if_neg (show ¬ Ex.op (.mk op num name ks l c)=1 from by show ¬ op=1;omega),if_pos (show Ex.op (.mk op num name ks l c)=2 from ho)] at h4;simp only[χ,QaC,decide_eq_true_eq] at h4;have h6:num=0\/num=1:=h4.1;simp only[QaC,decide_eq_true_eq];omega
   .simp[ho]
theorem jai:∀ (d:Nat) (xs:List Ex),xs.all (zg d)=true->Wo xs=true
 |_,[],_=>rfl
 |d,x :: xs,h=>by
  rw[QaD,χ] at h;rw[Wo,jcN d x h.1,jai d xs h.2];rfl
end
theorem jlu {ts:List Tk}(W:Wds ts){i j:Nat}{x:Ex}(hi:i<ts.length)(h:yC ts i=.ok x j):szE x<=BIG:=by
 obtain⟨r,_,hr⟩:=evR W hi;rw[Uj hr] at h;obtain⟨N,hr⟩:=hr;have hz:=(kJ W N).1 _ _ _ _ (hr N (μ _)) hi;unfold Ui at h;cases r with
 |er t=>cases h
 |ok y k=>
  dsimp only at h;split at h
  .cases h;have h1:=hz.2.2;have h2:(j - i) * 65537<=1000000 * 65537:=Qav _ (by have:=W.len;have:=hz.2.1;omega);have h3:1000000 * 65537<=BIG:=dc
   exact ψ h1 (by rw[Qaj];exact ψ h2 h3)
  .cases h
theorem KG {ts:List Tk}(W:Wds ts){i j:Nat}{x:Ex}(hi:i<ts.length)(h:yC ts i=.ok x j):WkX x:=⟨jcN 60 x (ym W hi h).2.2.2,jlu W hi h⟩
def WkD (d:DeclT):Prop:=(∀ x∈d.begins,WkX x)/\d.begins.length<=1
def WkR (r:RuleT):Prop:=WkX r.when/\(∀ a∈r.acts,WkX a.to)/\r.acts.length<=1000000
def WkP (p:ProcT):Prop:=p.rules.length<=1000/\∀ r∈p.rules,WkR r
structure WkS (m:SrcT):Prop where
 begs:∀ d∈m.vars,WkD d
 rules:∀ p∈m.procs,WkP p
 ens:∀ e∈m.enums,0<e.vals.length/\e.vals.length<=32
theorem jeE:∀ {ts:List Tk} {n i j:Nat} {vs ws:Lq},vs.length<=32->XW ts n i vs=.ok ws j->vs.length<ws.length/\ws.length<=32
 |ts,0,i,j,vs,ws,hv,h=>by cases h
 |ts,n+1,i,j,vs,ws,hv,h=>by
  rw[XW] at h;split at h
  .split at h
   .cases h
   .split at h
    .have:=jeE hae h;simp at this;omega
    .split at h
     .cases h;simp;omega
     .cases h
  .cases h
theorem jn7 {ts:List Tk}{i j:Nat}{e:EnumT}(h:YR ts i=.ok e j):0<e.vals.length/\e.vals.length<=32:=by
 unfold YR at h;split at h
 .split at h
  .split at h
   .rename_i vs k hv;cases h;have:=jeE hac hv;dsimp only;omega
   .cases h
  .cases h
 .cases h
theorem jpX {ts:List Tk}(W:Wds ts){i j:Nat}{bs:List Ex}(hi:i<ts.length)(h:wX ts i=.ok bs j):(∀ x∈bs,WkX x)/\bs.length<=1:=by
 unfold wX at h;split at h
 .rename_i c;have hi1:=W.isM hi c;split at h
  .cases h
  .rename_i x k hx;split at h
   .cases h;exact⟨λy hy=>by simp at hy;rw[hy];exact KG W hi1 hx,by simp⟩
   .cases h
 .split at h
  .cases h;exact⟨(λy hy=>by cases hy),by simp⟩
  .cases h
theorem jn8 {ts:List Tk}(W:Wds ts){i j:Nat}{d:DeclT}(hi:i<ts.length)(h:YS ts i=.ok d j):WkD d:=by
 unfold YS at h;split at h
 .rename_i k1;have hi1:=W.next i hi om
  split at h
  .rename_i c1;have hi2:=W.isM hi1 c1;split at h
   .cases h
   .rename_i y k hy;have hk:=jcC W hi2 hy;split at h
    .cases h
    .rename_i bs k2 hb;cases h;obtain⟨c,d⟩:=jpX W hk.2 hb;exact⟨c,d⟩
  .cases h
 .cases h
theorem jeF {ts:List Tk}(W:Wds ts):∀ {n i j:Nat} {vs ws:List AsT},i<ts.length->(∀ a∈vs,WkX a.to)->vs.length<=32->Q9 ts n i vs=.ok ws j->(∀ a∈ws,WkX a.to)/\ws.length<=32
 |0,i,j,vs,ws,hi,hv,hl,h=>by cases h
 |n+1,i,j,vs,ws,hi,hv,hl,h=>by
  rw[Q9] at h;by_cases k1:(tk ts i).kind=1
  .simp only[if_pos k1] at h;have hi1:=W.next i hi om
   by_cases h32:32<=vs.length
   .simp only[if_pos h32] at h;cases h
   simp only[if_neg h32] at h;by_cases c1:isM (tk ts (i+1)) [[58,61]]=true
   .simp only[if_pos c1] at h;have hi2:=W.isM hi1 c1;cases h1:yC ts (i+2) with
    |er t=>rw[h1] at h;cases h
    |ok x k=>
     rw[h1] at h;dsimp only at h;have hj:=ym W hi2 h1;have hx:=KG W hi2 h1;have hv2:∀ l c nm,∀ a∈vs ++ [(⟨nm,x,l,c⟩:AsT)],WkX a.to:=λl c nm a ha=>by
      rcases Qar.1 ha with ha|ha
      .exact hv a ha
      .simp at ha;rw[ha];exact hx
     by_cases c2:isM (tk ts k) [[44]]=true
     .simp only[if_pos c2] at h;exact jeF W (W.isM hj.2.1 c2) (hv2 _ _ _) hae h
     .simp only[if_neg c2] at h;split at h
      .cases h;exact⟨hv2 _ _ _,by simp;omega⟩
      .cases h
   .simp only[if_neg c1] at h;cases h
  .simp only[if_neg k1] at h;cases h
theorem jn5 {ts:List Tk}(W:Wds ts){i j:Nat}{r:RuleT}(hi:i<ts.length)(h:X4 ts i=.ok r j):WkX r.when/\(∀ a∈r.acts,WkX a.to)/\r.acts.length<=1000000:=by
 unfold X4 at h;cases h1:yC ts i with
 |er t=>rw[h1] at h;cases h
 |ok x k=>
  rw[h1] at h;dsimp only at h;have hj:=ym W hi h1;by_cases c1:isM (tk ts k) [[100,111]]=true
  .simp only[if_pos c1] at h;cases h2:Q9 ts ts.length (k+1) [] with
   |er t=>rw[h2] at h;cases h
   |ok vs k2=>
    rw[h2] at h;cases h;have:=jeF (vs:=[]) W (W.isM hj.2.1 c1) (λa ha=>by cases ha) (Qaa _) h2;exact⟨KG W hi h1,this.1,by dsimp only;omega⟩
  .simp only[if_neg c1] at h;cases h
theorem jcg {ts:List Tk}(W:Wds ts):∀ {n i j:Nat} {vs ws:List RuleT},i<ts.length->(∀ r∈vs,WkX r.when/\(∀ a∈r.acts,WkX a.to)/\r.acts.length<=1000000)->vs.length<=32->QA ts n i vs=.ok ws j->(∀ r∈ws,WkX r.when/\(∀ a∈r.acts,WkX a.to)/\r.acts.length<=1000000)/\ws.length<=32
 |0,i,j,vs,ws,hi,hv,hl,h=>by cases h
 |n+1,i,j,vs,ws,hi,hv,hl,h=>by
  rw[QA] at h;by_cases c1:isM (tk ts i) [[119,104,101,110]]=true
  .simp only[if_pos c1] at h;have hi1:=W.isM hi c1;by_cases h32:32<=vs.length
   .simp only[if_pos h32] at h;cases h
   simp only[if_neg h32] at h;cases h1:X4 ts (i+1) with
   |er t=>rw[h1] at h;cases h
   |ok r k=>
    rw[h1] at h;dsimp only at h;refine jcg W (kM W hi1 h1).2 (λa ha=>?_) hae h;rcases Qar.1 ha with ha|ha
    .exact hv a ha
    .simp at ha;rw[ha];exact jn5 W hi1 h1
  .simp only[if_neg c1] at h;split at h
   .cases h;exact⟨hv,hl⟩
   .cases h
theorem jn6 {ts:List Tk}(W:Wds ts){i j:Nat}{p:ProcT}(hi:i<ts.length)(h:YF ts i=.ok p j):WkP p:=by
 unfold YF at h;split at h
 .rename_i k1;have hi1:=W.next i hi om
  split at h
  .rename_i c1;have hi2:=W.isM hi1 c1;split at h
   .rename_i vs k hv;cases h;have:=jcg (vs:=[]) W hi2 (λa ha=>by cases ha) (Qaa _) hv;exact⟨by dsimp only;omega,this.1⟩
   .cases h
  .cases h
 .cases h
theorem gk {ts:List Tk}(W:Wds ts):∀ {n i j:Nat} {m w:SrcT},i<ts.length->WkS m->m.enums.length<=32->m.vars.length<=32->m.procs.length<=32->Yj ts n i m=.ok w j->WkS w/\w.enums.length<=32/\w.vars.length<=32/\w.procs.length<=32
 |0,i,j,m,w,hi,hm,h1,h2,h3,h=>by cases h
 |n+1,i,j,m,w,hi,hm,h1,h2,h3,h=>by
  rw[Yj] at h;by_cases c:isM (tk ts i) [[101,110,117,109],[118,97,114],[112,114,111,99,101,115,115]]=true
  .simp only[if_pos c] at h;have hi1:=W.isM hi c;by_cases c1:(tk ts i).text=[101,110,117,109]
   .simp only[if_pos c1] at h;by_cases hr:32<=m.enums.length
    .simp only[if_pos hr] at h;cases h
    simp only[if_neg hr] at h;cases he:YR ts (i+1) with
    |er t=>rw[he] at h;cases h
    |ok e k=>
     rw[he] at h;refine gk (m:={ m with enums:=m.enums ++ [e] }) W (HV W hi1 he).2 ⟨hm.begs,hm.rules,λa ha=>?_⟩ hae h2 h3 h;rcases Qar.1 ha with ha|ha
     .exact hm.ens a ha
     .simp at ha;rw[ha];exact jn7 he
   simp only[if_neg c1] at h;by_cases c2:(tk ts i).text=[118,97,114]
   .simp only[if_pos c2] at h;by_cases hr:32<=m.vars.length
    .simp only[if_pos hr] at h;cases h
    simp only[if_neg hr] at h;cases he:YS ts (i+1) with
    |er t=>rw[he] at h;cases h
    |ok e k=>
     rw[he] at h;refine gk (m:={ m with vars:=m.vars ++ [e] }) W (HZ W hi1 he).2 ⟨λa ha=>?_,hm.rules,hm.ens⟩ h1 hae h3 h;rcases Qar.1 ha with ha|ha
     .exact hm.begs a ha
     .simp at ha;rw[ha];exact jn8 W hi1 he
   .simp only[if_neg c2] at h;by_cases hr:32<=m.procs.length
    .simp only[if_pos hr] at h;cases h
    simp only[if_neg hr] at h;cases he:YF ts (i+1) with
    |er t=>rw[he] at h;cases h
    |ok e k=>
     rw[he] at h;refine gk (m:={ m with procs:=m.procs ++ [e] }) W (Ht W hi1 he).2 ⟨hm.begs,λa ha=>?_,hm.ens⟩ h1 h2 hae h;rcases Qar.1 ha with ha|ha
     .exact hm.rules a ha
     .simp at ha;rw[ha];exact jn6 W hi1 he
  .simp only[if_neg c] at h;split at h
   .cases h;exact⟨hm,h1,h2,h3⟩
   .cases h
theorem jor {l:Lt}(h:(yF l).2.1=0):WkS (yF l).1/\(yF l).1.procs.length<=32:=by
 unfold yF at h ⊢;by_cases c:(qu l).2.1≠0
 .rw[if_pos c] at h;exact absurd h c
 .rw[if_neg c] at h ⊢;have c0:(qu l).2.1=0:=by simpa using c
  obtain⟨W,ne,_⟩:=U6 c0;cases hr:Yj (qu l).1 (qu l).1.length 0 Vk with
  |er t=>rw[hr] at h;exact absurd h (λh=>by cases h)
  |ok m j=>
   have:=gk W (Qbv.2 ne) ⟨(λa ha=>by cases ha),(λa ha=>by cases ha),(λa ha=>by cases ha)⟩ dc dc dc hr;exact⟨this.1,this.2.2.2⟩
section
def wq (n:Int):Int:=qQ .i64 n
def QM (p:Prop) [Decidable p]:Int:=if p then 1 else 0
def Hh (op a b:Int):Option Int:=
 if op=14 then some (wq (a * b)) else if op=15 then some (wq (a+b)) else if op=16 then some (wq (a - b))
 else if op=17\/op=30 then some (QM (a=b)) else if op=18 then some (QM (a≠b)) else if op=19 then some (QM (a<b))
 else if op=20\/op=29 then some (QM (a<=b)) else if op=21 then some (QM (b<a)) else if op=22 then some (QM (b<=a))
 else if op=27 then some (if a<=b then a else b) else if op=28 then some (if a<=b then b else a) else none
def opV (s:Lu)(op num:Int)(ns:Lu):Option Int:=
 if ns.length=0/\(op=1\/op=2) then some num
 else if ns.length=0/\op=4/\0<=num/\num<(s.length:Int) then some (s.getD num.toNat 0)
 else if ns.length=1/\op=5 then some (wq (-(ns.getD 0 0)))
 else if ns.length=1/\op=6 then some (wq (1 - ns.getD 0 0))
 else if ns.length=2 then Hh op (ns.getD 0 0) (ns.getD 1 0)
 else none
mutual
def yb (s:Lu):Ex->Option Int
 |.mk op num _ ks _ _=>match qE s ks with
  |none=>none
  |some ns=>opV s op num ns
def qE (s:Lu):List Ex->Option Lu
 |[]=>some []
 |x :: xs=>match yb s x with
  |none=>none
  |some n=>match qE s xs with
   |none=>none
   |some ns=>some (n :: ns)
end
def Xp (op a b:Int):Int:=
 if op=5 then wq (-a) else if op=14 then wq (a * b) else if op=15 then wq (a+b) else if op=16 then wq (a - b)
 else if op=6 then QM (a=0) else if op=17\/op=30 then QM (a=b) else if op=18 then QM (a≠b) else if op=19 then QM (a<b)
 else if op=20 then QM (a<=b) else if op=21 then QM (b<a) else if op=22 then QM (b<=a) else if op=27 then QM (a=1/\b=1)
 else if op=28 then QM (a=1\/b=1) else if op=29 then QM (a=0\/b=1) else 0
mutual
def zQ (s:Lu):Ex->Int
 |.mk op num _ ks _ _=>if op=4 then s.getD num.toNat 0 else if ks.length=0 then num else Xp op ((vh s ks).getD 0 0) ((vh s ks).getD (ks.length - 1) 0)
def vh (s:Lu):List Ex->Lu
 |[]=>[]
 |x :: xs=>zQ s x :: vh s xs
end
theorem Vi {s:Lu}:∀ {xs:List Ex} {ns:Lu},qE s xs=some ns->ns.length=xs.length
 |[],ns,h=>by simp only[qE] at h;cases h;rfl
 |x :: xs,ns,h=>by
  rw[qE] at h;cases h1:yb s x with
  |none=>rw[h1] at h;cases h
  |some n=>
   rw[h1] at h;cases h2:qE s xs with
   |none=>rw[h2] at h;cases h
   |some ms=>rw[h2] at h;cases h;simp[Vi h2]
def qa (vars:List VarT)(s:Lu):Bool:=decide (s.length=vars.length) && (Qae vars.length).all λi=>decide ((vars.getD i ⟨[],0,[],0,0,false,0⟩).lo<=s.getD i 0) && decide (s.getD i 0<=(vars.getD i ⟨[],0,[],0,0,false,0⟩).hi)
def XV (vars:List VarT):Prop:=∀ v∈vars,v.kind=2->v.lo=0/\v.hi=1
def Yc (n:Int):Prop:=n=0\/n=1
theorem vY (p:Prop) [Decidable p]:Yc (QM p):=by unfold QM Yc;split<;>simp
theorem jpi {part:Int}{ms:List MtT}(h:ki part ms≠true)(hp:0<part):∀ m∈ms,m.kind=part:=λm hm=>by
 have h:ki part ms=false:=by simpa using h
 unfold ki at h;rw[List.any_eq_false] at h;have:=h m hm;simp at this;exact this.1.1 hp
theorem jom {op a b n:Int}(h:Hh op a b=some n)(hb:(q9 op).1=2->Yc a/\Yc b):Xp op a b=n/\((q9 op).2=2->Yc n):=by
 have no:∀ {p:Prop} {q:Int},(q9 q).2=1->((q9 q).2=2->p):=λe h=>by rw[e] at h;exact absurd h dc
 unfold Hh at h;by_cases e:op=14
 .rw[if_pos e] at h;cases h;subst e;exact⟨by simp[Xp],no dc⟩
 rw[if_neg e] at h;clear e;by_cases e:op=15
 .rw[if_pos e] at h;cases h;subst e;exact⟨by simp[Xp],no dc⟩
 rw[if_neg e] at h;clear e;by_cases e:op=16
 .rw[if_pos e] at h;cases h;subst e;exact⟨by simp[Xp],no dc⟩
 rw[if_neg e] at h;clear e;by_cases e:op=17\/op=30
 .rw[if_pos e] at h;cases h;refine⟨?_,λ_=>vY _⟩;rcases e with e|e<;>(subst e;simp[Xp])
 rw[if_neg e] at h;clear e;by_cases e:op=18
 .rw[if_pos e] at h;cases h;subst e;exact⟨by simp[Xp],λ_=>vY _⟩
 rw[if_neg e] at h;clear e;by_cases e:op=19
 .rw[if_pos e] at h;cases h;subst e;exact⟨by simp[Xp],λ_=>vY _⟩
 rw[if_neg e] at h;clear e;by_cases e:op=20\/op=29
 .rw[if_pos e] at h;cases h;refine⟨?_,λ_=>vY _⟩;rcases e with e|e
  .subst e;simp[Xp]
  .subst e;obtain⟨ha,hc⟩:=hb dc;rcases ha with rfl|rfl<;>rcases hc with rfl|rfl<;>decide
 rw[if_neg e] at h;clear e;by_cases e:op=21
 .rw[if_pos e] at h;cases h;subst e;exact⟨by simp[Xp],λ_=>vY _⟩
 rw[if_neg e] at h;clear e;by_cases e:op=22
 .rw[if_pos e] at h;cases h;subst e;exact⟨by simp[Xp],λ_=>vY _⟩
 rw[if_neg e] at h;clear e;by_cases e:op=27
 .rw[if_pos e] at h;cases h;subst e;obtain⟨ha,hc⟩:=hb dc;rcases ha with rfl|rfl<;>rcases hc with rfl|rfl<;>exact⟨dc,λ_=>(by unfold Yc;decide)⟩
 rw[if_neg e] at h;clear e;by_cases e:op=28
 .rw[if_pos e] at h;cases h;subst e;obtain⟨ha,hc⟩:=hb dc;rcases ha with rfl|rfl<;>rcases hc with rfl|rfl<;>exact⟨dc,λ_=>(by unfold Yc;decide)⟩
 rw[if_neg e] at h;cases h
theorem ud {vars:List VarT}{s:Lu}(h:qa vars s=true):s.length=vars.length/\∀ i,i<vars.length->(vars.getD i ⟨[],0,[],0,0,false,0⟩).lo<=s.getD i 0/\s.getD i 0<=(vars.getD i ⟨[],0,[],0,0,false,0⟩).hi:=by
 unfold qa at h;rw[χ,decide_eq_true_eq,Qai] at h;refine⟨h.1,λi hi=>?_⟩;have:=h.2 i (Qbj.2 hi);simpa using this
mutual
theorem jaQ {vars:List VarT}{enums:List EnumT}(hv:XV vars){s:Lu}(hs:qa vars s=true):∀ (fm:Bool) (x y:Ex) (m:MtT),wkB x=true->ye vars enums fm x=.ok (y,m)->∀ n,yb s y=some n->zQ s y=n/\(m.kind=2->Yc n)
 |fm,.mk op num name ks l c,y,m,hx,h,n,hn=>by
  have hx0:=hx;rw[wkB] at hx0;simp only[χ,decide_eq_true_eq] at hx0;obtain⟨⟨hk,hleaf⟩,hks⟩:=hx0;have nk:(op=1\/op=2\/op=3\/op=4)->ks=[]:=λho=>by
   unfold Qd at hk;rw[if_pos om] at hk;exact QaX om
  rw[ye] at h;split at h
  .rename_i h1;cases h;subst h1;have e:=nk hac;subst e;simp only[yb,qE,opV] at hn;simp at hn;subst hn;exact⟨by simp[zQ],λh=>by simp at h⟩
  .split at h
   .rename_i h1;cases h;subst h1;have e:=nk hac;subst e;simp only[yb,qE,opV] at hn;simp at hn;subst hn;refine⟨by simp[zQ],λ_=>?_⟩;simp at hleaf;unfold Yc;omega
   .split at h
    .rename_i h1;subst h1;unfold zi at h;split at h
     .rename_i h2;cases h;have hlt:qc vars (Ex.mk 3 num name ks l c).name<(vars.length:Int):=ZA;have hlt2:(qc vars name).toNat<vars.length:=by
       have:qc vars name<(vars.length:Int):=hlt;have:(0:Int)<=qc vars name:=h2;omega
      obtain⟨r1,r2⟩:=ud hs;have r2:=r2 _ hlt2;simp only[yb,qE,opV] at hn;have hlt3:qc vars (Ex.mk 3 num name ks l c).name<(s.length:Int):=by rw[r1];exact hlt
      rw[if_neg hac,if_pos ⟨by simp,by simp,h2,hlt3⟩] at hn;cases hn;refine⟨by simp only[zQ,if_true],λhk2=>?_⟩;have hm:vars.getD (qc vars name).toNat ⟨[],0,[],0,0,false,0⟩∈vars:=by
       rw[Qak,Qaf hlt2];exact ω hlt2
      have:=hv _ hm hk2;show Yc (s.getD (qc vars name).toNat 0);unfold Yc;omega
     .split at h
      .cases h
      .cases h;simp only[yb,qE,opV] at hn;simp at hn;subst hn;exact⟨by simp[zQ],λh=>by simp at h⟩
    .rename_i n1 n2 n3;split at h
     .cases h
     .rename_i r hr;have K:=Gq (vars:=vars) (enums:=enums) hv hs _ ks r.1 r.2 hks hr;have kl:=Jn hr;unfold Ym at h;split at h
      .cases h
      .rename_i hbad;have hb0:r.2.length≠0:=λh=>hbad (.inl h);have hbm:ki (q9 op).1 r.2≠true:=λh=>hbad (.inr (.inr (.inr h)));have hy:y=.mk op num name r.1 l c/\m.kind=(q9 op).2:=by
        split at h
        .cases h;exact⟨rfl,rfl⟩
        .split at h
         .cases h
         .cases h;exact⟨rfl,rfl⟩
       obtain⟨rfl,hm⟩:=hy;rw[hm];rw[yb] at hn;cases hns:qE s r.1 with
       |none=>rw[hns] at hn;cases hn
       |some ns=>
        rw[hns] at hn;obtain⟨k1,k2⟩:=K ns hns;have hl:=Vi hns;have ho:op≠4:=λe=>by
         have:=nk (by simp[e]);rw[this] at kl;exact hb0 (by simpa using kl.2)
        have hp:0<(q9 op).1->∀ i,i<r.2.length->(r.2.getD i mt0).kind=(q9 op).1:=λh0 i hi=>by
         refine jpi hbm h0 _ ?_;rw[Qak,Qaf hi];exact ω hi
        have hr:zQ s (.mk op num name r.1 l c)=Xp op (ns.getD 0 0) (ns.getD (r.1.length - 1) 0):=by
         rw[zQ,if_neg ho,if_neg om,k1]
        rw[hr];unfold opV at hn;dsimp only at hn;rw[if_neg om,if_neg om] at hn;split at hn
        .rename_i e;cases hn;obtain⟨e1,rfl⟩:=e;exact⟨rfl,λh=>absurd h dc⟩
        .split at hn
         .rename_i e;cases hn;obtain⟨e1,rfl⟩:=e;have:=k2 0 om (by rw[hp dc 0 om];decide);rw[show r.1.length - 1=0 by omega];rcases this with e|e<;>rw[e]<;>exact⟨rfl,λ_=>by unfold Yc;decide⟩
         .split at hn
          .rename_i e;rw[show r.1.length - 1=1 by omega];exact jom hn λh2=>⟨k2 0 om (by rw[hp om 0 om,h2]),k2 1 om (by rw[hp om 1 om,h2])⟩
          .cases hn
theorem Gq {vars:List VarT}{enums:List EnumT}(hv:XV vars){s:Lu}(hs:qa vars s=true):∀ (fm:Bool) (xs ys:List Ex) (ms:List MtT),Wo xs=true->qf vars enums fm xs=.ok (ys,ms)->∀ ns,qE s ys=some ns->vh s ys=ns/\∀ i,i<ms.length->(ms.getD i mt0).kind=2->Yc (ns.getD i 0)
 |fm,[],ys,ms,hx,h,ns,hn=>by
  rw[qf] at h;cases h;simp only[qE] at hn;cases hn;exact⟨rfl,λi hi=>absurd hi hac⟩
 |fm,x :: xs,ys,ms,hx,h,ns,hn=>by
  rw[Wo,χ] at hx;rw[qf] at h;split at h
  .cases h
  .rename_i y hy;split at h
   .cases h
   .rename_i r hr;cases h;rw[qE] at hn;cases h1:yb s y.1 with
    |none=>rw[h1] at hn;cases hn
    |some n=>
     rw[h1] at hn;cases h2:qE s r.1 with
     |none=>rw[h2] at hn;cases hn
     |some ns'=>
      rw[h2] at hn;cases hn;have A:=jaQ (vars:=vars) (enums:=enums) hv hs fm x y.1 y.2 hx.1 hy n h1;have B:=Gq (vars:=vars) (enums:=enums) hv hs fm xs r.1 r.2 hx.2 hr ns' h2;refine⟨by rw[vh,A.1,B.1],λi hi hk=>?_⟩;cases i with
      |zero=>exact A.2 hk
      |succ i=>exact B.2 i (by simpa using hi) hk
end
mutual
def YG (n:Int):Ex->Bool
 |.mk op num _ ks _ _=>(!(decide (op=3) ||(decide (op=4) && (decide (num<0) ||decide (n<=num))))) && XA n ks
def XA (n:Int):List Ex->Bool
 |[]=>true
 |x :: xs=>YG n x && XA n xs
end
theorem jlY (n:Int)(x:Ex):YG n x=((!(decide (x.op=3) ||(decide (x.op=4) && (decide (x.num<0) ||decide (n<=x.num))))) && XA n x.kids):=by cases x;rw[YG];rfl
theorem hZ (n:Int):∀ xs,XA n xs=xs.all (YG n)
 |[]=>rfl
 |x :: xs=>by rw[XA,hZ n xs];rfl
mutual
theorem jdt {vars:List VarT}{enums:List EnumT}:∀ (fm:Bool) (x y:Ex) (m:MtT),wkB x=true->ye vars enums fm x=.ok (y,m)->YG vars.length y=true
 |fm,.mk op num name ks l c,y,m,hx,h=>by
  rw[wkB] at hx;simp only[χ,decide_eq_true_eq] at hx;obtain⟨⟨hk,_⟩,hks⟩:=hx;have nk:(op=1\/op=2\/op=3\/op=4)->ks=[]:=λho=>by
   unfold Qd at hk;rw[if_pos om] at hk;exact QaX om
  rw[ye] at h;split at h
  .rename_i h1;cases h;rw[nk om];simp[YG,XA,h1]
  .split at h
   .rename_i h1;cases h;rw[nk om];simp[YG,XA,h1]
   .split at h
    .rename_i h1;unfold zi at h;split at h
     .rename_i h2;cases h;have hlt:qc vars (Ex.mk op num name ks l c).name<(vars.length:Int):=ZA;simp only[YG,XA,Bool.and_true,QaQ,QbN,Qcb,decide_eq_false_iff_not];omega
     .split at h
      .cases h
      .cases h;simp[YG,XA]
    .rename_i n1 n2 n3;split at h
     .cases h
     .rename_i r hr;have K:=jaO (vars:=vars) (enums:=enums) _ ks r.1 r.2 hks hr;have kl:=Jn hr;unfold Ym at h;split at h
      .cases h
      .rename_i hbad;have hb0:r.2.length≠0:=λh=>hbad (.inl h);have ho:op≠4:=λe=>by
        have:=nk (by simp[e]);rw[this] at kl;exact hb0 (by simpa using kl.2)
       have hy:y=.mk op num name r.1 l c:=by
        split at h
        .cases h;rfl
        .split at h
         .cases h
         .cases h;rfl
       subst hy;rw[YG,K];simp[n3,ho]
theorem jaO {vars:List VarT}{enums:List EnumT}:∀ (fm:Bool) (xs ys:List Ex) (ms:List MtT),Wo xs=true->qf vars enums fm xs=.ok (ys,ms)->XA vars.length ys=true
 |fm,[],ys,ms,hx,h=>by rw[qf] at h;cases h;rfl
 |fm,x :: xs,ys,ms,hx,h=>by
  rw[Wo,χ] at hx;rw[qf] at h;split at h
  .cases h
  .rename_i y hy;split at h
   .cases h
   .rename_i r hr;cases h;rw[XA,jdt (vars:=vars) (enums:=enums) fm x y.1 y.2 hx.1 hy,jaO (vars:=vars) (enums:=enums) fm xs r.1 r.2 hx.2 hr];rfl
end
end
section
theorem jon {op a b:Int}(h1:14<=op)(h2:op<=30)(h3:¬ (23<=op/\op<=26)):∃ n,Hh op a b=some n:=by
 have hop2:op=14\/op=15\/op=16\/op=17\/op=18\/op=19\/op=20\/op=21\/op=22\/op=27\/op=28\/op=29\/op=30:=om
 rcases hop2 with h|h|h|h|h|h|h|h|h|h|h|h|h<;>(subst h;exact⟨_,rfl⟩)
theorem joY {op:Int}{n:Nat}(h:Qd op=(n:Int))(h0:n≠0)(h2:¬ 2<n)(ht:Zk op=false):(n=1/\(op=5\/op=6))\/(n=2/\14<=op/\op<=30/\¬ (23<=op/\op<=26)):=by
 unfold Zk at ht;simp at ht;unfold Qd at h;repeat' split at h
 all_goals omega
mutual
theorem jaR {vars:List VarT}{enums:List EnumT}{s:Lu}(hs:qa vars s=true):∀ (x y:Ex) (m:MtT),wkB x=true->ye vars enums false x=.ok (y,m)->∃ n,yb s y=some n
 |.mk op num name ks l c,y,m,hx,h=>by
  have hx0:=hx;rw[wkB] at hx0;simp only[χ,decide_eq_true_eq] at hx0;obtain⟨⟨hk,_⟩,hks⟩:=hx0;have nk:(op=1\/op=2\/op=3\/op=4)->ks=[]:=λho=>by
   unfold Qd at hk;rw[if_pos om] at hk;exact QaX om
  rw[ye] at h;split at h
  .rename_i h1;cases h;have e:=nk (.inl h1);subst e h1;exact⟨num,by simp[yb,qE,opV]⟩
  .split at h
   .rename_i h1;cases h;have e:=nk (.inr (.inl h1));subst e h1;exact⟨num,by simp[yb,qE,opV]⟩
   .split at h
    .rename_i h1;subst h1;unfold zi at h;split at h
     .rename_i h2;cases h;have hlt:qc vars (Ex.mk 3 num name ks l c).name<(vars.length:Int):=ZA;obtain⟨r1,_⟩:=ud hs;refine⟨s.getD (qc vars name).toNat 0,?_⟩;simp only[yb,qE,opV];have hlt3:qc vars (Ex.mk 3 num name ks l c).name<(s.length:Int):=by rw[r1];exact hlt
      rw[if_neg hac,if_pos ⟨by simp,by simp,h2,hlt3⟩];rfl
     .split at h
      .cases h
      .cases h;exact⟨(zx enums (Ex.mk 3 num name ks l c).name).2,by simp[yb,qE,opV]⟩
    .rename_i n1 n2 n3;split at h
     .cases h
     .rename_i r hr;have hr:qf vars enums false ks=.ok (r.1,r.2):=hr;obtain⟨ns,hns⟩:=Gr hs ks r.1 r.2 hks hr;have kl:=Jn hr;have hl:=Vi hns;unfold Ym at h;split at h
      .cases h
      .rename_i hbad;have hy:y=.mk op num name r.1 l c:=by
        split at h
        .cases h;rfl
        .split at h
         .cases h
         .cases h;rfl
       subst hy;have ht:Zk op=false:=by
        cases ht:Zk op with
        |false=>rfl
        |true=>exact absurd (.inr (.inr (.inl ⟨ht,rfl⟩))) hbad
       have hb0:r.2.length≠0:=λh=>hbad (.inl h);have hb2:¬ 2<r.2.length:=λh=>hbad (.inr (.inl h));clear h hbad;have K:=joY hk om om ht;rw[yb,hns];show ∃ n,opV s op num ns=some n;unfold opV;rw[if_neg om,if_neg om];rcases K with ⟨h1,h5|h5⟩|⟨h2,h3,h4,h5⟩
       .exact⟨_,if_pos ⟨om,h5⟩⟩
       .rw[if_neg om,if_pos ⟨om,h5⟩];exact⟨_,rfl⟩
       .rw[if_neg om,if_neg om,if_pos om];exact jon h3 h4 h5
theorem Gr {vars:List VarT}{enums:List EnumT}{s:Lu}(hs:qa vars s=true):∀ (xs ys:List Ex) (ms:List MtT),Wo xs=true->qf vars enums false xs=.ok (ys,ms)->∃ ns,qE s ys=some ns
 |[],ys,ms,hx,h=>by rw[qf] at h;cases h;exact⟨[],rfl⟩
 |x :: xs,ys,ms,hx,h=>by
  rw[Wo,χ] at hx;rw[qf] at h;split at h
  .cases h
  .rename_i y hy;split at h
   .cases h
   .rename_i r hr;cases h;obtain⟨n,e1⟩:=jaR hs x y.1 y.2 hx.1 hy;obtain⟨ns,e2⟩:=Gr hs xs r.1 r.2 hx.2 hr;exact⟨n :: ns,by rw[qE,e1,e2]⟩
end
def OfK (vars:List VarT)(enums:List EnumT)(y:Ex):Prop:=∃ (x:Ex) (m:MtT),WkX x/\ye vars enums false x=.ok (y,m)
theorem jeR {vars:List VarT}{enums:List EnumT}{x y:Ex}{w:Int}{en:Lt}(hr:WkX x)(h:yD vars enums false x w en=.ok y):OfK vars enums y:=by
 unfold yD at h;split at h
 .cases h
 .rename_i r hk;split at h
  .cases h
  .cases h;exact⟨x,r.2,hr,hk⟩
theorem OfK.val {vars:List VarT}{enums:List EnumT}{y:Ex}(k:OfK vars enums y)(hv:XV vars){s:Lu}(hs:qa vars s=true){n:Int}(h:yb s y=some n):zQ s y=n:=by
 obtain⟨x,m,hr,hk⟩:=k;exact(jaQ hv hs false x y m hr.1 hk n h).1
theorem OfK.som {vars:List VarT}{enums:List EnumT}{y:Ex}(k:OfK vars enums y){s:Lu}(hs:qa vars s=true):∃ n,yb s y=some n:=by
 obtain⟨x,m,hr,hk⟩:=k;exact jaR hs x y m hr.1 hk
theorem OfK.numb {vars:List VarT}{enums:List EnumT}{y:Ex}(k:OfK vars enums y):YG vars.length y=true:=by
 obtain⟨x,m,hr,hk⟩:=k;exact jdt false x y m hr.1 hk
theorem OfK.sz {vars:List VarT}{enums:List EnumT}{y:Ex}(k:OfK vars enums y):szE y<=BIG:=by
 obtain⟨x,m,hr,hk⟩:=k;exact ψ (jds false x y m hk) hr.2
structure MoveK (vars:List VarT)(enums:List EnumT)(m:MoveT):Prop where
 when:OfK vars enums m.when
 len:m.acts.length<=1000000
 acts:∀ a∈m.acts,0<=a.var/\a.var<(vars.length:Int)/\OfK vars enums a.to
 nd:(m.acts.map (·.var)).Nodup
theorem jbY {α:Type}{q:α->Bool}:∀ {xs:List α},0<=fi q xs->∃ h:(fi q xs).toNat<xs.length,q xs[(fi q xs).toNat]=true
 |[],h=>by simp[fi] at h
 |x :: xs,h=>by
  by_cases hq:q x=true
  .have e:fi q (x :: xs)=0:=by rw[fi,if_pos hq]
   simp only[e];exact⟨by simp,by simpa using hq⟩
  .by_cases h0:fi q xs<0
   .rw[fi,if_neg hq,if_pos h0] at h;exact absurd h dc
   .obtain⟨h1,h2⟩:=jbY (q:=q) (xs:=xs) om;have e:(fi q (x :: xs)).toNat=(fi q xs).toNat+1:=by rw[fi,if_neg hq,if_neg h0];omega
    simp only[e];exact⟨by simpa using h1,by simpa using h2⟩
theorem job {vars:List VarT}{n n':Lt}(h:0<=qc vars n)(e:qc vars n=qc vars n'):n=n':=by
 obtain⟨h1,h2⟩:=jbY h;obtain⟨h3,h4⟩:=jbY (e▸h);have e':(fi (λx:VarT=>decide (x.name=n)) vars).toNat=(fi (λx:VarT=>decide (x.name=n')) vars).toNat:=congrArg Int.toNat e;have h2:=of_decide_eq_true h2;have h4:=of_decide_eq_true h4;simp only[e'] at h2;rw[<-h2,h4]
theorem jit {vars:List VarT}{enums:List EnumT}:∀ {l:List AsT} {acc:List SetT} {done:List AsT} {ss:List SetT},(∀ a∈l,WkX a.to)->QZ vars enums acc done l=.ok ss->(∀ a∈acc,0<=a.var/\a.var<(vars.length:Int)/\OfK vars enums a.to)->acc.map (·.var)=done.map (λa=>qc vars a.name)->(acc.map (·.var)).Nodup->(∀ a∈ss,0<=a.var/\a.var<(vars.length:Int)/\OfK vars enums a.to)/\ss.length=acc.length+l.length/\(ss.map (·.var)).Nodup
 |[],acc,done,ss,hr,h,ha,hd,hn=>by rw[QZ] at h;cases h;exact⟨ha,rfl,hn⟩
 |a :: l,acc,done,ss,hr,h,ha,hd,hn=>by
  rw[QZ] at h;split at h
  .cases h
  .rename_i hv;split at h
   .cases h
   .rename_i n0;split at h
    .cases h
    .rename_i y hy;have N:=jeR (hr a hac) hy;have hlt:=(ZA:qc vars a.name<(vars.length:Int));have R:=jit (λb hb=>hr b (by simp[hb])) h (λb hb=>by
      rcases Qar.1 hb with hb|hb
      .exact ha b hb
      .simp at hb;rw[hb];exact⟨by dsimp only;omega,hlt,N⟩) (by rw[QaU,QaU,hd];rfl) (by
      rw[QaU,QbJ];refine⟨hn,by simp,λu hu v hv2=>?_⟩;simp only[ζ,η,Qaz] at hv2;subst hv2;rw[hd] at hu;obtain⟨b,hb,e⟩:=QaF.1 hu;intro e2;have e3:qc vars b.name=qc vars a.name:=e.trans e2;have e4:=job om e3;have:=jbX (λx:AsT=>decide (x.name=a.name)) done;rw[decide_eq_false n0] at this;have h5:=this.symm;rw[List.any_eq_false] at h5;exact h5 b hb (decide_eq_true e4))
     exact⟨R.1,by rw[R.2.1];simp;omega,R.2.2⟩
theorem jrr {m:ModT}{ts:Lq}{r:RuleT}{b:MT}(hq:WkR r)(h:X5 m ts r=.ok b)(hm:∀ v∈m.moves,MoveK m.vars m.enums v):b.1.vars=m.vars/\b.1.enums=m.enums/\(∀ v∈b.1.moves,MoveK m.vars m.enums v)/\b.1.moves.length=m.moves.length+1:=by
 obtain⟨hw,hr,hn⟩:=hq;unfold X5 at h;split at h
 .cases h
 .rename_i w hw';split at h
  .cases h
  .rename_i ss hs;cases h;refine⟨rfl,rfl,λv hv=>?_,by simp⟩;rcases Qar.1 hv with hv|hv
   .exact hm v hv
   .simp only[Qaz] at hv;subst hv;have S:=jit (acc:=[]) (done:=[]) hr hs (λa ha=>by cases ha) rfl hac;exact⟨jeR hw hw',by dsimp only;rw[S.2.1];simp;omega,S.1,S.2.2⟩
theorem je0:∀ {l:List RuleT} {b c:MT},(∀ r∈l,WkR r)->yn (λb r=>X5 b.1 b.2 r) b l=.ok c->(∀ v∈b.1.moves,MoveK b.1.vars b.1.enums v)->c.1.vars=b.1.vars/\c.1.enums=b.1.enums/\(∀ v∈c.1.moves,MoveK b.1.vars b.1.enums v)/\c.1.moves.length=b.1.moves.length+l.length
 |[],b,c,hr,h,hm=>by rw[yn] at h;cases h;exact⟨rfl,rfl,hm,rfl⟩
 |r :: l,b,c,hr,h,hm=>by
  rw[yn] at h;split at h
  .cases h
  .rename_i b' hb';obtain⟨e1,e2,e3,e4⟩:=jrr (hr r hac) hb' hm;have:=je0 (b:=b') (λq hq=>hr q (by simp[hq])) h (by rw[e1,e2];exact e3);rw[e1,e2,e4] at this;exact⟨this.1,this.2.1,this.2.2.1,by rw[this.2.2.2];simp;omega⟩
theorem je8:∀ {l:List ProcT} {b c:MT},(∀ p∈l,p.rules.length<=1000/\∀ r∈p.rules,WkR r)->yn Zs b l=.ok c->(∀ v∈b.1.moves,MoveK b.1.vars b.1.enums v)->c.1.vars=b.1.vars/\c.1.enums=b.1.enums/\(∀ v∈c.1.moves,MoveK b.1.vars b.1.enums v)/\c.1.moves.length<=b.1.moves.length+1000 * l.length
 |[],b,c,hr,h,hm=>by rw[yn] at h;cases h;exact⟨rfl,rfl,hm,by simp⟩
 |p :: l,b,c,hr,h,hm=>by
  rw[yn] at h;split at h
  .cases h
  .rename_i b' hb';unfold Zs at hb';split at hb'
   .cases hb'
   .rename_i ts' _;obtain⟨e1,e2,e3,e4⟩:=je0 (b:=(b.1,ts')) (hr p hac).2 hb' hm;have h1000:=(hr p hac).1;have:=je8 (b:=b') (λq hq=>hr q (by simp[hq])) h (by rw[e1,e2];exact e3);rw[e1,e2,e4] at this;exact⟨this.1,this.2.1,this.2.2.1,by have:=this.2.2.2;dsimp only at this;simp only[ξ];omega⟩
end
section
def VB (v:VarT):Prop:=v.lo<=v.hi/\v.hi - v.lo<=1023
def JB (vars:List VarT):Nat:=vars.foldl (λn v=>n * (v.hi - v.lo+1).toNat) 1
structure SB (vars:List VarT):Prop where
 vb:∀ v∈vars,VB v
 cnt:vars.foldl stW 1=(JB vars:Int)
 le:JB vars<=281474976710656
theorem SB.nil:SB []:=⟨(λv h=>by cases h),rfl,dc⟩
theorem jcB {x:Int}(h1:0<=x)(h2:x<18446744073709551616):qQ .u64 x=x:=by
 rw[JU];show x % 18446744073709551616=x;omega
theorem jol (a b:Int)(h1:0<=a - b)(h2:a - b<18446744073709551616):qQ .u64 (qQ .u64 a - qQ .u64 b)=a - b:=by
 rw[JU,JU,JU];show(a % 18446744073709551616 - b % 18446744073709551616) % 18446744073709551616=a - b;omega
theorem jrb {n:Nat}{v:VarT}(hn:n<=281474976710656)(h:VB v):stW (n:Int) v=((n * (v.hi - v.lo+1).toNat:Nat):Int):=by
 obtain⟨h1,h2⟩:=h;unfold stW;rw[jol _ _ om om,jcB (x:=v.hi - v.lo+1) om om];obtain⟨r,hr⟩:∃ r:Nat,v.hi - v.lo+1=(r:Int):=⟨(v.hi - v.lo+1).toNat,om⟩;rw[hr];have h3:r<=1024:=om
 have h4:n * r<=281474976710656 * 1024:=Nat.mul_le_mul hn h3;rw[Qcl,<-Int.natCast_mul,jcB om om]
theorem SB.snoc {vars:List VarT}{v:VarT}(h:SB vars)(hv:VB v)(hs:JP (vars ++ [v])<=281474976710656):SB (vars ++ [v]):=by
 have e:(vars ++ [v]).foldl stW 1=(JB (vars ++ [v]):Int):=by
  rw[Qba,h.cnt,QbC,List.foldl_nil,jrb h.le hv];unfold JB;rw[Qba];rfl
 refine⟨λu hu=>?_,e,?_⟩
 .rcases Qar.1 hu with hu|hu
  .exact h.vb u hu
  .simp at hu;rw[hu];exact hv
 .unfold JP at hs;rw[e] at hs;have h4:JB (vars ++ [v])<=281474976710656 * 1024:=by
   unfold JB;rw[Qba];exact Nat.mul_le_mul h.le (by have:=hv.1;have:=hv.2;omega)
  rw[XN om om] at hs;omega
theorem SB.states {vars:List VarT}(h:SB vars):JP vars=(JB vars:Int):=by
 unfold JP;have:=h.le;rw[h.cnt,XN om om]
theorem jsr {m:ModT}{ts:Lq}{d:DeclT}{b:MT}(hd:d.begins.length<=1)(he:∀ e∈m.enums,0<e.vals.length/\e.vals.length<=32)(h:Q7 m ts d=.ok b):∃ v,b.1={ m with vars:=m.vars ++ [v] }/\(v.kind=2->v.lo=0/\v.hi=1)/\VB v/\JP (m.vars ++ [v])<=281474976710656:=by
 unfold Q7 at h;split at h
 .cases h
 .split at h
  .cases h
  .rename_i v hk;have kv:(v.kind=2->v.lo=0/\v.hi=1)/\VB v:=by
    unfold wt at hk;split at hk
    .cases hk;exact⟨λ_=>⟨rfl,rfl⟩,by unfold VB;dsimp only;omega⟩
    .split at hk
     .rename_i h0;cases hk;refine⟨λh=>by simp at h,?_⟩;have hx:0<(m.enums.getD (JJ m.enums d.ty).toNat en0).vals.length/\(m.enums.getD (JJ m.enums d.ty).toNat en0).vals.length<=32:=by
       obtain⟨h1,_⟩:=jbY h0;have:=he _ (ω h1);unfold JJ;rw[Qak,Qaf h1];exact this
      show(0:Int)<=((m.enums.getD (JJ m.enums d.ty).toNat en0).vals.length:Int) - 1/\((m.enums.getD (JJ m.enums d.ty).toNat en0).vals.length:Int) - 1 - 0<=1023;omega
     .split at hk
      .cases hk
      .split at hk
       .cases hk
       .split at hk
        .cases hk
        .cases hk;exact⟨λh=>by simp at h,by unfold VB;dsimp only;omega⟩
   unfold wA at h;split at h
   .cases h
   .rename_i u hu;unfold Ux at h;split at h
    .cases h
    .rename_i hst;cases h;refine⟨u,rfl,?_⟩;have hst:JP (m.vars ++ [u])<=281474976710656:=om
     cases hb:d.begins with
     |nil=>rw[hb,Ji] at hu;cases hu;exact⟨kv.1,kv.2,hst⟩
     |cons x xs=>
      rw[hb] at hd;cases xs with
      |cons y ys=>simp at hd
      |nil=>
       rw[hb,Ji] at hu;split at hu
       .cases hu
       .split at hu
        .cases hu
        .split at hu
         .cases hu
         .rw[Ji] at hu;cases hu;exact⟨kv.1,kv.2,hst⟩
theorem jfH:∀ {l:List DeclT} {b c:MT},(∀ d∈l,d.begins.length<=1)->(∀ e∈b.1.enums,0<e.vals.length/\e.vals.length<=32)->yn (λb e=>Q7 b.1 b.2 e) b l=.ok c->XV b.1.vars->SB b.1.vars->XV c.1.vars/\c.1.moves=b.1.moves/\SB c.1.vars
 |[],b,c,hd,he,h,hv,hs=>by rw[yn] at h;cases h;exact⟨hv,rfl,hs⟩
 |d :: l,b,c,hd,he,h,hv,hs=>by
  rw[yn] at h;split at h
  .cases h
  .rename_i b' hb';obtain⟨v,e,hk,h1,h2⟩:=jsr (hd d hac) he hb';have:=jfH (b:=b') (λd hd'=>hd d (by simp[hd'])) (by rw[e];exact he) h (by
    rw[e];intro u hu;rcases Qar.1 hu with hu|hu
    .exact hv u hu
    .simp at hu;rw[hu];exact hk) (by rw[e];exact hs.snoc h1 h2)
   exact⟨this.1,by rw[this.2.1,e],this.2.2⟩
theorem jfC:∀ {l:List EnumT} {b c:MT},(∀ e∈l,0<e.vals.length/\e.vals.length<=32)->(∀ e∈b.1.enums,0<e.vals.length/\e.vals.length<=32)->yn (λb e=>vC b.1 b.2 e) b l=.ok c->c.1.vars=b.1.vars/\c.1.moves=b.1.moves/\∀ e∈c.1.enums,0<e.vals.length/\e.vals.length<=32
 |[],b,c,hl,he,h=>by rw[yn] at h;cases h;exact⟨rfl,rfl,he⟩
 |e :: l,b,c,hl,he,h=>by
  rw[yn] at h;split at h
  .cases h
  .rename_i b' hb';have e1:=uv hb';have:=jfC (b:=b') (λx hx=>hl x (by simp[hx])) (by
    rw[e1];intro x hx;rcases Qar.1 hx with hx|hx
    .exact he x hx
    .simp at hx;rw[hx];exact hl e hac) h
   rw[e1] at this;exact this
structure ModK (m:ModT):Prop where
 vars:XV m.vars
 moves:∀ v∈m.moves,MoveK m.vars m.enums v
 len:m.moves.length<=100000
 sb:SB m.vars
theorem joQ {s:SrcT}{c:MT}(hb:∀ d∈s.vars,d.begins.length<=1)(hr:∀ p∈s.procs,p.rules.length<=1000/\∀ r∈p.rules,WkR r)(hp:s.procs.length<=100)(he:∀ e∈s.enums,0<e.vals.length/\e.vals.length<=32)(h:zj s=.ok c):ModK c.1:=by
 unfold zj at h;split at h
 .cases h
 .rename_i b h1;obtain⟨E2,E3,E4⟩:=jfC he (λe h=>by cases h) h1;split at h
  .cases h
  .rename_i b2 h2;have v0:b.1.vars=[]:=E2;have m0:b.1.moves=[]:=E3;obtain⟨d1,d2,d3⟩:=jfH hb E4 h2 (by rw[v0];intro v hv;cases hv) (by rw[v0];exact SB.nil);have m2:b2.1.moves=[]:=by rw[d2,m0]
   obtain⟨f1,f2,f3,f4⟩:=je8 (b:=b2) hr h (by rw[m2];intro v hv;cases hv);rw[m2] at f4;exact⟨by rw[f1];exact d1,by rw[f1,f2];exact f3,by simp only[φ] at f4;omega,by rw[f1];exact d3⟩
end
section
def wb (s:Lu):List SetT->Lu->Option Lu
 |[],out=>some out
 |a :: l,out=>match yb s a.to with
  |none=>none
  |some n=>if a.var<0\/(s.length:Int)<=a.var then none else wb s l (out.set a.var.toNat n)
def Jx (vars:List VarT)(mv:MoveT)(s:Lu):Lu×Bool:=
 if yb s mv.when=some 1 then(match wb s mv.acts s with
  |none=>([],false)
  |some t=>(t,qa vars t)) else([],false)
def zV (vars:List VarT)(s:Lu):List MoveT->List Lu->List Lu
 |[],out=>out
 |mv :: l,out=>zV vars s l (if(Jx vars mv s).2=true/\(Jx vars mv s).1∉out then out ++ [(Jx vars mv s).1] else out)
def yw (m:ModT)(s:Lu):List Lu:=
 if qa m.vars s=true then(if(zV m.vars s m.moves []).length=0 then [s] else zV m.vars s m.moves []) else []
def Jk (s:Lu):List SetT->Lu->Lu
 |[],out=>out
 |a :: l,out=>Jk s l (out.set a.var.toNat (zQ s a.to))
theorem uS {vars:List VarT}{s t:Lu}:∀ {l:List MoveT} {out:List Lu},t∈zV vars s l out->t∈out\/∃ mv∈l,Jx vars mv s=(t,true)
 |[],out,h=>.inl h
 |mv :: l,out,h=>by
  rw[zV] at h;rcases uS h with h|⟨w,hw,e⟩
  .split at h
   .rename_i c;rcases Qar.1 h with h|h
    .exact .inl h
    .simp only[Qaz] at h;exact .inr ⟨mv,by simp,by rw[h,<-c.1]⟩
   .exact .inl h
  .exact .inr ⟨w,by simp[hw],e⟩
theorem UB {vars:List VarT}{s:Lu}:∀ {l:List MoveT} {out:List Lu},(zV vars s l out).length<=out.length+l.length
 |[],out=>μ _
 |mv :: l,out=>by
  rw[zV];refine ψ UB ?_;split
  .simp;omega
  .simp
theorem vE {vars:List VarT}{mv:MoveT}{s t:Lu}(h:Jx vars mv s=(t,true)):qa vars t=true:=by
 unfold Jx at h;split at h
 .split at h
  .cases h
  .simp only[Prod.mk.injEq] at h;obtain⟨rfl,hr⟩:=h;exact hr
 .cases h
end
theorem joz {l f:Lt}(h:(zp l f).c=0):ModK (zp l f).m:=by
 unfold zp at h ⊢;by_cases h1:(yF l).2.1≠0
 .rw[if_pos h1] at h;exact absurd (show((yF l).2.1:Int)=0 from h) om
 .rw[if_neg h1] at h ⊢;obtain⟨O,hp⟩:=jor (l:=l) (by simpa using h1);cases hm:zj (yF l).1 with
  |er a b c=>
   rw[hm] at h;exact absurd h (vn hm)
  |ok m=>
   rw[hm] at h;dsimp only at h ⊢;by_cases h2:(yo f).2.1≠0
   .rw[if_pos h2] at h;exact absurd (show((yo f).2.1:Int)=0 from h) om
   .rw[if_neg h2] at h ⊢;cases hr:yD m.1.vars m.1.enums true (yo f).1 2 [] with
    |er a b c=>
     rw[hr] at h;exact absurd h (QW hr)
    |ok y=>exact joQ (λd hd=>(O.begs d hd).2) O.rules om O.ens hm
def Qr (src:SrcT):ModT×Bool:=match Qm src with
 |none=>(md0,false)
 |some t=>if 5000<t.length then(md0,false) else((zp t [116,114,117,101]).m,decide ((zp t [116,114,117,101]).c=0/\(zp t [116,114,117,101]).l=0/\(zp t [116,114,117,101]).k=0) && decide (JP (zp t [116,114,117,101]).m.vars<=300))
theorem jcR {src:SrcT}(h:(Qr src).2=true):ModK (Qr src).1/\VarsOK (Qr src).1.vars (Qr src).1.enums:=by
 unfold Qr at h ⊢;cases hs:Qm src with
 |none=>rw[hs] at h;cases h
 |some t=>
  rw[hs] at h;dsimp only at h ⊢;split at h
  .cases h
  .rename_i h5;rw[if_neg h5];simp only[χ,decide_eq_true_eq] at h;exact⟨joz h.1.1,(jcS h.1.1).1⟩
theorem jiy {src:SrcT}(h:(Qr src).2=true):JB (Qr src).1.vars<=300:=by
 have hS:=(jcR h).1.sb.states;unfold Qr at h hS ⊢;cases hs:Qm src with
 |none=>rw[hs] at h;cases h
 |some t=>
  rw[hs] at h hS;dsimp only at h hS ⊢;split at h
  .cases h
  .rename_i h5;rw[if_neg h5] at hS ⊢;simp only[χ,decide_eq_true_eq] at h;have:=h.2;dsimp only at hS ⊢;omega
def jks:XC:=(Og (T4 2 4) [OZ 7,I5 8 7,OP 9 2,oI 10 9,I5 11 10,Ix 12 .neq 8 11] 12 Tv (OY (Oe [OP 13 2,Oi 14 13,IQ 15 14,I3 16] 0 (To 17 16 15) 17 0 1 (oY [oz 18 16,Il 19 7 14 16,oV 20 7 19,o9 6 [oK,oB,oK,oB,oB,Tl,oB],oy 5 18,o6 7 6 20] (.cops [IG (OZ 21),TC 22 5,IG (Lk 23 21 22),OS 24 23,IG (Tm 25 6),OS 26 25,IG (IX 27 .lss 24 26),TC 28 27,IG (II 29 28 1),IG (II 30 28 5),IG (Ig 31 28 (.idxS 1 29 30)),IG (Ow 32 28 31),IG (Oq 33 28 4 6),IG (Ow 34 28 33),IG (Ig 35 28 (.bin .gtr 32 34)),IG (Lf 36 28 35)]) (Tj 36 Tv .skip)) 37 16 1 16 37) [Tb 4]))
def jpL:XF:=⟨[0,1],jks,[(.t 4)]⟩
theorem juc:jy γ 25=some jpL:=Qa0
def jb7:XC:=(Og [I3 2] [oy 3 0] 3 [O0 2 1] (o5 [I3 2]))
def jll:XF:=⟨[0],jb7,[(.t 2)]⟩
theorem jqG:jy γ 61=some jll:=Qa0
def jkn:XC:=(OV (TH (I3 6) 7) (T9 [oy 8 0] 0 (Tf 10 8 14 9 10 9 [OZ 11,oz 12 2,IX 13 .mul 11 12,oy 6 13,Tb 7] (Tf 15 8 15 14 15 14 [OZ 16,oz 17 2,IX 18 .add 16 17,oy 6 18,Tb 7] (Tf 20 8 16 19 20 19 [OZ 21,oz 22 2,IX 23 .sub 21 22,oy 6 23,Tb 7] (.seq (Tu 25 8 17 24 25 24 (.ops (IW 26 8 30 24 26))) (Tj 24 [OZ 27,oz 28 2,IX 29 .eql 27 28,Oy 30 61 29,oy 6 30,Tb 7] (Tf 32 8 18 31 32 31 [OZ 33,oz 34 2,IX 35 .neq 33 34,Oy 36 61 35,oy 6 36,Tb 7] (Tf 38 8 19 37 38 37 [OZ 39,oz 40 2,IX 41 .lss 39 40,Oy 42 61 41,oy 6 42,Tb 7] (.seq (Tu 44 8 20 43 44 43 (.ops (IW 45 8 29 43 45))) (Tj 43 [OZ 46,oz 47 2,IX 48 .leq 46 47,Oy 49 61 48,oy 6 49,Tb 7] (Tf 51 8 21 50 51 50 [OZ 52,oz 53 2,IX 54 .gtr 52 53,Oy 55 61 54,oy 6 55,Tb 7] (Tf 57 8 22 56 57 56 [OZ 58,oz 59 2,IX 60 .geq 58 59,Oy 61 61 60,oy 6 61,Tb 7] (Tf 63 8 27 62 63 62 [OZ 64,oz 65 2,ol 66 (.bi .min #[2,2] [64,65]),oy 6 66,Tb 7] (Iz (IW 68 8 28 67 68) 67 [OZ 69,oz 70 2,ol 71 (.bi .max #[2,2] [69,70]),oy 6 71,Tb 7])))))))))))))) (TH (I3 6) 7))
def jpG:XF:=⟨[0,1,2],jkn,[(.t 6),(.t 7)]⟩
theorem jt7:jy γ 42=some jpG:=Qa0
def jkB:XC:=(ov [TU 2,I3 4,Om 5] (oY [O6 6] (T8 [Tm 11 2,Oi 12 11,IQ 13 12,I3 14] 0 15 14 13 15 0 1 [Il 16 6 12 14,Ta 17 16,TA 8,TW 8 17] (Og [Ta 19 8,OZ 20,OB 21 16 19 20,oz 18 21,Tx 22 18,Ty 23 18,oy 9 22,oy 10 23] [oz 24 10,OW 25 24] 25 (TH (I3 4) 5) (.ops [T0 26,oz 27 9,TJ 28 1 oB [((0,1),27)],Or 29 1 8 26 28,oy 6 29])) 30 14 14 30) (Im 2 (oL [T0 32,I5 33 32,ol 34 (TK 33),oz 35 34,Oz 36 35 0 2,Ox 37 35 36,Te 38 35 .eql 37 1,I0 39 35 38,Oq 40 39 0 2,Ow 41 39 40,O7 42 39 .eql 41 2,Ih 43 35 (.pick 39 Ii 42),Tc 44 35 43,oy 31 44] 31 (o5 [Tw 45 2,oI 46 45,TM 46,Tb 5]) (oL [T0 48,I5 49 48,ol 50 (TK 49),oz 51 50,Oz 52 51 0 2,Ox 53 51 52,Te 54 51 .eql 53 4,Tc 55 51 54,oz 56 55,Oz 57 56 1 2,Ox 58 56 57,Ih 59 56 (O8 .geq 58),Tc 60 56 59,oz 61 60,Oz 62 61 1 2,Ox 63 61 62,I0 64 61 1,Ih 65 61 (.len 64),Ih 66 61 (.bin .lss 63 65),Tc 67 61 66,oy 47 67] 47 (o5 [OZ 68,Tw 69 2,oI 70 69,Lk 71 68 70,oI 72 71,TM 72,Tb 5]) (oL [T0 74,I5 75 74,Ic 76 .eql 75 1,oz 77 76,Oz 78 77 0 2,Ox 79 77 78,Te 80 77 .eql 79 5,Tc 81 77 80,oy 73 81] 73 (o5 [T0 82,Lk 83 82 ON,oI 84 83,ol 85 (.un .neg 84),TM 85,Tb 5]) (oL [T0 87,I5 88 87,Ic 89 .eql 88 1,oz 90 89,Oz 91 90 0 2,Ox 92 90 91,Te 93 90 .eql 92 6,Tc 94 90 93,oy 86 94] 86 (o5 [T0 95,Lk 96 95 ON,oI 97 96,IX 98 .sub Th 97,TM 98,Tb 5]) (Id [T0 100,I5 101 100,Ic 102 .eql 101 2,oy 99 102] 99 (TO [IG (OP 103 2),OS 104 103,TC 105 6,IG (Lk 106 105 ON),OS 107 106,TC 108 6,IG (Lk 109 108 Th),OS 110 109,(Iq 111 42 [104,107,110],OK),IG (Tx 112 111),IG (Ty 113 111),IG (TM 112),IG (oy 5 113)] .ret)))))) (o5 (TH (I3 4) 5)))))
def jpU:XF:=⟨[0,1],jkB,[(.t 4),(.t 5)]⟩
theorem jul:jy γ 16=some jpU:=Qa0
def jkA:XC:=(ov [TU 2,Om 4,Om 5] (OL [Ta 9 2,OZ 10,OB 11 16 9 10,oz 8 11,Tx 12 8,Ty 13 8,oy 6 12,oy 7 13] [oz 14 7,oz 15 14,I0 16 15 6,Te 17 15 .eql 16 1,Tc 18 15 17,oz 19 7,TM 18,oy 5 19]))
def jpT:XF:=⟨[0,1],jkA,[(.t 4),(.t 5)]⟩
theorem juk:jy γ 17=some jpT:=Qa0
def jkm:XC:=(oY [TU 3,IE 4 1,O6 6,Om 7] (ov [OP 16 4,Ta 17 16,oz 18 2,OB 19 17 17 18,oz 15 19,Tx 20 15,Ty 21 15,oy 8 20,oy 9 21] (Iz [oz 22 8,TN 23 22,oz 24 23,II 25 24 9,TT 26 24 25,Lf 27 24 26] 27 (TH (O6 6) 7))) (OV [oz 28 2,Oy 29 49 28,oy 10 29] (T8 [oF 30 6 4,Oi 31 30,IQ 32 31,I3 33] 0 34 33 32 34 0 1 [Il 35 7 31 33,oV 36 7 35,o9 12 [oB,oB,oB,oK,.nils,oB,oB],o6 7 12 36] (Og [Tw 38 12,Ta 39 38,oz 40 2,OB 41 16 39 40,oz 37 41,Tx 42 37,Ty 43 37,oy 13 42,oy 14 43] [oz 44 14,TN 45 44,oz 46 45,Oq 47 46 0 12,Ow 48 46 47,Ig 49 46 (O8 .lss 48),Td 50 46 49,oz 51 50,Oq 52 51 0 12,Ow 53 51 52,II 54 51 2,TR 55 51 54,Ig 56 51 (.bin .geq 53 55),Lf 57 51 56] 57 (TH (O6 6) 7) (.ops [oz 58 10,OP 59 12,oI 60 59,oz 61 13,Lk 62 58 60,o6 1 62 61])) 63 33 33 63) [oz 64 10,T1 65 3,oz 66 10,OB 67 25 65 66,oy 6 64,oy 7 67]))
def jpF:XF:=⟨[0,1,2],jkm,[(.t 6),(.t 7)]⟩
theorem jt6:jy γ 45=some jpF:=Qa0
def jki:XC:=(Og [O6 2] [IZ 3,ow 4 (.gen .eql 30 true 3 (.c .nils))] 4 [O6 2] (o5 [TJ 5 0 oB [],IZ 6,Or 7 1 8 5 6,Tq 7]))
def jpB:XF:=⟨[0],jki,[(.t 2)]⟩
theorem jt2:jy γ 49=some jpB:=Qa0
def jkj:XC:=(Og Tv [IZ 6,I5 7 6,OZ 8,I5 9 8,Ix 10 .neq 7 9] 10 Tv (OY (Oe [IZ 11,IQ 12 11,I3 13] 0 (To 14 13 12) 14 0 1 (oY (Tg 15 13 5 15) (.cops [Lc 16,TC 17 5,IG (Lk 18 16 17),OS 19 18,IG (OZ 20),TC 21 5,IG (Lk 22 20 21),OS 23 22,IG (Ix 24 .neq 19 23)]) (Tj 24 Tv .skip)) 25 13 1 13 25) [Tb 4]))
def jpC:XF:=⟨[0,1],jkj,[(.t 4)]⟩
theorem jt3:jy γ 48=some jpC:=Qa0
def jkk:XC:=(OL (Ti 3) [IZ 4,oI 5 1,OB 6 48 4 5,oy 3 6])
def jpD:XF:=⟨[0,1],jkk,[(.t 3)]⟩
theorem jt4:jy γ 47=some jpD:=Qa0
def jkl:XC:=(OL Tv [IZ 5,OZ 6,OB 7 63 5 6,ol 8 (O8 .geq 7),TM 8])
def jpE:XF:=⟨[0,1],jkl,[(.t 4)]⟩
theorem jt5:jy γ 46=some jpE:=Qa0
def jkg:XC:=(OV [I3 4] (T8 [IZ 6,IQ 7 6,I3 8] 0 9 8 7 9 0 1 (Tg 10 8 5 10) (Iz [OZ 11,IZ 12,Ld 13,Lk 14 12 13,oI 15 14,T6 16 11 [15]] 16 (Tg 17 5 4 17)) 18 8 8 18) [O0 4 (-(0+1))])
def jpz:XF:=⟨[0,1],jkg,[(.t 4)]⟩
theorem jt0:jy γ 63=some jpz:=Qa0
def jkr:XC:=(Og [TU 2,O6 4] [T1 10 2,OZ 11,OB 12 25 10 11,OW 13 12] 13 [O6 4] (oY [O6 5] (T8 [Lg 14 2,Oi 15 14,IQ 16 15,I3 17] 0 18 17 16 18 0 1 [Il 19 7 15 17,oV 20 7 19,o9 7 [oB,oB,oK,.nils,oB,oB,.nils],o6 7 7 20] (ov [T1 22 2,oV 23 7 7,OZ 24,Iq 25 45 [22,23,24],oz 21 25,Tx 26 21,Ty 27 21,o9 8 [.nils],o6 1 8 26,oy 9 27] (OA [oz 28 9,oz 29 28,I0 30 29 5,Ih 31 29 (.fn 47 [8]),Tn 32 (29,true) 46 [30,31],Ih 33 29 (IB 32),I7 34 29 33 oX] 34 [Ld 35,oI 36 8,Ln 37 1 [((0,1),36)],Or 38 1 24 35 37,oy 5 38])) 39 17 17 39) (OY (OA [Ld 40,I5 41 40,ow 42 (TK 41)] 42 [Ld 43,OZ 44,Oy 45 49 44,Ln 46 1 [((0,1),45)],Or 47 1 24 43 46,oy 5 47]) (Tg 48 5 4 48))))
def jpK:XF:=⟨[0,1],jkr,[(.t 4)]⟩
theorem jub:jy γ 27=some jpK:=Qa0
def jkp:XC:=(Og Tv [IZ 6,I5 7 6,OZ 8,I5 9 8,Ix 10 .neq 7 9] 10 Tv (OY (Oe [IZ 11,IQ 12 11,I3 13] 0 (To 14 13 12) 14 0 1 (oY (Tg 15 13 5 15) (.cops [Lc 16,TC 17 5,IG (Lk 18 16 17),OS 19 18,IG (OZ 20),TC 21 5,IG (Lk 22 20 21),OS 23 22,IG (Ix 24 .neq 19 23)]) (Tj 24 Tv .skip)) 25 13 1 13 25) [Tb 4]))
def jpI:XF:=⟨[0,1],jkp,[(.t 4)]⟩
theorem jt9:jy γ 29=some jpI:=Qa0
def jko:XC:=(OV Tv (T8 [oy 7 0,IQ 8 7,I3 9] 0 10 9 8 10 0 1 [Lk 11 7 9,oI 12 11,oy 6 12] (Iz [T0 13,OZ 14,T6 15 (oR 29 []) [13,14]] 15 [Tb 4]) 16 9 9 16) Tv)
def jpH:XF:=⟨[0,1],jko,[(.t 4)]⟩
theorem jt8:jy γ 32=some jpH:=Qa0
def jkC:XC:=(ov (T4 2 4) (OV [OZ 7,I5 8 7,OP 9 2,oI 10 9,I5 11 10,IX 12 .eql 8 11,oy 5 12] (IV [I3 6] 0 (.seq (O5 [Ld 13,oz 14 13,I0 15 14 6,I0 16 14 1,Ih 17 14 (.len 16),Ih 18 14 (.bin .lss 15 17),I7 19 14 18 oX] 19 (.exit 0)) (IA 1 (.cops [IG (OP 22 2),OS 23 22,TC 24 6,IG (Il 25 7 23 24),IG (Tm 26 25),OS 27 26,IG (OZ 28),TC 29 6,IG (Lk 30 28 29),OS 31 30,IG (IX 32 .leq 27 31),TC 33 32,IG (I0 34 33 1),IG (I0 35 33 6),IG (Ih 36 33 (.idxS 1 34 35)),IG (Ox 37 33 36),IG (Oz 38 33 0 2),IG (Ox 39 33 38),IG (I0 40 33 6),IG (Ih 41 33 (.idxS 7 39 40)),IG (Oz 42 33 4 41),IG (Ox 43 33 42),IG (Ih 44 33 (.bin .leq 37 43)),IG (Tc 45 33 44),IG (oy 5 45)]) [T0 20,TB 21 20 1,oy 6 21]))) (Tg 46 5 4 46)))
def jpV:XF:=⟨[0,1],jkC,[(.t 4)]⟩
theorem jum:jy γ 13=some jpV:=Qa0
def jkz:XC:=(Og [TU 2,I3 4] [OP 8 2,oI 9 8,O4 10 .eql 9 4] 10 [OZ 11,Tw 12 2,oI 13 12,Lk 14 11 13,oI 15 14,TM 15] (Lb [Tm 16 2,oI 17 16,I5 18 17,ow 19 (TK 18)] 19 [Tw 20 2,oI 21 20,TM 21] (O9 [Tm 22 2,oI 23 22,Il 24 6 23 ON,Ta 25 24,OZ 26,OB 27 18 25 26,oy 5 27] [Tm 28 2,oI 29 28,Tm 30 2,oI 31 30,I5 32 31,Ic 33 .sub 32 1,Il 34 6 29 33,Ta 35 34,OZ 36,OB 37 18 35 36,oy 6 37] (oY (Ti 7) (T9 [OP 38 2,Oi 39 38] 0 (Tf 41 39 5 40 41 40 [Ld 42,ol 43 (.un .neg 42),TM 43] (Tf 45 39 14 44 45 44 [Ld 46,T0 47,IX 48 .mul 46 47,TM 48] (Tf 50 39 15 49 50 49 [Ld 51,T0 52,IX 53 .add 51 52,TM 53] (Tf 55 39 16 54 55 54 [Ld 56,T0 57,IX 58 .sub 56 57,TM 58] (Oj 60 39 6 59 60 59 (.ops [Ld 61,ol 62 (TK 61),oy 7 62]) (.seq (Tu 64 39 17 63 64 63 (.ops (IW 65 39 30 63 65))) (.cond 63 (.ops [Ld 66,T0 67,IX 68 .eql 66 67,oy 7 68]) (Oj 70 39 18 69 70 69 (.ops [Ld 71,T0 72,IX 73 .neq 71 72,oy 7 73]) (Oj 75 39 19 74 75 74 (.ops [Ld 76,T0 77,IX 78 .lss 76 77,oy 7 78]) (Oj 80 39 20 79 80 79 (.ops [Ld 81,T0 82,IX 83 .leq 81 82,oy 7 83]) (Oj 85 39 21 84 85 84 (.ops [Ld 86,T0 87,IX 88 .gtr 86 87,oy 7 88]) (Oj 90 39 22 89 90 89 (.ops [Ld 91,T0 92,IX 93 .geq 91 92,oy 7 93]) (Oj 95 39 27 94 95 94 (.ops [Ld 96,Ic 97 .eql 96 1,oz 98 97,I0 99 98 6,Te 100 98 .eql 99 1,Tc 101 98 100,oy 7 101]) (Oj 103 39 28 102 103 102 (.ops [Ld 104,Ic 105 .eql 104 1,oz 106 105,II 107 106 6,O7 108 106 .eql 107 1,Td 109 106 108,oy 7 109]) (OA (IW 111 39 29 110 111) 110 [Ld 112,ol 113 (TK 112),oz 114 113,II 115 114 6,O7 116 114 .eql 115 1,Td 117 114 116,oy 7 117])))))))))))))))) (OY (Iz [oy 118 7] 118 [O0 4 1]) [I3 4])))))
def jpS:XF:=⟨[0,1],jkz,[(.t 4)]⟩
theorem juj:jy γ 18=some jpS:=Qa0
def jkD:XC:=(ov [TU 1,o9 2 [.nils,.nils,.nils],Om 3] (Og [T1 10 1,Oy 11 35 10,oz 9 11,Tx 12 9,Ty 13 9,TM 12,oy 5 13] [Ld 14,ol 15 (O8 .neq 14),oz 16 15,II 17 16 4,Ig 18 16 (.lenS 17),O7 19 16 .gtr 18 5000,Lf 20 16 19] 20 [Iw 21 [.nils,.nils,.nils] [],o6 3 2 21,Om 3] (oY [TZ 23,OB 24 34 23 (o8 [116,114,117,101]),oz 22 24,Tx 25 22,Ty 26 22,Ij 27 22 2,o9 6 [.nils,.nils,.nils],ol 7 (.alloc OJ),o9 8 [oB,oB,oB],o6 3 6 25,TW 7 26,o6 3 8 27] (.dops [La 28 3 6 6 35,La 29 3 8 8 45,TG 30 [oB,oB,oB] [],IP (ol 31 (TQ .eql 45 29 30)),Tr 32 31,ID (Ih 33 32 (.ldA 3 6)) 6 35 [],(Iy (Tn 34 (32,true) 36 [33]) 0 [(5,35)],OK),IP (Te 35 32 .leq 34 300),IP (Tc 36 32 35),TV 3 2 28,IP (oy 3 36)]) .ret)))
def jpW:XF:=⟨[0],jkD,[(.cA 2 3),(.t 3)]⟩
theorem jun:jy γ 10=some jpW:=Qa0
def svV (s:Lu):AV:=.lst s.length (s.map (.int .i64))
theorem jin (s:Lu):pc (svV s)=true:=by
 have:(s.map (AV.int .i64)).all pc=true:=by simp[pc]
 simp[svV,pc,this]
theorem kD (k:Int)(h : -9223372036854775808<=k)(h2:k<=9223372036854775807):wq k=k:=XN h h2
section
variable {st:St} {K:AV->St->Prop}
theorem Vd (a b:Int):jq (JC .add (.int .i64 a) (.int .i64 b) st) K=K (.int .i64 (wq (a+b))) st:=rfl
theorem jgj (a b:Int):jq (JC .sub (.int .i64 a) (.int .i64 b) st) K=K (.int .i64 (wq (a - b))) st:=rfl
theorem jm1 (a b:Int):jq (JC .mul (.int .i64 a) (.int .i64 b) st) K=K (.int .i64 (wq (a * b))) st:=rfl
theorem jm0 (a:Int):jq (unV .neg (.int .i64 a) st) K=K (.int .i64 (wq (-a))) st:=by
 have e:IntKind.i64.wrap (0 - a)=wq (-a):=by rw[<-JU,Int.zero_sub];rfl
 simp only[unV,YC,O,e,jq]
end
theorem jtR (hb:NB base)(q:Bool):Tot base 61 [.bool q] (.int .i64 (if q=true then 1 else 0)):=by
 refine hb.tot ?_ rfl rfl;cases q with
 |true=>
  refine jE jqG haa (hb.pur 61 1 dc) ?_;simp only[jll,jr,ζ,η,θ,κ];rw[(by unfold jb7;simp only[qq];rfl:jb7=_)];repeat' first|apply jb<;>intro _|simp(disch:=try exact dzG) only[r8,δ,ε]
  exact G0.v rfl rfl
 |false=>
  refine jE jqG haa (hb.pur 61 1 dc) ?_;simp only[jll,jr,ζ,η,θ,κ];rw[(by unfold jb7;simp only[qq];rfl:jb7=_)];repeat' first|apply jb<;>intro _|simp(disch:=try exact dzG) only[r8,δ,ε]
  exact G0.v rfl rfl
def tpO (o:Option Int):AV:=.tup [.int .i64 (o.getD 0),.bool o.isSome]
theorem Z6 {s:St}{o:Option Int}{x:Int}{q:Bool}(h1:x=o.getD 0)(h2:q=o.isSome):G0 (tpO o) (.tup [.int .i64 x,.bool q]) s:=by
 subst h1 h2;exact FzD.tup (.cons (.pc rfl) (.cons (.pc rfl) .nil))
theorem jtv (hb:NB base)(op a b:Int):Tot base 42 [.int .i64 op,.int .i64 a,.int .i64 b] (tpO (Hh op a b)):=by
 refine hb.tot ?_ rfl rfl;have B:=jtR hb;refine jE jt7 haa (hb.pur 42 1 dc) ?_;simp only[jpG,jr,ζ,η,θ,κ];rw[(by unfold jkn;simp only[qq];rfl:jkn=_)];repeat' first|apply jb<;>intro _|simp(disch:=try exact dzG) only[B,Vd,jgj,jm1,r8,δ,ε]
 all_goals(refine Z6 ?_ ?_<;>simp[Hh,QM,Int.min_def,Int.max_def, *])
theorem qM {vars:List VarT}{s:Lu}:qa vars s=true↔s.length=vars.length/\∀ i (h1:i<vars.length) (h2:i<s.length),vars[i].lo<=s[i]/\s[i]<=vars[i].hi:=by
 unfold qa;rw[χ,decide_eq_true_eq,Qai];refine⟨λ⟨a,b⟩=>⟨a,λi h1 h2=>?_⟩,λ⟨a,b⟩=>⟨a,λi hi=>?_⟩⟩
 .have:=b i (Qbj.2 h1);rw[Qak,Qaf h1,Qak,Qaf h2] at this;simpa using this
 .have h1:=Qbj.1 hi;have:=b i h1 om;rw[Qak,Qaf h1,Qak,Qaf (show i<s.length by omega)];simpa using this
theorem wC {vars:List VarT}{s:Lu}(h:¬ (s.length=vars.length/\∀ i (h1:i<vars.length) (h2:i<s.length),vars[i].lo<=s[i]/\s[i]<=vars[i].hi)):qa vars s=false:=by
 rw[Qcs];exact λk=>h (qM.1 k)
theorem jcK (hb:NB base)(m:ModT)(sv:Lu)(hm:m.vars.length<=1000000)(hs:sv.length<=1099511627776):PL γ base 25 [.agg (mdE m),svV sv] (.ok (.bool (qa m.vars sv))):=by
 unfold svV;have hl:((sv.length:Int)=(m.vars.length:Int))=(sv.length=m.vars.length):=by rw[eq_iff_iff];omega
 refine zL juc haa (hb.pur 25 5 dc) rfl ?_;simp only[jpL,jr,ζ,η,θ,κ];rw[(by unfold jks;simp only[qq];rfl:jks=_)];repeat' first|apply jb<;>intro _|simp(disch:=try exact dzG) only[hl,r8,δ,ε]
 .rename_i h;exact G0.v (congrArg AV.bool (wC λk=>h k.1).symm) rfl
 .rename_i h;have h:sv.length=m.vars.length:=by simpa using h
  refine jV m.vars.length (λk L st=>(∀ j (h1:j<m.vars.length) (h2:j<sv.length),j<k->m.vars[j].lo<=sv[j]/\sv[j]<=m.vars[j].hi)/\1<=st.nx/\Has L 1 (.lst sv.length (sv.map (.int .i64)))/\Has L 14 (.lst m.vars.length (fl vaE m.vars))) ?_ (λk L s hk hI hi hn=>?_) (λL s hI=>?_)
  .refine⟨λj h1 h2 hj=>absurd hj (Qas _),by(first|omega|(simp only[jg,jn,jt,jp,jo];first|done|omega)),?_,?_⟩<;>exact hsX
  .obtain⟨h0,n1,i1,i14⟩:=hI;have hks:k<sv.length:=om
   repeat' first|apply jb<;>intro _|simp(disch:=try exact dzG) only[ja i1,ja i14,ja hi,ja hn,Qx,r8,δ,ε]
   .rename_i h3;refine G0.v (congrArg AV.bool (wC λw=>?_).symm) rfl;have:=(w.2 k hk hks).1;omega
   .rename_i h3 h4;refine G0.v (congrArg AV.bool (wC λw=>?_).symm) rfl;have:=(w.2 k hk hks).2;omega
   .rename_i h3 h4;refine⟨⟨λj h1 h2 hj=>?_,om,?_,?_⟩,?_,?_⟩
    .by_cases e:j=k
     .subst e;omega
     .exact h0 j h1 h2 om
    all_goals exact hsX
  .obtain⟨h0,n1,i1,i14⟩:=hI;repeat' first|apply jb<;>intro _|simp(disch:=try exact dzG) only[r8,δ,ε]
   exact G0.v (congrArg AV.bool (qM.2 ⟨h,λi h1 h2=>h0 i h1 h2 h1⟩).symm) rfl
theorem jo6 (hb:NB base)(a b:Lu)(ha:a.length<=1099511627776)(hb2:b.length<=1099511627776):PX γ base 48 [svV a,svV b] (.ok (.bool (decide (a=b)))):=by
 unfold svV;have hl:((a.length:Int)=(b.length:Int))=(a.length=b.length):=by rw[eq_iff_iff];omega
 refine jE jt3 haa (hb.pur 48 1 dc) ?_;simp only[jpC,jr,ζ,η,θ,κ];rw[(by unfold jkj;simp only[qq];rfl:jkj=_)];repeat' first|apply jb<;>intro _|simp(disch:=try exact dzG) only[hl,r8,δ,ε]
 .rename_i h;exact G0.v (congrArg AV.bool (decide_eq_false λk=>h (by rw[k])).symm) rfl
 .rename_i h;have h:a.length=b.length:=by simpa using h
  refine jV a.length (λk L st=>(∀ j (h1:j<a.length) (h2:j<b.length),j<k->a[j]=b[j])/\Has L 0 (.lst a.length (a.map (.int .i64)))/\Has L 1 (.lst b.length (b.map (.int .i64)))) ?_ (λk L s hk hI hi hn=>?_) (λL s hI=>?_)
  .refine⟨λj h1 h2 hj=>absurd hj (Qas _),?_,?_⟩<;>exact hsX
  .obtain⟨h0,i0,i1⟩:=hI;have hks:k<b.length:=om
   repeat' first|apply jb<;>intro _|simp(disch:=try exact dzG) only[ja i0,ja i1,ja hi,ja hn,Qx,r8,δ,ε]
   .rename_i h3;exact G0.v (congrArg AV.bool (decide_eq_false λw=>h3 (by subst w;rfl)).symm) rfl
   .rename_i h3;refine⟨⟨λj h1 h2 hj=>?_,?_,?_⟩,?_,?_⟩
    .by_cases e:j=k
     .subst e;simpa using h3
     .exact h0 j h1 h2 om
    all_goals exact hsX
  .obtain⟨h0,i0,i1⟩:=hI;repeat' first|apply jb<;>intro _|simp(disch:=try exact dzG) only[r8,δ,ε]
   exact G0.v (congrArg AV.bool (decide_eq_true (Qbm h λi h1 h2=>h0 i h1 h2 h1)).symm) rfl
theorem jlC (sv:Lu)(x:Ex):yb sv x=match qE sv x.kids with|none=>none|some ns=>opV sv x.op x.num ns:=by cases x;rw[yb];rfl
theorem Vj {sv:Lu}:∀ {xs ys:List Ex} {ns:Lu},qE sv xs=some ns->qE sv (xs ++ ys)=match qE sv ys with|none=>none|some ms=>some (ns ++ ms)
 |[],ys,ns,h=>by
  rw[qE] at h;cases h;rw[Qam];cases qE sv ys<;>rfl
 |x :: xs,ys,ns,h=>by
  rw[qE] at h;rw[Qag,qE];cases h1:yb sv x with
  |none=>rw[h1] at h;cases h
  |some n=>
   rw[h1] at h;cases h2:qE sv xs with
   |none=>rw[h2] at h;cases h
   |some ms=>
    rw[h2] at h;cases h;rw[Vj h2];cases qE sv ys<;>rfl
theorem jlB {sv:Lu}{xs:List Ex}{k:Nat}{ns:Lu}{n:Int}(hk:k<xs.length)(h:qE sv (xs.take k)=some ns)(h2:yb sv xs[k]=some n):qE sv (xs.take (k+1))=some (ns ++ [n]):=by
 rw[yt hk,Vj h];simp[qE,h2]
theorem jad {sv:Lu}{xs:List Ex}{k:Nat}{ns:Lu}(hk:k<xs.length)(h:qE sv (xs.take k)=some ns)(h2:yb sv xs[k]=none):qE sv xs=none:=by
 have e:xs=xs.take k ++ (xs[k] :: xs.drop (k+1)):=by rw[<-QbW hk,Qbr]
 rw[e,Vj h];simp[qE,h2]
theorem jfU (hb:NB base)(sv:Lu)(hs:sv.length<=1099511627776):∀ x:Ex,szE x<=BIG->PL γ base 16 [.agg (eE x),svV sv] (.ok (tpO (yb sv x))):=by
 refine Ex.indk λx ih hx=>?_;have hd:=jlC sv x;have hz:=Yo x;generalize hks:x.kids=ks at *;have hlen:=YW ks;unfold BIG at *;unfold svV at *;refine zL jul haa (hb.pur 16 5 dc) rfl ?_;simp only[jpU,jr,ζ,η,θ,κ];rw[(by unfold jkB;simp only[qq];rfl:jkB=_)];repeat' first|apply jb<;>intro _|simp(disch:=try exact dzG) only[hks,r8,δ,ε]
 refine jV ks.length (λk L s=>(∃ ns v,qE sv (ks.take k)=some ns/\ns.length=k/\Lv 1 s.nx s v k (ns.map (.int .i64)) 1/\Has L 6 v)/\1<=s.nx/\Cl s 0 (eE x)/\Has L 1 (.lst sv.length (sv.map (.int .i64)))/\Has L 2 (.ptr 0 0)/\Has L 12 (.lst ks.length (fl eE ks))) ?_ (λk L s hk hI hi hn=>?_) (λL s hI=>?_)
 .refine⟨⟨[],.nils,rfl,rfl,Lv.nil,?_⟩,by(first|omega|(simp only[jg,jn,jt,jp,jo];first|done|omega)),by(try exact cyG),?_,?_,?_⟩<;>exact hsX
 .obtain⟨⟨ns,v,h1,h2,V,i6⟩,n1,C0,i1,i2,i12⟩:=hI;have hk2:=XY hk;have e:Tot base 16 [.agg (eE ks[k]),.lst sv.length (sv.map (.int .i64))] (tpO (yb sv ks[k])):=λst K Kp=>(ih ks[k] (ω hk) om).pa (by simp[pa,pc,ya,zM]) (λst=>hb.no 16 dc _ _) st K Kp;cases hv:yb sv ks[k] with
  |none=>
   rw[hv] at e;have e:Tot base 16 [.agg (eE ks[k]),.lst sv.length (sv.map (.int .i64))] (.tup [.int .i64 0,.bool false]):=e
   (have zz:=C0.r;repeat' first|apply jb<;>intro _|simp(disch:=try exact jW) only[ja i1,ja i2,ja i6,ja i12,ja hi,ja hn,e,C0.q,C0.r,r8,δ,ε])
   exact Z6 (by rw[hd,jad hk h1 hv];rfl) (by rw[hd,jad hk h1 hv];rfl)
  |some n=>
   rw[hv] at e;have e:Tot base 16 [.agg (eE ks[k]),.lst sv.length (sv.map (.int .i64))] (.tup [.int .i64 n,.bool true]):=e;obtain⟨m,hm⟩:∃ m,m=s.nx:=⟨_,rfl⟩;rw[<-hm] at V;have A:=λst bv xc xx K h hv=>@JK 1 m k 1 st v (ns.map (.int .i64)) K 8 bv xc xx h dc om om hv;have V2:∀ st m',Lv 1 m st v k (ns.map (.int .i64)) 1->1<=st.nx->m'=st.nx+1->Lv 1 m' (aps v st [.int .i64 n]) (apv 1 v st) (k+1) ((ns ++ [n]).map (.int .i64)) 1:=λst m' h h2 h3=>by
    rw[QaU];exact h.put rfl h2 h3
   (have zz:=a4 V.ln @jA @jG (aI @V C0.r);repeat' first|apply jb<;>intro _|simp(disch:=try exact jW) only[ja i1,ja i2,ja i6,ja i12,ja hi,ja hn,e,A,V.at,C0.q,V.ln,jA,jG,V,C0.r,r8,δ,ε])
   refine⟨⟨⟨ns ++ [n],_,jlB hk h1 hv,by simp[h2],V2 _ _ ?_ ?_ ?_,?_⟩,?_,?_,?_,?_,?_⟩,?_,?_⟩;all_goals first
    |(simp(disch:=decide) only[jm,ju];done)
    |(simp(disch:=decide) only[jm];assumption)
    |(simp(disch:=first|decide|omega|(simp only[jg,jn];omega)) only[jH,jA,jG];exact V)
    |(simp(disch:=first|decide|omega|(simp only[jg,jn];omega)) only[V.cl,jB,jD];exact C0)
    |(simp only[jg,jn];done)
    |(simp only[jg,jn];omega)
    |omega
    |rfl
 .obtain⟨⟨ns,v,h1,h2,V,i6⟩,n1,C0,i1,i2,i12⟩:=hI;rw[Qab] at h1;rw[h1] at hd;dsimp only at hd;unfold opV at hd;rcases V with ⟨rfl,h0,_⟩|⟨b,rfl,h0,_,C,hb1,hb2⟩
  .have hn0:ns=[]:=Qbs.1 om;subst hn0;have z1:¬ ((0:Nat)=1):=dc
   by_cases g1:x.op=1\/x.op=2
   .rw[if_pos ⟨rfl,g1⟩] at hd
    (have zz:=C0.r;repeat' first|apply jb<;>intro _|simp(disch:=try exact jW) only[ja i1,ja i2,ja i6,g1,C0.q,C0.r,r8,δ,ε])
    all_goals first|exact Z6 (by rw[hd];rfl) (by rw[hd];rfl)|(exfalso;omega)
   .rw[if_neg (λh=>g1 h.2)] at hd;by_cases g2:x.op=4/\0<=x.num/\x.num<(sv.length:Int)
    .rw[if_pos ⟨rfl,g2⟩] at hd;obtain⟨g2,g3,g4⟩:=g2;have g5:x.num.toNat<sv.length:=om
     have eL:∀ (st:St) (K:AV->St->Prop),jq (Xl (.lptr (sv.map (AV.int .i64)) x.num.toNat) st) K=K (.int .i64 sv[x.num.toNat]) st:=λst K=>Qx g5
     (have zz:=C0.r;repeat' first|apply jb<;>intro _|simp(disch:=try exact jW) only[ja i1,ja i2,ja i6,g2,g3,g4,eL,C0.q,C0.r,r8,δ,ε])
     all_goals first|exact Z6 (by rw[hd,Qak,Qaf g5];rfl) (by rw[hd];rfl)|(exfalso;omega)
    .rw[if_neg (λh=>g2 h.2),if_neg (λh=>by simp at h),if_neg (λh=>by simp at h),if_neg hac] at hd
     (have zz:=C0.r;repeat' first|apply jb<;>intro _|simp(disch:=try exact jW) only[ja i1,ja i2,ja i6,C0.q,C0.r,r8,δ,ε])
     all_goals first|exact Z6 (by rw[hd];rfl) (by rw[hd];rfl)|(exfalso;omega)
  .have z0:¬ (ks.length:Int)=0:=om
   rw[if_neg (λh=>by omega),if_neg (λh=>by omega)] at hd;by_cases k1:ks.length=1
   .have k1':(ks.length:Int)=1:=om
    have k2':¬ (ks.length:Int)=2:=om
    have f0:rat s.h b 0=.int .i64 (ns.getD 0 0):=by
     rw[C.cell 0 hae];simp[Qac,show 0<ns.length by omega]
    by_cases g5:x.op=5
    .rw[if_pos ⟨om,g5⟩] at hd
     (have zz:=aI C.len C0.r;repeat' first|apply jb<;>intro _|simp(disch:=try exact jW) only[ja i1,ja i2,ja i6,z0,k1',g5,f0,jm0,C0.q,C.len,C0.r,r8,δ,ε])
     all_goals first|exact Z6 (by rw[hd];rfl) (by rw[hd];rfl)
    .rw[if_neg (λh=>g5 h.2)] at hd;by_cases g6:x.op=6
     .rw[if_pos ⟨om,g6⟩] at hd
      (have zz:=aI C.len C0.r;repeat' first|apply jb<;>intro _|simp(disch:=try exact jW) only[ja i1,ja i2,ja i6,z0,k1',g5,g6,f0,jgj,C0.q,C.len,C0.r,r8,δ,ε])
      all_goals first|exact Z6 (by rw[hd];rfl) (by rw[hd];rfl)
     .rw[if_neg (λh=>g6 h.2),if_neg om] at hd
      (have zz:=C0.r;repeat' first|apply jb<;>intro _|simp(disch:=try exact jW) only[ja i1,ja i2,ja i6,z0,k1',k2',g5,g6,C0.q,C0.r,r8,δ,ε])
      all_goals first|exact Z6 (by rw[hd];rfl) (by rw[hd];rfl)
   .have k1':¬ (ks.length:Int)=1:=om
    rw[if_neg (λh=>by omega),if_neg (λh=>by omega)] at hd;by_cases k2:ks.length=2
    .have k2':(ks.length:Int)=2:=om
     rw[if_pos om] at hd;have f0:rat s.h b 0=.int .i64 (ns.getD 0 0):=by
      rw[C.cell 0 hae];simp[Qac,show 0<ns.length by omega]
     have f1:rat s.h b 1=.int .i64 (ns.getD 1 0):=by
      rw[C.cell 1 hae];simp[Qac,show 1<ns.length by omega]
     have E2:=jtv hb x.op (ns.getD 0 0) (ns.getD 1 0);unfold tpO at E2
     (have zz:=aI C.len C0.r;repeat' first|apply jb<;>intro _|simp(disch:=try exact jW) only[ja i1,ja i2,ja i6,z0,k1',k2',f0,f1,E2,C0.q,C.len,C0.r,r8,δ,ε])
     all_goals first|exact Z6 (by rw[hd]) (by rw[hd])
    .have k2':¬ (ks.length:Int)=2:=om
     rw[if_neg om] at hd
     (have zz:=C0.r;repeat' first|apply jb<;>intro _|simp(disch:=try exact jW) only[ja i1,ja i2,ja i6,z0,k1',k2',C0.q,C0.r,r8,δ,ε])
     all_goals first|exact Z6 (by rw[hd];rfl) (by rw[hd];rfl)
theorem jpn (hb:NB base)(sv:Lu)(hs:sv.length<=1099511627776)(x:Ex)(hx:szE x<=BIG):Tot base 16 [.agg (eE x),svV sv] (tpO (yb sv x)):=λst K Kp=>(jfU hb sv hs x hx).pa (by unfold svV;simp[pa,pc,ya,zM]) (λst=>hb.no 16 dc _ _) st K Kp
theorem jpw (hb:NB base)(sv:Lu)(hs:sv.length<=1099511627776)(x:Ex)(hx:szE x<=BIG):PL γ base 17 [.agg (eE x),svV sv] (.ok (.tup [.bool (decide (yb sv x=some 1)),.bool (yb sv x).isSome])):=by
 have e:=jpn hb sv hs x hx;unfold tpO at e;unfold svV at *;refine zL juk haa (hb.pur 17 5 dc) rfl ?_;simp only[jpT,jr,ζ,η,θ,κ];rw[(by unfold jkA;simp only[qq];rfl:jkA=_)];cases hv:yb sv x with
 |none=>
  rw[hv] at e;repeat' first|apply jb<;>intro _|simp(disch:=try exact dzG) only[e,r8,δ,ε]
  exact FzD.tup (.cons (.pc rfl) (.cons (.pc rfl) .nil))
 |some n=>
  rw[hv] at e;have e:Tot base 16 [.agg (eE x),.lst sv.length (sv.map (.int .i64))] (.tup [.int .i64 n,.bool true]):=e;have e1:decide (some n=some 1)=decide (n=1):=by simp
  rw[e1];repeat' first|apply jb<;>intro _|simp(disch:=try exact dzG) only[e,r8,δ,ε]
  exact FzD.tup (.cons (.pc rfl) (.cons (.pc rfl) .nil))
theorem joy (s:Lu)(x:Ex):zQ s x=if x.op=4 then s.getD x.num.toNat 0 else if x.kids.length=0 then x.num else Xp x.op ((vh s x.kids).getD 0 0) ((vh s x.kids).getD (x.kids.length - 1) 0):=by cases x;rw[zQ];rfl
theorem KL {s:Lu}:∀ {xs:List Ex} {i:Nat} (h:i<xs.length),(vh s xs).getD i 0=zQ s xs[i]
 |x :: xs,0,h=>rfl
 |x :: xs,i+1,h=>by
  rw[vh,κ,KL (by simpa using h)];rfl
theorem KN (hb:NB base)(sv:Lu)(hs:sv.length<=1099511627776):∀ x:Ex,szE x<=BIG->YG sv.length x=true->Tot base 18 [.agg (eE x),svV sv] (.int .i64 (zQ sv x)):=by
 refine Ex.indk λx ih hx hn=>?_;refine hb.tot ?_ (by unfold svV;simp[pa,pc,ya,zM]) rfl;have hd:=joy sv x;have hz:=Yo x;rw[jlY,χ,hZ,Qai] at hn;obtain⟨hn1,hn2⟩:=hn;generalize hks:x.kids=ks at *;have hlen:=YW ks;unfold BIG at *;unfold svV at *;refine jE juj haa (hb.pur 18 1 dc) ?_;simp only[jpS,jr,ζ,η,θ,κ];rw[(by unfold jkz;simp only[qq];rfl:jkz=_)];by_cases h4:x.op=4
 .have h5:0<=x.num/\x.num<(sv.length:Int):=by
   simp[h4] at hn1;omega
  obtain⟨h5,h6⟩:=h5;have h7:x.num.toNat<sv.length:=om
  have eL:∀ (st:St) (K:AV->St->Prop),jq (Xl (.lptr (sv.map (AV.int .i64)) x.num.toNat) st) K=K (.int .i64 sv[x.num.toNat]) st:=λst K=>Qx h7;repeat' first|apply jb<;>intro _|simp(disch:=try exact dzG) only[hks,h4,eL,r8,δ,ε]
  refine G0.v ?_ rfl;rw[hd,if_pos h4,Qak,Qaf h7];rfl
 .rw[if_neg h4] at hd;by_cases h0:ks.length=0
  .have h0':(ks.length:Int)=0:=om
   rw[if_pos h0] at hd;repeat' first|apply jb<;>intro _|simp(disch:=try exact dzG) only[hks,h4,h0',r8,δ,ε]
   exact G0.v (by rw[hd]) rfl
  .have h0':¬ (ks.length:Int)=0:=om
   rw[if_neg h0] at hd;have hp:0<ks.length:=om
   have hl:ks.length - 1<ks.length:=om
   have g0:=XY hp;have g1:=XY hl;have e0:=ih ks[0] (ω hp) om (hn2 _ (ω hp));have e1:=ih ks[ks.length - 1] (ω hl) om (hn2 _ (ω hl));have e9:((ks.length:Int) - 1).toNat=ks.length - 1:=om
   rw[KL hp,KL hl] at hd;have f0:∀ (st:St) (K:AV->St->Prop),jq (Q4 6 (.lptr (fl eE ks) 0) st) K=K (.agg (eE ks[0])) st:=λst K=>by
    have:=gy (enc:=eE) (z:=6) (st:=st) (K:=K) zR hp;rwa [QaP] at this
   have f1:∀ (st:St) (K:AV->St->Prop),jq (Q4 6 (.lptr (fl eE ks) ((ks.length - 1) * 6)) st) K=K (.agg (eE ks[ks.length - 1])) st:=λst K=>gy zR hl;generalize zQ sv ks[0]=a at *;generalize zQ sv ks[ks.length - 1]=b at *;have eW:wq ((ks.length:Int) - 1)=(ks.length:Int) - 1:=kD _ om om;repeat' first|apply jb<;>intro _|simp(disch:=try exact dzG) only[hks,h4,h0',e0,e1,e9,eW,f0,f1,Vd,jgj,jm1,jm0,r8,δ,ε]
   all_goals(refine G0.v ?_ rfl;rw[hd];simp[Xp,QM, *])
end Go.Sy
end
noncomputable section
namespace Go.Sy
open Go.Ev Go.RowKit
variable {s:St}{z lo hi n:Nat}{v:AV}{cs:List AV}
def Lw (lo hi:Nat)(s:St)(v:AV)(n:Nat)(cs:List AV)(z:Nat):Prop:=∃ b ex,v=.slice b 0 n n z ex/\(ex=true->n=0)/\cs.length=n * z/\Cl s b cs/\lo<=b/\b<hi
theorem Lw.new (h1:lo<=s.nx)(h2:s.nx<hi):Lw lo hi (nw s []) (.slice s.nx 0 0 0 z true) 0 [] z:=⟨s.nx,true,rfl,λ_=>rfl,by simp,Cl.new s [],h1,h2⟩
theorem Lw.fz {m d:Nat}(h:Lw lo hi s v n cs z)(hm:m<=lo)(hp:cs.all pc=true):FzD m (d+2) s v (.lst n cs):=by
 obtain⟨b,ex,rfl,_,h3,h4,h5,h6⟩:=h;refine FzD.slice h4.rw_ (QaM h3.symm) om ?_;rw[<-h3,Qab];exact FzsD.pc hp
theorem Lw.nwO (h:Lw lo hi s v n cs z)(ds:List AV):Lw lo hi (nw s ds) v n cs z:=by
 obtain⟨b,ex,h1,h2,h3,h4,h5,h6⟩:=h;exact⟨b,ex,h1,h2,h3,h4.nw ds,h5,h6⟩
structure ApL (lo:Nat)(s s':St):Prop where
 nx:s.nx<=s'.nx
 fr:s'.fr=s.fr
 hp:∀ c,c<lo->c<s.nx->jv s'.h c=jv s.h c
theorem ApL.cl {s':St}(a:ApL lo s s')(c:Nat)(ds:List AV)(hc:c<lo)(C:Cl s c ds):Cl s' c ds:=C.keep a.nx (a.hp c hc C.lt)
theorem Lw.keep {lo2:Nat}{s':St}(h:Lw lo hi s v n cs z)(a:ApL lo2 s s')(hh:hi<=lo2):Lw lo hi s' v n cs z:=by
 obtain⟨b,ex,h1,h2,h3,h4,h5,h6⟩:=h;exact⟨b,ex,h1,h2,h3,a.cl b cs om h4,h5,h6⟩
theorem ApL.nwO (s:St)(ds:List AV):ApL s.nx s (nw s ds):=⟨by rw[jg];omega,by rw[VQ],λc hc h=>q8 om⟩
theorem ApL.trans {lo2:Nat}{t u:St}(a:ApL lo s t)(b:ApL lo2 t u)(h:lo<=lo2):ApL lo s u:=⟨ψ a.nx b.nx,b.fr.trans a.fr,λc hc h=>(b.hp c om (Qau h a.nx)).trans (a.hp c hc h)⟩
theorem jsK {n2 bytes:Nat}{cs2:List AV}(h:Lw lo hi s v n cs z)(hhi:hi<=s.nx)(hl:cs2.length=n2 * z)(hz:0<z)(hby:(n+n2) * bytes<=140737488355328)(h63:n+n2<=9223372036854775807) :
  ∃ v' s',(∀ K:AV->St->Prop,jq (zJ z bytes v (.lst n2 cs2) s) K=K v' s')/\Lw lo s'.nx s' v' (n+n2) (cs ++ cs2) z/\ApL lo s s':=by
 obtain⟨b,ex,rfl,hex,h3,h4,h5,h6⟩:=h;obtain⟨m',zl',zz',ks',hg'⟩:=h4.row;have h4l:=h4.len;rw[yB hg'] at h4l;have e1:QcA (QcC n2 z) (jQ cs2)=true:=qw (by rw[jM];exact QaM hl.symm);have e2:yj cs2 (QcC n2 z)=cs2:=by rw[qN];exact(by rw[show QcC n2 z=cs2.length from hl.symm,Qab])
 have e3:Qcy (jQ cs2) (QcC n2 z)=true:=YT (by rw[jM];exact hl);by_cases h0:n2=0
 .subst h0;have hc:cs2=[]:=Qbs.1 om;subst hc;refine⟨_,s,λK=>?_,⟨b,ex,rfl,by simpa using hex,by simpa using h3,by simpa using h4,h5,om⟩,⟨μ _,rfl,λ_ _ _=>rfl⟩⟩;have e4:QcA (QcB n 0) n=true:=qw (μ _);have e5:Qcy 0 0=true:=rfl;simp only[zJ,zF,firstCells,e1,cond_true,e2,q7,e3,hg',yh,jF,e4,e5,jq];rfl
 .have e4:QcA (QcB n n2) n=false:=jb2 (by show n<n+n2;omega);have e5:QcA (QcC (QcB n n2) bytes) 140737488355328=true:=qw hby;have e6:QcA (QcB n n2) 9223372036854775807=true:=qw h63;cases ex with
  |true=>
   have hn:=hex rfl;subst hn;have hc:cs=[]:=Qbs.1 om;subst hc;have e7:QcA (QcB 0 (QcC 0 z)) m'=true:=qw (by show 0+0 * z<=m';omega);have e8:jP zl' zz' ks' (QcC 0 z) 0=[]:=by rw[qi,show QcC 0 z=0 from QaP z];rfl
   have e9:yS [] cs2=cs2:=by rw[yz];rfl
   refine⟨.slice s.nx 0 (0+n2) (0+n2) z false,nw s cs2,λK=>?_,⟨s.nx,false,rfl,(λh=>by cases h),by rw[Qam,hl,Qaj],Cl.new s _,om,by rw[jg];omega⟩,⟨by rw[jg];omega,by rw[VQ],λc hc h=>q8 om⟩⟩;simp only[zJ,zF,firstCells,e1,cond_true,e2,q7,e3,hg',yh,jF,e4,e5,e6,cond_false,e7,e8,e9,St.alloc_eq,jq];conv=>rhs;unfold nw
   rw[show QcC (QcB 0 n2) z=cs2.length by rw[hl];exact congrArg (· * z) (Qaj n2)];rfl
  |false=>
   have e7:Qcy z z=true:=YT rfl;have e8:Qcy 0 0=true:=rfl;have e9:Qcy (QcC n z) m'=true:=YT (by rw[h4l,h3];rfl);have e10:QcC (QcB n n2) z=m'+cs2.length:=by rw[hl,h4l,h3];exact QaI n n2 z
   have ea:ap s b cs2=⟨s.nx+1,(qh (jO s.nx)).run (.row (m'+cs2.length) zl' zz' (qx cs2 ks' m')) ((qh (jO b)).run .dead s.h),min s.dirty b,s.fr⟩:=by
    unfold ap apO;rw[hg']
   have hne:b≠s.nx:=om
   refine⟨.slice s.nx 0 (n+n2) (n+n2) z false,ap s b cs2,λK=>?_,⟨s.nx,false,rfl,(λh=>by cases h),by rw[ν,h3,hl,QaI],h4.ap cs2,om,by rw[ea];exact Qbf _⟩,⟨by rw[ea];exact Nat.le_succ _,by rw[ea],λc hc h=>WX om om⟩⟩;simp only[zJ,zF,firstCells,e1,cond_true,e2,q7,e3,hg',yh,jF,e4,e5,e6,cond_false,e7,e8,e9,St.put_eq,St.alloc_eq,jq];rw[e10,ea];rfl
end Go.Sy
end
noncomputable section
set_option maxRecDepth 100000
namespace Go.Sy
open Go.Ev Go.Proofs
variable {base:Bs}
variable {lo b lo2:Nat}{m:ModT}{s st:St}{v x:AV}{out sv:Lu}{K Kp:AV->St->Prop}{vars:List VarT}
structure CloneP (base:Bs):Prop where
 zero:∀ st,base.run 49 [.lst 0 []] st=.ok (.lst 0 []) st
 more:∀ n cs st,base.run 49 [.lst (n+1) cs] st=.no
 live:∀ c n m x st,base.run 49 [.slice c 0 n m 1 x] st=.no
def OutV (lo:Nat)(s:St)(v:AV)(out:Lu):Prop:=(out=[]/\v=.lst 0 [])\/∃ b ex,v=.slice b 0 out.length out.length 1 ex/\Cl s b (out.map (.int .i64))/\lo<=b
theorem OutV.fz {m d:Nat}(h:OutV lo s v out)(hm:m<=lo):FzD m (d+2) s v (svV out):=by
 rcases h with ⟨rfl,rfl⟩|⟨b,ex,rfl,C,hl⟩
 .exact FzD.pa rfl
 .refine FzD.slice C.rw_ hac om ?_;rw[QaG,<-Qad (f:=AV.int .i64),Qab];exact FzsD.pc (zM _)
theorem OutV.nwO (h:OutV lo s v out)(ds:List AV):OutV lo (Go.Sy.nw s ds) v out:=h.imp id λ⟨b,ex,h1,h2,h3⟩=>⟨b,ex,h1,h2.nw ds,h3⟩
theorem ApL.refl (lo:Nat)(s:St):ApL lo s s:=⟨μ _,rfl,λ_ _ _=>rfl⟩
theorem ApL.nw2 {t:St}(a:ApL lo s t)(ds:List AV):ApL lo s (Go.Sy.nw t ds):=⟨by have:=a.nx;rw[jg];omega,a.fr,λc hc h=>(q8 (by have:=a.nx;omega)).trans (a.hp c hc h)⟩
theorem ApL.wr2 {t:St}(a:ApL lo s t)(hb:lo<=b)(o:Nat)(vs:List AV):ApL lo s (Go.Sy.wr t b o vs):=⟨a.nx,a.fr,λc hc h=>(zN om).trans (a.hp c hc h)⟩
theorem ApL.to {t u:St}(a:ApL lo s t)(b:ApL lo2 t u)(h:lo<=lo2):ApL lo s u:=a.trans b h
def V1 (p:Nat)(st:St)(v:AV)(sv:Lu):Prop:=v=svV sv\/∃ c ex,v=.slice c 0 sv.length sv.length 1 ex/\Cl st c (sv.map (.int .i64))/\c<p
section
variable {p:Nat} {s t:St} {v:AV} {sv:Lu}
theorem V1.lend (h:V1 p s v sv):lend s.h v=some (svV sv):=by
 rcases h with rfl|⟨c,ex,rfl,C,_⟩
 .exact HC (by unfold svV;simp[pa,pc,zM])
 .exact VH C hac (zM _)
theorem V1.keep (h:V1 p s v sv){lo:Nat}(a:ApL lo s t)(hp:p<=lo):V1 p t v sv:=h.imp id λ⟨c,ex,e,C,hc⟩=>⟨c,ex,e,a.cl c _ om C,hc⟩
theorem V1.bar (h:V1 p s v sv):V1 p s.bare v sv:=h.imp id λ⟨c,ex,e,C,hc⟩=>⟨c,ex,e,⟨C.lt,C.row,C.len,C.cell⟩,hc⟩
theorem V1.len {K:AV->St->Prop}(h:V1 p s v sv)(st:St):jq (lenV v st) K=K (.int .i64 (sv.length:Int)) st:=by
 rcases h with rfl|⟨c,ex,rfl,_⟩<;>rfl
theorem V1.wr (h:V1 p s v sv){b:Nat}(hb:p<=b)(o:Nat)(vs:List AV):V1 p (Go.Sy.wr s b o vs) v sv:=h.imp id λ⟨c,ex,e,C,hc⟩=>⟨c,ex,e,C.wrO om o vs,hc⟩
theorem V1.nw (h:V1 p s v sv)(ds:List AV):V1 p (Go.Sy.nw s ds) v sv:=h.imp id λ⟨c,ex,e,C,hc⟩=>⟨c,ex,e,C.nw ds,hc⟩
theorem jnD {st s:St}{v u:AV}{K:AV->St->Prop}(F:FzD st.nx 9 s v u)(a:ApL st.nx st.bare s)(hK:∀ s',ApL st.nx st s'->K u s'):∃ u ks,fz 9 s.h v=some (u,ks)/\K u (back st (kills ks s)):=by
 obtain⟨ks,e,h⟩:=F;have hn:st.bare.nx=st.nx:=rfl;refine⟨u,ks,e,hK _ ⟨a.nx,rfl,λc hc hl=>?_⟩⟩;have e1:=XI ks s.h c;rw[if_neg (λhm=>by have:=h c hm;omega)] at e1;exact e1.trans (a.hp c hc hl)
end
theorem jmJ {hi n z n2 bytes:Nat}{cs cs2:List AV}(h:Lw lo hi s v n cs z)(h1:∀ k:Nat->ER,zF x k=k n2)(h2:∀ k:List AV->ER,firstCells s z n2 x k=k cs2)(hhi:hi<=s.nx)(hl:cs2.length=n2 * z)(hz:0<z)(hby:(n+n2) * bytes<=140737488355328)(h63:n+n2<=9223372036854775807) :
  ∃ v' s',(∀ K:AV->St->Prop,jq (zJ z bytes v x s) K=K v' s')/\Lw lo s'.nx s' v' (n+n2) (cs ++ cs2) z/\ApL lo s s':=by
 obtain⟨v',s',e,r1,r2⟩:=jsK (bytes:=bytes) (n2:=n2) (cs2:=cs2) h hhi hl hz hby h63;refine⟨v',s',λK=>?_,r1,r2⟩;rw[<-e K];have e1:QcA (QcC n2 z) (jQ cs2)=true:=qw (by rw[jM];exact QaM hl.symm);have e2:yj cs2 (QcC n2 z)=cs2:=by rw[qN];exact(by rw[show QcC n2 z=cs2.length from hl.symm,Qab])
 unfold zJ;rw[h1,h2];simp only[zF,firstCells,e1,cond_true,e2]
theorem V1.app {p:Nat}{l:Lu}(h:V1 p s x l)(C:Cl s b [])(h1:lo2<=b)(hl:l.length<=1000000000000) :
  ∃ v' s',(∀ K:AV->St->Prop,jq (zJ 1 8 (.slice b 0 0 0 1 true) x s) K=K v' s')/\Lw lo2 s'.nx s' v' l.length (l.map (.int .i64)) 1/\ApL lo2 s s':=by
 have w:Lw lo2 s.nx s (.slice b 0 0 0 1 true) 0 [] 1:=⟨b,true,rfl,λ_=>rfl,rfl,C,h1,C.lt⟩;have done:(∀ k:Nat->ER,zF x k=k l.length)->(∀ k:List AV->ER,firstCells s 1 l.length x k=k (l.map (.int .i64)))->∃ v' s',(∀ K:AV->St->Prop,jq (zJ 1 8 (.slice b 0 0 0 1 true) x s) K=K v' s')/\Lw lo2 s'.nx s' v' l.length (l.map (.int .i64)) 1/\ApL lo2 s s':=λq1 q2=>by
  obtain⟨v',s',e,r1,r2⟩:=jmJ (bytes:=8) w q1 q2 (μ _) hac dc om om;rw[Qaj,Qam] at r1;exact⟨v',s',e,r1,r2⟩
 rcases h with rfl|⟨c,ex,rfl,D,_⟩
 .have e1:QcA (QcC l.length 1) (jQ (l.map (AV.int .i64)))=true:=qw (by rw[jM,Qad];exact QaM (QaG _));have e2:yj (l.map (AV.int .i64)) (QcC l.length 1)=l.map (AV.int .i64):=by rw[qN,show QcC l.length 1=(l.map (AV.int .i64)).length from by rw[Qad];exact QaG _,Qab]
  exact done (λk=>rfl) λk=>by unfold svV;simp only[firstCells,e1,cond_true,e2]
 .obtain⟨m',zl',zz',ks',hg'⟩:=D.row;have h4l:=D.len;rw[yB hg',Qad] at h4l;have e1:QcC l.length 1=l.length:=QaG _;have e7:QcA (QcB 0 l.length) m'=true:=qw (by show 0+l.length<=m';omega);have e8:jP zl' zz' ks' l.length 0=l.map (.int .i64):=by
   have h:=D.rats0 (Qad ..);rw[JQ] at h;rw[qi,<-h];exact QaS λi _=>by rw[Jt hg']
  exact done (λk=>rfl) λk=>by simp only[firstCells,hg',yh,jF,e1,e7,cond_true,e8]
theorem jfK (hb:NB base)(hC:CloneP base)(hs:sv.length<=1000000000000){p:Nat}(V:V1 p st x sv)(hK:∀ v s',OutV st.nx s' v sv->ApL st.nx st s'->K v s'):XB γ base 49 [x] st K Kp:=by
 by_cases h0:x=.lst 0 []
 .have e:sv=[]:=by
   rcases V with h|⟨c,ex,h,_⟩
   .rw[h0] at h;unfold svV at h;cases sv with
    |nil=>rfl
    |cons y ys=>cases h
   .rw[h0] at h;cases h
  subst h0;have E:=WC (P:=γ) (base:=base) (hC.zero st) K Kp;refine Eq.mpr E ?_;rw[Wk];exact hK _ _ (.inl ⟨e,rfl⟩) (ApL.refl _ _)
 .have hno:base.run 49 [x] st.bare=.no:=by
   rcases V with rfl|⟨c,ex,rfl,_⟩
   .cases sv with
    |nil=>exact absurd rfl h0
    |cons y ys=>exact hC.more _ _ _
   .exact hC.live _ _ _ _ _
  have hno2:base.run 49 [x] st=.no:=by
   rcases V with rfl|⟨c,ex,rfl,_⟩
   .cases sv with
    |nil=>exact absurd rfl h0
    |cons y ys=>exact hC.more _ _ _
   .exact hC.live _ _ _ _ _
  have N:∀ s,XO γ .eql 30 true x .nils s=.ok (.bool false) s:=λs=>by
   rcases V with rfl|⟨c,ex,rfl,_⟩
   .cases sv with
    |nil=>exact absurd rfl h0
    |cons y ys=>
     have:∀ (n:Nat) (cs:List AV),XO γ .eql 30 true (.lst (n+1) cs) .nils s=.ok (.bool false) s:=λn cs=>by kernel_rfl
     exact this _ _
   .kernel_rfl
  refine zP jt2 haa ⟨hno2,hb.pur 49 0 dc⟩ ?_;simp only[jpB,jr,ζ,η,θ,κ];have hbn:st.bare.nx=st.nx:=rfl;obtain⟨v',s',e,w,q⟩:=((V.bar).nw []).app (lo2:=st.nx) (Cl.new st.bare []) (μ _) hs;have e:∀ K:AV->St->Prop,jq (zJ 1 8 (.slice st.nx 0 0 0 1 true) x (nw st.bare [])) K=K v' s':=e;rw[(by unfold jki;simp only[qq];rfl:jki=_)];repeat' first|apply jb<;>intro _|simp(disch:=try exact dzG) only[N,jbO,e,hbn,r8,δ,ε]
  obtain⟨b,ex,rfl,hex,h3,C,h5,h6⟩:=w;refine hK _ _ (.inr ⟨b,ex,rfl,?_,h5⟩) ⟨?_,?_,λc hc hl=>?_⟩
  .exact⟨C.lt,C.row,C.len,C.cell⟩
  .have:=q.nx;rw[jg] at this;show st.nx<=s'.nx;have e0:st.bare.nx=st.nx:=rfl;omega
  .rfl
  .exact(q.hp c hc (by rw[jg];exact Nat.lt_succ_of_lt hl)).trans (q8 (Qbg hl))
theorem OutV.lend (h:OutV lo s v out):lend s.h v=some (svV out):=by
 rcases h with ⟨rfl,rfl⟩|⟨b,ex,rfl,C,_⟩
 .exact HC rfl
 .exact VH C hac (zM _)
theorem Hf:∀ (l:Lu) (i:Nat) (n:Int),i<l.length->upd (l.map (AV.int .i64)) i [.int .i64 n]=(l.set i n).map (.int .i64)
 |x :: xs,0,n,_=>by simp[Zj,Z4]
 |x :: xs,i+1,n,h=>by
  have:=Hf xs i n (by simpa using h);simp only[ζ,List.set_cons_succ,Z5,this]
structure ModB (m:ModT):Prop where
 vars:m.vars.length<=1000000
 moves:m.moves.length<=1000000
 acts:∀ v∈m.moves,v.acts.length<=1000000/\szE v.when<=BIG/\∀ a∈v.acts,szE a.to<=BIG
theorem jtC (mv:MoveT):((moE mv).drop 0).take 6=eE mv.when:=by
 unfold moE;rw[Qbd,List.take_left' (zR _)]
theorem jiB {mv:MoveT}(C:Cl s b (moE mv)):rats s.h b 0 6=eE mv.when:=by
 rw[C.ratsP 6 0 (by rw[uU];decide),jtC]
theorem Uv (s:St)(a:SetT):rats (wr (nw s [.int .i64 0,.int .i64 0,.int .i64 0,.str [],.nils,.int .i64 0,.int .i64 0]) s.nx 0 (seE a)).h s.nx 1 6=eE a.to:=by
 have C:Cl (wr (nw s [.int .i64 0,.int .i64 0,.int .i64 0,.str [],.nils,.int .i64 0,.int .i64 0]) s.nx 0 (seE a)) s.nx (seE a):=(Cl.new s _).wr0 (by rw[YD];rfl);rw[C.ratsP 6 1 (by rw[YD];decide)];unfold seE;rw[List.drop_one,List.tail_cons,<-zR a.to,Qab]
theorem ApL.bar (a:ApL lo st.bare s):ApL lo st.bare s.bare:=⟨a.nx,rfl,a.hp⟩
theorem FzD.nil0 {m d:Nat}:FzD m (d+1) s .nils (svV []):=FzD.nils
theorem jsk (hb:NB base)(hC:CloneP base)(m:ModT)(hm:m.vars.length<=1000000)(mv:MoveT)(ha:mv.acts.length<=1000000)(hw:szE mv.when<=BIG)(hto:∀ a∈mv.acts,szE a.to<=BIG)(sv:Lu)(hs:sv.length<=1000000000000)(V:V1 st.nx st x sv)(hK:∀ s',ApL st.nx st s'->K (.tup [svV (Jx m.vars mv sv).1,.bool (Jx m.vars mv sv).2]) s') :
  XB γ base 45 [.agg (mdE m),.agg (moE mv),x] st K Kp:=by
 have hd:Jx m.vars mv sv=if yb sv mv.when=some 1 then(match wb sv mv.acts sv with|none=>([],false)|some t=>(t,qa m.vars t)) else([],false):=rfl
 have hbn:st.bare.nx=st.nx:=rfl;have fin:∀ {s:St} {v:AV} {q:Bool},ApL st.nx st.bare s->FzD st.nx 8 s v (svV (Jx m.vars mv sv).1)->q=(Jx m.vars mv sv).2->∃ u ks,fz 9 s.h (.tup [v,.bool q])=some (u,ks)/\K u (back st (kills ks s)):=λa f e=>by
  subst e;exact jnD (FzD.tup (.cons f (.cons (.pc rfl) .nil))) a hK
 have C0:Cl (nw (nw st.bare (mdE m)) (moE mv)) st.nx (mdE m):=(Cl.new st.bare (mdE m)).nw _;have C1:Cl (nw (nw st.bare (mdE m)) (moE mv)) (st.nx+1) (moE mv):=Cl.new (nw st.bare (mdE m)) (moE mv);have A0:ApL st.nx st.bare (nw (nw st.bare (mdE m)) (moE mv)):=((ApL.refl st.nx st.bare).nw2 _).nw2 _;have V0:V1 st.nx (nw (nw st.bare (mdE m)) (moE mv)) x sv:=(V.bar.nw _).nw _;have EH:=λK Kp=>(jpw hb sv om mv.when hw).xb (st:=nw (nw st.bare (mdE m)) (moE mv)) (aZ':=[.agg (eE mv.when),x]) (JZ (by simp[pa,pc,ya]) (qK V0.lend zO)) (λst=>hb.no 17 dc _ _) K Kp;have fW:=jiB C1;have n0:(nw (nw st.bare (mdE m)) (moE mv)).nx=st.nx+2:=rfl;refine VK jt6 haa (hb.pur 45 2 dc) (hb.no 45 dc _ _) ?_;simp only[jpF,jr,ζ,η,θ,κ];rw[(by unfold jkm;simp only[qq];rfl:jkm=_)];generalize hp:st.nx=p at *;by_cases h1:yb sv mv.when=some 1
 .rw[h1] at EH;rw[if_pos h1] at hd;have EH:∀ K Kp,XB γ base 17 [.agg (eE mv.when),x] (nw (nw st.bare (mdE m)) (moE mv)) K Kp=K (.tup [.bool true,.bool true]) (nw (nw st.bare (mdE m)) (moE mv)):=by simpa[JH] using EH
  repeat' first|apply jb<;>intro _|simp(disch:=try exact dzG) only[hbn,fW,EH,JH,r8,δ,ε]
  refine jfK (sv:=sv) hb hC hs V0 λv u O q=>?_;have AU:=A0.to q om;have CU0:Cl u p (mdE m):=q.cl p _ (by rw[n0];omega) C0;have CU1:Cl u (p+1) (moE mv):=q.cl (p+1) _ (by rw[n0];omega) C1;have VU:=V0.keep q om;have n2:=q.nx;rw[n0] at O n2;clear fW EH q C0 C1 A0 V0
  (have zz:=aI @CU0.r @CU1.r;repeat' first|apply jb<;>intro _|simp(disch:=try exact jW) only[hbn,CU0.q,CU1.q,CU0.r,CU1.r,r8,δ,ε])
  refine jV mv.acts.length (λk L s=>(∃ out v,wb sv mv.acts sv=wb sv (mv.acts.drop k) out/\out.length=sv.length/\OutV (p+2) s v out/\Has L 10 v)/\ApL p st.bare s/\p+2<=s.nx/\Cl s p (mdE m)/\Cl s (p+1) (moE mv)/\V1 p s x sv/\Has L 2 x/\Has L 3 (.ptr p 0)/\Has L 4 (.ptr (p+1) 0)/\Has L 31 (.lst mv.acts.length (fl seE mv.acts))) ?_ (λk L s hk hI hi hn=>?_) (λL s hI=>?_)
  .refine⟨⟨sv,v,rfl,rfl,O,?_⟩,AU,n2,CU0,CU1,VU,?_,?_,?_,?_⟩<;>exact hsX
  .obtain⟨⟨out,v,h2,h3,O,i10⟩,AS,n2,C0,C1,VS,i2,i3,i4,i31⟩:=hI;have VS1:V1 p (wr (Go.Sy.nw s [.int .i64 0,.int .i64 0,.int .i64 0,.str [],.nils,.int .i64 0,.int .i64 0]) s.nx 0 (seE mv.acts[k])) x sv:=(VS.nw _).wr om _ _;have AS1:ApL p st.bare (wr (Go.Sy.nw s [.int .i64 0,.int .i64 0,.int .i64 0,.str [],.nils,.int .i64 0,.int .i64 0]) s.nx 0 (seE mv.acts[k])):=(AS.nw2 _).wr2 om _ _;have e:=λK Kp=>(jfU hb sv om mv.acts[k].to (hto _ (ω hk))).xb (st:=wr (Go.Sy.nw s [.int .i64 0,.int .i64 0,.int .i64 0,.str [],.nils,.int .i64 0,.int .i64 0]) s.nx 0 (seE mv.acts[k])) (aZ':=[.agg (eE mv.acts[k].to),x]) (JZ (by simp[pa,pc,ya]) (qK VS1.lend zO)) (λst=>hb.no 16 dc _ _) K Kp;have eL:=λ(t:St) (K:AV->St->Prop)=>VS.len (K:=K) t;have hdr:mv.acts.drop k=mv.acts[k] :: mv.acts.drop (k+1):=QbW hk;rw[hdr,wb] at h2;simp only[JH] at e;cases hv:yb sv mv.acts[k].to with
   |none=>
    rw[hv] at h2 e;have e:∀ K Kp,XB γ base 16 [.agg (eE mv.acts[k].to),x] (wr (Go.Sy.nw s [.int .i64 0,.int .i64 0,.int .i64 0,.str [],.nils,.int .i64 0,.int .i64 0]) s.nx 0 (seE mv.acts[k])) K Kp=K (.tup [.int .i64 0,.bool false]) (wr (Go.Sy.nw s [.int .i64 0,.int .i64 0,.int .i64 0,.str [],.nils,.int .i64 0,.int .i64 0]) s.nx 0 (seE mv.acts[k])):=e;rw[h2] at hd
    (have zz:=aI C0.r C1.r;repeat' first|apply jb<;>intro _|simp(disch:=try exact jW) only[ja i2,ja i3,ja i4,ja i10,ja i31,ja hi,ja hn,Uv,e,eL,C0.q,C1.q,C0.r,C1.r,r8,δ,ε])
    all_goals first|exact fin AS1.bar (by rw[hd];exact FzD.nil0) (by rw[hd])|exact fin AS1 (by rw[hd];exact FzD.nil0) (by rw[hd])
   |some n=>
    rw[hv] at h2 e;have e:∀ K Kp,XB γ base 16 [.agg (eE mv.acts[k].to),x] (wr (Go.Sy.nw s [.int .i64 0,.int .i64 0,.int .i64 0,.str [],.nils,.int .i64 0,.int .i64 0]) s.nx 0 (seE mv.acts[k])) K Kp=K (.tup [.int .i64 n,.bool true]) (wr (Go.Sy.nw s [.int .i64 0,.int .i64 0,.int .i64 0,.str [],.nils,.int .i64 0,.int .i64 0]) s.nx 0 (seE mv.acts[k])):=e;dsimp only at h2;by_cases g:mv.acts[k].var<0\/(sv.length:Int)<=mv.acts[k].var
    .rw[if_pos g] at h2;rw[h2] at hd
     (have zz:=aI C0.r C1.r;repeat' first|apply jb<;>intro _|simp(disch:=try exact jW) only[ja i2,ja i3,ja i4,ja i10,ja i31,ja hi,ja hn,Uv,e,eL,C0.q,C1.q,C0.r,C1.r,r8,δ,ε])
     all_goals first|exact fin AS1.bar (by rw[hd];exact FzD.nil0) (by rw[hd])|exact fin AS1 (by rw[hd];exact FzD.nil0) (by rw[hd])|(exfalso;omega)
    .rw[if_neg g] at h2;have g1:¬ mv.acts[k].var<0:=λh=>g (.inl h);have g2:¬ (sv.length:Int)<=mv.acts[k].var:=λh=>g (.inr h);rcases O with ⟨rfl,_⟩|⟨b,ex,rfl,C,hb2⟩
     .simp at h3;omega
     .have hbn:=C.lt;have hlen:qp s.h b=out.length:=by rw[C.len,Qad]
      have hz:mv.acts[k].var.toNat+1<=out.length:=om
      have gx:mv.acts[k].var<(out.length:Int):=om
      have gx0:0<=mv.acts[k].var:=om
      (have zz:=aI C0.r (aI C1.r C.r);repeat' first|apply jb<;>intro _|simp(disch:=try exact jW) only[ja i2,ja i3,ja i4,ja i10,ja i31,ja hi,ja hn,Uv,e,eL,g1,g2,gx,C0.q,C1.q,C.q,C0.r,C1.r,C.r,r8,δ,ε])
      have hC2:Cl (wr (wr (Go.Sy.nw s [.int .i64 0,.int .i64 0,.int .i64 0,.str [],.nils,.int .i64 0,.int .i64 0]) s.nx 0 (seE mv.acts[k])) b mv.acts[k].var.toNat [.int .i64 n]) b ((out.set mv.acts[k].var.toNat n).map (.int .i64)):=by
       rw[<-Hf _ _ _ om];exact((C.nw _).wrO om _ _).wr _ _
      refine⟨⟨⟨_,.slice b 0 out.length out.length 1 ex,h2,by simp[h3],.inr ⟨b,ex,by rw[Qbx],hC2,hb2⟩,?_⟩,AS1.wr2 om _ _,?_,?_,?_,VS1.wr om _ _,?_,?_,?_,?_⟩,?_,?_⟩;all_goals first
       |(simp(disch:=decide) only[jm,ju,Qbx];done)
       |(simp(disch:=decide) only[jm,Qbx];assumption)
       |(simp only[jg,jn];omega)
       |exact((C0.nw _).wrO om _ _).wrO om _ _
       |exact((C1.nw _).wrO om _ _).wrO om _ _
       |omega
  .obtain⟨⟨out,v,h2,h3,O,i10⟩,AS,n2,C0,C1,VS,i2,i3,i4,i31⟩:=hI;rw[Qbw,wb] at h2;rw[h2] at hd;dsimp only at hd;have E25:=λK Kp=>(jcK hb m out hm om).xb (st:=s) (JZ (by simp[pa,pc,Ju]) (qK O.lend zO)) (λst=>hb.no 25 dc _ _) K Kp;unfold mdE at E25
   (have zz:=aI C0.r C1.r;repeat' first|apply jb<;>intro _|simp(disch:=try exact jW) only[ja i2,ja i3,ja i4,ja i10,E25,JH,C0.q,C1.q,C0.r,C1.r,r8,δ,ε])
   first
    |exact fin AS.bar (by rw[hd];exact O.fz om) (by rw[hd])
    |exact fin AS (by rw[hd];exact O.fz om) (by rw[hd])
 .have EH:∀ K Kp,XB γ base 17 [.agg (eE mv.when),x] (nw (nw st.bare (mdE m)) (moE mv)) K Kp=K (.tup [.bool false,.bool (yb sv mv.when).isSome]) (nw (nw st.bare (mdE m)) (moE mv)):=by simpa[JH,h1] using EH
  rw[if_neg h1] at hd;repeat' first|apply jb<;>intro _|simp(disch:=try exact dzG) only[hbn,fW,EH,JH,r8,δ,ε]
  all_goals first|exact fin A0.bar (by rw[hd];exact FzD.nil0) (by rw[hd])|exact fin A0 (by rw[hd];exact FzD.nil0) (by rw[hd])
abbrev SvT:=Lu
def svE (s:SvT):List AV:=[svV s]
theorem w8 (s:SvT):(svE s).length=1:=nr rfl
theorem jnn (s:SvT)(k:Nat):(svE s).getD k .bad=([svV s]:List AV).getD k .bad:=nr rfl
theorem jno (s:SvT)(k:Nat):(svE s).drop k=([svV s]:List AV).drop k:=nr rfl
theorem gH (s:SvT):(svE s).all pc=true:=by simp[svE,jin]
theorem jgp (s:SvT):lall AV.cell (svE s)=true:=nr rfl
theorem jra {xs:List SvT}{i:Nat}(h:i<xs.length):jq (Xl (.lptr (fl svE xs) (i * 1)) st) K=K ((svE xs[i]).getD 0 .bad) st:=jcz (k:=0) w8 h dc
theorem jI:type_of% (a4 @w8 @jnn @jno (aI @jgp (frE w8))):=(a4 @w8 @jnn @jno (aI @jgp (frE w8)))
theorem uI {ls:List SvT}{k:Nat}(h:k<ls.length):jq (Xl (.lptr (fl svE ls) k) st) K=K (svV ls[k]) st:=by
 have:=jra (st:=st) (K:=K) h;rw[QaG] at this;exact this
theorem jvj (hb:NB base)(a b:Lu)(ha:a.length<=1099511627776)(hb2:b.length<=1099511627776):Tot base 48 [svV a,svV b] (.bool (decide (a=b))):=hb.tot (jo6 hb a b ha hb2) rfl rfl
theorem r11:type_of%(a8 @jd @jf @je @jc @jh @ji @jk (a4 @jl @jj @jI @rzZ)):=a8 @jd @jf @je @jc @jh @ji @jk (a4 @jl @jj @jI @rzZ)
theorem jtB (hb:NB base)(a b:Lu)(ha:a.length<=1099511627776)(hb2:b.length<=1099511627776):Tot base 47 [svV a,.lptr [svV b] 0] (.bool (decide (a=b))):=by
 refine hb.tot ?_ (by unfold svV;simp[pa,pc,zM]) rfl;have e:=jvj hb a b ha hb2;generalize svV a=va at *;generalize svV b=vb at *;refine jE jt4 haa (hb.pur 47 1 dc) ?_;simp only[jpD,jr,ζ,η,θ,κ];rw[(by unfold jkk;simp only[qq];rfl:jkk=_)];repeat' first|apply jb<;>intro _|simp(disch:=try exact dzG) only[JD,e,r11,δ,ε]
 exact G0.v rfl rfl
theorem jtF (hb:NB base)(f:Nat)(ls:List SvT)(hl:ls.length<=BIG)(t:SvT)(hf:∀ x∈ls,Tot base f [svV x,.lptr [svV t] 0] (.bool (decide (x=t)))):PL γ base 63 [.lst ls.length (fl svE ls),.fn f [.lptr [svV t] 0]] (.ok (.int .i64 (fi (λx=>decide (x=t)) ls))):=by
 refine zL jt0 haa (hb.pur 63 5 dc) rfl ?_;simp only[jpz,jr,ζ,η,θ,κ];rw[(by unfold jkg;simp only[qq];rfl:jkg=_)];unfold BIG at hl;repeat' first|apply jb<;>intro _|simp(disch:=try exact dzG) only[r11,δ,ε]
 refine jV ls.length (λk L s=>(∀ j (hj:j<ls.length),j<k->(λx=>decide (x=t)) ls[j]=false)/\Has L 0 (.lst ls.length (fl svE ls))/\Has L 1 (.fn f [.lptr [svV t] 0])) ?_ (λk L s hk hI hi hn=>?_) (λL s hI=>?_)
 .refine⟨λj _ hj=>absurd hj (Qas _),?_⟩;simp(disch:=decide) only[h12]
 .obtain⟨h0,i0,i1⟩:=hI;have e:=hf ls[k] (ω hk);repeat' first|apply jb<;>intro _|simp(disch:=try exact dzG) only[ja i0,ja i1,ja hi,ja hn,uI,e,r11,δ,ε]
  .rename_i h;exact G0.v (congrArg _ (u7 hk (λj hj=>h0 j om hj) (by simpa using h)).symm) rfl
  .rename_i h;refine⟨⟨λj hj hjk=>?_,?_⟩,?_⟩
   .rcases Qat j k with h2|h2
    .have:=h0 j hj h2;simpa using this
    .have:j=k:=om
     subst this;simpa using h
   .simp(disch:=decide) only[h12,i0,i1]
   .simp(disch:=decide) only[h12,hi,hn]
 .obtain⟨h0,i0,i1⟩:=hI;repeat' first|apply jb<;>intro _|simp(disch:=try exact dzG) only[r11,δ,ε]
  exact G0.v (congrArg _ (u6 λj hj=>h0 j hj hj).symm) rfl
theorem jjB {t:SvT}:∀ {ls:List SvT},decide (0<=fi (λx=>decide (x=t)) ls)=decide (t∈ls)
 |[]=>by simp[fi]
 |x :: xs=>by
  have ih:=jjB (t:=t) (ls:=xs);by_cases h:x=t
  .simp[fi,h]
  .have h2:t∈x :: xs↔t∈xs:=by simp[Ne.symm h]
   rw[decide_eq_decide] at ih ⊢;rw[h2,<-ih];have e:fi (λx=>decide (x=t)) (x :: xs)=if fi (λx=>decide (x=t)) xs<0 then -1 else fi (λx=>decide (x=t)) xs+1:=by simp[fi,h]
   rw[e];split<;>omega
theorem jtH (hb:NB base)(f:Nat)(ls:List SvT)(hl:ls.length<=BIG)(t:SvT)(hf:∀ x∈ls,Tot base f [svV x,.lptr [svV t] 0] (.bool (decide (x=t)))):PL γ base 46 [.lst ls.length (fl svE ls),.fn f [.lptr [svV t] 0]] (.ok (.bool (decide (t∈ls)))):=by
 refine zL jt5 haa (hb.pur 46 5 dc) rfl ?_;simp only[jpE,jr,ζ,η,θ,κ];rw[(by unfold jkl;simp only[qq];rfl:jkl=_)];have e:∀ (st:St) (K Kp:AV->St->Prop),XB γ base 63 [.lst ls.length (fl svE ls),.fn f [.lptr [svV t] 0]] st K Kp=_:=λst K Kp=>(jtF hb f ls hl t hf).xb (JZ (by simp[pa,pc,za gH]) (qK rfl rfl)) (λst=>hb.no 63 dc _ _) K Kp;have:=jjB (ls:=ls) (t:=t);repeat' first|apply jb<;>intro _|simp(disch:=try exact dzG) only[e,r11,δ,ε]
 exact G0.v (congrArg AV.bool this) rfl
theorem jaC :∀ {xs ys:List MoveT} {out:List Lu},zV vars sv (xs ++ ys) out=zV vars sv ys (zV vars sv xs out)
 |[],ys,out=>rfl
 |x :: xs,ys,out=>by rw[Qag,zV,zV,jaC]
theorem jfe {xs:List MoveT}{k:Nat}(hk:k<xs.length){out:List Lu}(h:zV vars sv (xs.take k) []=out):zV vars sv (xs.take (k+1)) []=if(Jx vars xs[k] sv).2=true/\(Jx vars xs[k] sv).1∉out then out ++ [(Jx vars xs[k] sv).1] else out:=by
 rw[yt hk,jaC,h,zV,zV]
theorem jtI (hb:NB base)(f:Nat)(ls:List SvT)(hl:ls.length<=BIG)(t:SvT)(hf:∀ x∈ls,Tot base f [svV x,.lptr [svV t] 0] (.bool (decide (x=t)))){q n:Nat}(hn:n=ls.length)(h:Lr st v n (fl svE ls))(C:Cl st q [svV t])(K Kp:AV->St->Prop) :
  XB γ base 46 [v,.fn f [.ptr q 0]] st K Kp=K (.bool (decide (t∈ls))) st:=by
 subst hn;refine(jtH hb f ls hl t hf).xb (qK (h.lend (za gH ls)) (qK ?_ zO)) (λst=>hb.no 46 dc _ _) K Kp;show(QD st.h [.ptr q 0]).map (AV.fn f)=_;have:wo st.h (.ptr q 0)=some (.lptr (svE t) 0):=uj C (UL (gH t) (jgp t));simp only[QD,this];rfl
theorem V1.up {p q:Nat}(h:V1 p s v sv)(hq:p<=q):V1 q s v sv:=h.imp id λ⟨c,ex,e,C,hc⟩=>⟨c,ex,e,C,om⟩
theorem Lv.apl {hi n z:Nat}{s':St}{cs:List AV}(h:Lv lo hi s v n cs z)(a:ApL lo2 s s')(hh:hi<=lo2):Lv lo hi s' v n cs z:=h.imp id λ⟨c,h1,h2,h3,h4,h5,h6⟩=>⟨c,h1,h2,h3,a.cl c _ om h4,h5,h6⟩
theorem jsT (hb:NB base)(hC:CloneP base)(m:ModT)(B:ModB m)(sv:SvT)(hs:sv.length<=1000000000000)(V:V1 st.nx st x sv)(hK:∀ s',ApL st.nx st s'->K (.lst (yw m sv).length (fl svE (yw m sv))) s'):XB γ base 27 [.agg (mdE m),x] st K Kp:=by
 have hm:=B.vars;have hmv:=B.moves;have hd:yw m sv=if qa m.vars sv=true then(if(zV m.vars sv m.moves []).length=0 then [sv] else zV m.vars sv m.moves []) else []:=rfl
 have hbn:st.bare.nx=st.nx:=rfl;have fin:∀ {s:St} {v:AV},ApL st.nx st.bare s->FzD st.nx 9 s v (.lst (yw m sv).length (fl svE (yw m sv)))->∃ u ks,fz 9 s.h v=some (u,ks)/\K u (back st (kills ks s)):=λa f=>jnD f a hK;have C0:Cl (nw st.bare (mdE m)) st.nx (mdE m):=Cl.new st.bare (mdE m);have A0:ApL st.nx st.bare (nw st.bare (mdE m)):=(ApL.refl st.nx st.bare).nw2 _;have V0:V1 st.nx (nw st.bare (mdE m)) x sv:=V.bar.nw _;have E25:=λK Kp=>(jcK hb m sv hm om).xb (st:=nw st.bare (mdE m)) (aZ':=[.agg (mdE m),x]) (JZ (by simp[pa,pc,Ju]) (qK V0.lend zO)) (λst=>hb.no 25 dc _ _) K Kp;have n0:(nw st.bare (mdE m)).nx=st.nx+1:=rfl;refine VK jub haa (hb.pur 27 2 dc) (hb.no 27 dc _ _) ?_;simp only[jpK,jr,ζ,η,θ,κ];rw[(by unfold jkr;simp only[qq];rfl:jkr=_)];generalize hp:st.nx=p at *;cases hr:qa m.vars sv with
 |false=>
  rw[hr] at E25 hd;rw[if_neg dc] at hd;repeat' first|apply jb<;>intro _|simp(disch:=try exact dzG) only[hbn,E25,JH,r11,δ,ε]
  all_goals exact fin (by assumption) (by rw[hd];exact FzD.nils)
 |true=>
  rw[hr] at E25 hd;rw[if_pos rfl] at hd;repeat' first|apply jb<;>intro _|simp(disch:=try exact dzG) only[hbn,E25,JH,r11,δ,ε]
  refine jV m.moves.length (λk L s=>(∃ out v,zV m.vars sv (m.moves.take k) []=out/\out.length<=k/\Lv (p+1) s.nx s v out.length (fl svE out) 1/\Has L 5 v)/\ApL p st.bare s/\p+1<=s.nx/\Cl s p (mdE m)/\V1 p s x sv/\Has L 1 x/\Has L 2 (.ptr p 0)/\Has L 15 (.lst m.moves.length (fl moE m.moves))) ?_ (λk L s hk hI hi hn=>?_) (λL s hI=>?_)
  .refine⟨⟨[],.nils,rfl,μ _,Lv.nil,?_⟩,A0,om,C0,V0,?_,?_,?_⟩<;>exact hsX
  .obtain⟨⟨out,v,h1,h2,VL,i5⟩,AS,n1,CS,VS,i1,i2,i15⟩:=hI;have b:=B.acts m.moves[k] (ω hk);have hS:=jfe hk h1;have hR:(Jx m.vars m.moves[k] sv).2=true->qa m.vars (Jx m.vars m.moves[k] sv).1=true:=λh=>vE (mv:=m.moves[k]) (s:=sv) (by rw[<-h]);have hO:∀ x∈out,x.length=m.vars.length:=λx hx=>by
    rw[<-h1] at hx;rcases uS hx with h|⟨w,_,e⟩
    · cases h
    · exact(qM.1 (vE e)).1
   obtain⟨u,hu⟩:∃ u,u=wr (Go.Sy.nw s [.int .i64 0,.int .i64 0,.str [],AV.nils,AV.int IntKind.i64 0,AV.int IntKind.i64 0,AV.nils]) s.nx 0 (moE m.moves[k]):=⟨_,rfl⟩;have un:u.nx=s.nx+1:=by rw[hu];rfl
   have AU:ApL p st.bare u:=by rw[hu];exact(AS.nw2 _).wr2 om _ _
   have CU:Cl u p (mdE m):=by rw[hu];exact(CS.nw _).wrO om _ _
   have VU:V1 p u x sv:=by rw[hu];exact(VS.nw _).wr om _ _
   have LU:Lv (p+1) s.nx u v out.length (fl svE out) 1:=by
    rw[hu];simp(disch:=first|omega|(simp only[jg,jn];omega)) only[jG,jA];exact VL
   (have zz:=@CS.r;repeat' first|apply jb<;>intro _|simp(disch:=try exact jW) only[ja i1,ja i2,ja i5,ja i15,ja hi,ja hn,CS.q,CS.r,r11,δ,ε])
   rw[<-hu];clear hu;refine jsk hb hC m hm m.moves[k] b.1 b.2.1 b.2.2 sv hs (VU.up om) λu2 a=>?_;have n2:=a.nx;have A2:ApL p st.bare u2:=AU.to a om;have C2:Cl u2 p (mdE m):=a.cl p _ om CU;have V2:=VU.keep a om;have L2:=LU.apl a om;obtain⟨p2,hp2⟩:∃ p2,p2=s.nx:=⟨_,rfl⟩;rw[<-hp2] at L2;clear AU CU VU LU AS CS VS VL a;generalize Jx m.vars m.moves[k] sv=d at hS hR;obtain⟨t,q⟩:=d;dsimp only at hS hR;have tp:(svV t).plain=true:=rfl;have tcl:(svV t).cells.length=1:=rfl;have tc:(svV t).cells=[svV t]:=rfl;have tl:lall AV.cell [svV t]=true:=rfl;have tl':lall AV.cell (svV t).cells=true:=rfl;obtain⟨S,hSt⟩:∃ S,S=wr (Go.Sy.nw u2 [.nils]) u2.nx 0 [svV t]:=⟨_,rfl⟩;have VS:Lv (p+1) p2 S v out.length (fl svE out) 1:=by
    rw[hSt];simp(disch:=first|omega|(simp only[jg,jn];omega)) only[jG,jA];exact L2
   have AS:ApL p st.bare S:=by rw[hSt];exact(A2.nw2 _).wr2 om _ _
   have CS:Cl S p (mdE m):=by rw[hSt];exact(C2.nw _).wrO om _ _
   have US:V1 p S x sv:=by rw[hSt];exact(V2.nw _).wr om _ _
   have CX:Cl S u2.nx [svV t]:=by
    rw[hSt];exact(Cl.new u2 [AV.nils]).wr0 rfl
   have nS:S.nx=u2.nx+1:=by rw[hSt];rfl
   cases q with
   |false=>
    rw[if_neg hac] at hS;repeat' first|apply jb<;>intro _|simp(disch:=try exact dzG) only[ja i1,ja i2,ja i5,ja i15,ja hi,ja hn,tc,r11,δ,ε]
    rw[<-hSt];refine⟨⟨⟨out,v,hS,om,VS.up om,?_⟩,AS,om,CS,US,?_,?_,?_⟩,?_,?_⟩<;>exact hsX
   |true=>
    have ht:=(qM.1 (hR rfl)).1;repeat' first|apply jb<;>intro _|simp(disch:=try exact dzG) only[ja i1,ja i2,ja i5,ja i15,ja hi,ja hn,tc,r11,δ,ε]
    rw[<-hSt];clear hSt;refine Eq.mpr (jtI hb 47 out (by unfold BIG;omega) t (λx hx=>jtB hb x t (by have:=hO x hx;omega) om) rfl VS.lr CX _ _) ?_;have A:=λst bv xc xx K h hv=>@JK (p+1) p2 out.length 1 st v (fl svE out) K 24 bv xc xx h dc om om hv;by_cases hin:t∈out
    · rw[if_neg (λh=>h.2 hin)] at hS;rw[decide_eq_true hin];repeat' first|apply jb<;>intro _|simp(disch:=try exact dzG) only[ja i1,ja i2,ja i5,ja i15,ja hi,ja hn,r11,δ,ε]
      refine⟨⟨⟨out,v,hS,om,VS.up om,?_⟩,AS,om,CS,US,?_,?_,?_⟩,?_,?_⟩<;>exact hsX
    · rw[if_pos ⟨rfl,hin⟩] at hS;rw[decide_eq_false hin];have hX:rat S.h u2.nx 0=svV t:=CX.cell 0 hac
      (have zz:=a4 @VS @jG @jA @CX.r;repeat' first|apply jb<;>intro _|simp(disch:=try exact jW) only[ja i1,ja i2,ja i5,ja i15,ja hi,ja hn,hX,tc,A,CX.q,VS,jG,jA,CX.r,r11,δ,ε])
      have VN:Lv (p+1) p2 (Go.Sy.nw S [svV t]) v out.length (fl svE out) 1:=by
       simp(disch:=omega) only[jG];exact VS
      have V3:=VN.put (news:=[svV t]) rfl (by rw[jg];omega) (m:=S.nx+1+1) (by rw[jg]);have e3:fl svE (out ++ [t])=fl svE out ++ [svV t]:=by rw[QH,Qf];rfl
      have AN:ApL p st.bare (aps v (Go.Sy.nw S [svV t]) [svV t]):=⟨by rw[jp,jg];have:=AS.nx;omega,by rw[Yw];exact AS.fr,λc hc hl=>(VN.get _ _ c (.inl om) (by rw[jg];have:=AS.nx;omega)).trans ((q8 (by have:=AS.nx;omega)).trans (AS.hp c hc hl))⟩;have UN:V1 p (aps v (Go.Sy.nw S [svV t]) [svV t]) x sv:=US.imp id λ⟨c,ex,e,C,hc⟩=>⟨c,ex,e,(C.nw _).aps VN (.inl om),hc⟩;refine⟨⟨⟨out ++ [t],apv 1 v (Go.Sy.nw S [svV t]),hS,by simp;omega,?_,?_⟩,AN,?_,(CS.nw _).aps VN (.inl om),UN,?_,?_,?_⟩,?_,?_⟩;all_goals first
       |(rw[e3,ν];exact V3)
       |(simp(disch:=decide) only[jm,ju];done)
       |(simp(disch:=decide) only[jm];assumption)
       |omega
  .obtain⟨⟨out,v,h1,h2,VL,i5⟩,AS,n1,CS,VS,i1,i2,i15⟩:=hI;rw[Qab] at h1;rw[h1] at hd;rcases VL with ⟨rfl,h0,_⟩|⟨b,rfl,h0,_,C,hb1,hb2⟩
   .rw[if_pos h0] at hd;repeat' first|apply jb<;>intro _|simp(disch:=try exact dzG) only[ja i1,ja i2,ja i5,r11,δ,ε]
    refine jfK (sv:=sv) hb hC hs VS λw u O q=>?_;have AU:=AS.to q om;have wp:w.plain=true/\w.cells=[w]/\lall AV.cell [w]=true:=by
      rcases O with ⟨_,rfl⟩|⟨b,ex,rfl,_⟩<;>exact⟨rfl,rfl,rfl⟩
    obtain⟨wp,wc,wl⟩:=wp;have wcl:w.cells.length=1:=by rw[wc];rfl
    have A:=λst bv xc xx K hv=>@JK 1 u.nx 0 1 st .nils [] K 24 bv xc xx Lv.nil dc dc dc hv;have un:=q.nx;repeat' first|apply jb<;>intro _|simp(disch:=try exact dzG) only[A,wc,r11,δ,ε]
    have C3:Cl (aps AV.nils (Go.Sy.nw u [w]) [w]) (Go.Sy.nw u [w]).nx [w]:=Cl.new (Go.Sy.nw u [w]) [w];have AE:ApL p st.bare (aps AV.nils (Go.Sy.nw u [w]) [w]):=(AU.nw2 _).nw2 _;have O2:OutV s.nx (aps AV.nils (Go.Sy.nw u [w]) [w]) w sv:=(O.nwO [w]).nwO [w];have F:FzD p 9 (aps AV.nils (Go.Sy.nw u [w]) [w]) (apv 1 AV.nils (Go.Sy.nw u [w])) (.lst 1 [svV sv]):=by
      refine FzD.slice C3.rw_ hac (by rw[jg];omega) ?_;exact FzsD.cons (O2.fz om) .nil
    first
      |exact fin AE.bar (by rw[hd];exact F)
      |exact fin AE (by rw[hd];exact F)
   .have h0':¬ (out.length:Int)=0:=om
    rw[if_neg om] at hd;repeat' first|apply jb<;>intro _|simp(disch:=try exact dzG) only[ja i1,ja i2,ja i5,h0',r11,δ,ε]
    have F:FzD p 9 s (.slice b 0 out.length out.length 1 false) (.lst (yw m sv).length (fl svE (yw m sv))):=by
     rw[hd];refine FzD.slice C.rw_ (by rw[zH w8];exact μ _) om ?_;rw[<-zH w8,Qab];exact FzsD.pc (za gH _)
    first
      |exact fin AS.bar F
      |exact fin AS F
theorem jaB {sv:SvT}:(yw m sv).length<=m.moves.length+1:=by
 unfold yw;split
 .split
  .simp
  .have:=@UB m.vars sv m.moves [];simp at this;omega
 .simp
theorem jo5 (hb:NB base)(a b:Lu)(ha:a.length<=1099511627776)(hb2:b.length<=1099511627776):PX γ base 29 [svV a,svV b] (.ok (.bool (decide (a=b)))):=by
 unfold svV;have hl:((a.length:Int)=(b.length:Int))=(a.length=b.length):=by rw[eq_iff_iff];omega
 refine jE jt9 haa (hb.pur 29 1 dc) ?_;simp only[jpI,jr,ζ,η,θ,κ];rw[(by unfold jkp;simp only[qq];rfl:jkp=_)];repeat' first|apply jb<;>intro _|simp(disch:=try exact dzG) only[hl,r11,δ,ε]
 .rename_i h;exact G0.v (congrArg AV.bool (decide_eq_false λk=>h (by rw[k])).symm) rfl
 .rename_i h;have h:a.length=b.length:=by simpa using h
  refine jV a.length (λk L st=>(∀ j (h1:j<a.length) (h2:j<b.length),j<k->a[j]=b[j])/\Has L 0 (.lst a.length (a.map (.int .i64)))/\Has L 1 (.lst b.length (b.map (.int .i64)))) ?_ (λk L s hk hI hi hn=>?_) (λL s hI=>?_)
  .refine⟨λj h1 h2 hj=>absurd hj (Qas _),?_,?_⟩<;>exact hsX
  .obtain⟨h0,i0,i1⟩:=hI;have hks:k<b.length:=om
   repeat' first|apply jb<;>intro _|simp(disch:=try exact dzG) only[ja i0,ja i1,ja hi,ja hn,Qx,r11,δ,ε]
   .rename_i h3;exact G0.v (congrArg AV.bool (decide_eq_false λw=>h3 (by subst w;rfl)).symm) rfl
   .rename_i h3;refine⟨⟨λj h1 h2 hj=>?_,?_,?_⟩,?_,?_⟩
    .by_cases e:j=k
     .subst e;simpa using h3
     .exact h0 j h1 h2 om
    all_goals exact hsX
  .obtain⟨h0,i0,i1⟩:=hI;repeat' first|apply jb<;>intro _|simp(disch:=try exact dzG) only[r11,δ,ε]
   exact G0.v (congrArg AV.bool (decide_eq_true (Qbm h λi h1 h2=>h0 i h1 h2 h1)).symm) rfl
theorem jnT (hb:NB base)(a b:Lu)(ha:a.length<=1099511627776)(hb2:b.length<=1099511627776):Tot base 29 [svV a,svV b] (.bool (decide (a=b))):=hb.tot (jo5 hb a b ha hb2) rfl rfl
theorem jfW (hb:NB base)(ls:List SvT)(hl:ls.length<=BIG)(t:SvT)(ht:t.length<=1099511627776)(hx:∀ x∈ls,x.length<=1099511627776):PL γ base 32 [.lst ls.length (fl svE ls),svV t] (.ok (.bool (decide (t∈ls)))):=by
 unfold BIG at hl;obtain⟨vt,hvt⟩:∃ vt,vt=svV t:=⟨_,rfl⟩;rw[<-hvt];refine zL jt8 haa (hb.pur 32 5 dc) rfl ?_;simp only[jpH,jr,ζ,η,θ,κ];rw[(by unfold jko;simp only[qq];rfl:jko=_)];repeat' first|apply jb<;>intro _|simp(disch:=try exact dzG) only[r11,δ,ε]
 refine jV ls.length (λk L s=>(∀ j (hj:j<ls.length),j<k->ls[j]≠t)/\Has L 1 vt/\Has L 7 (.lst ls.length (fl svE ls))) ?_ (λk L s hk hI hi hn=>?_) (λL s hI=>?_)
 .refine⟨λj _ hj=>absurd hj (Qas _),?_⟩;simp(disch:=decide) only[h12]
 .obtain⟨h0,i1,i7⟩:=hI;have e:=jnT hb ls[k] t (hx _ (ω hk)) ht;rw[<-hvt] at e;repeat' first|apply jb<;>intro _|simp(disch:=try exact dzG) only[ja i1,ja i7,ja hi,ja hn,uI,<-hvt,e,r11,δ,ε]
  .rename_i h;exact G0.v (congrArg AV.bool (decide_eq_true (h▸ω hk)).symm) rfl
  .rename_i h;refine⟨⟨λj hj hjk=>?_,?_,?_⟩,?_,?_⟩
   .by_cases e:j=k
    .subst e;exact h
    .exact h0 j hj om
   all_goals exact hsX
 .obtain⟨h0,i1,i7⟩:=hI;repeat' first|apply jb<;>intro _|simp(disch:=try exact dzG) only[r11,δ,ε]
  refine G0.v (congrArg AV.bool (decide_eq_false λh=>?_).symm) rfl;obtain⟨j,hj,e⟩:=Qbi.1 h;exact h0 j hj hj e
theorem kz (hb:NB base)(m:ModT)(sv:SvT)(hm:m.vars.length<=1000000)(hs:sv.length<=1099511627776):Tot base 13 [.agg (mdE m),svV sv] (.bool (qa m.vars sv)):=by
 refine hb.tot ?_ (by unfold svV;simp[pa,pc,Ju,zM]) rfl;unfold svV;have hl:((sv.length:Int)=(m.vars.length:Int))=(sv.length=m.vars.length):=by rw[eq_iff_iff];omega
 refine jE jum haa (hb.pur 13 1 dc) ?_;simp only[jpV,jr,ζ,η,θ,κ];rw[(by unfold jkC;simp only[qq];rfl:jkC=_)];repeat' first|apply jb<;>intro _|simp(disch:=try exact dzG) only[hl,r11,δ,ε]
 refine yA (λmm L s=>∃ (k:Nat) (q:Bool),k<=sv.length/\mm=sv.length - k/\(0<k->sv.length=m.vars.length)/\(q=true↔sv.length=m.vars.length/\∀ j (h1:j<m.vars.length) (h2:j<sv.length),j<k->m.vars[j].lo<=sv[j]/\sv[j]<=m.vars[j].hi)/\1<=s.nx/\Cl s 0 (mdE m)/\Has L 1 (.lst sv.length (sv.map (.int .i64)))/\Has L 2 (.ptr 0 0)/\Has L 5 (.bool q)/\Has L 6 (.int .i64 (k:Int))) ?_ sv.length ?_
 .rintro mm L s ⟨k,q,hk,rfl,h1,h2,n1,C0,i1,i2,i5,i6⟩;unfold WB;by_cases hlt:k<sv.length
  .have hlt':(k:Int)<(sv.length:Int):=om
   have e1:((k+1:Nat):Int)=(k:Int)+1:=om
   cases q with
   |false=>
    (have zz:=C0.r;repeat' first|apply jb<;>intro _|simp(disch:=try exact jW) only[ja i1,ja i2,ja i5,ja i6,hlt',C0.q,C0.r,r11,δ,ε])
    refine G0.v (congrArg AV.bool (wC λw=>?_).symm) rfl;exact absurd (h2.2 ⟨w.1,λj a b _=>w.2 j a b⟩) dc
   |true=>
    have hq:=h2.1 rfl;have hkv:k<m.vars.length:=om
    (have zz:=C0.r;repeat' first|apply jb<;>intro _|simp(disch:=try exact jW) only[ja i1,ja i2,ja i5,ja i6,hlt',Qx,C0.q,C0.r,r11,δ,ε])
    .rename_i h3;refine⟨sv.length - (k+1),om,k+1,decide (sv[k]<=m.vars[k].hi),om,rfl,λ_=>hq.1,?_,n1,C0,?_,?_,?_,?_⟩
     .rw[decide_eq_true_eq];refine⟨λh=>⟨hq.1,λj a b hj=>?_⟩,λh=>(h.2 k hkv hlt om).2⟩;by_cases e:j=k
      .subst e;exact⟨h3,h⟩
      .exact hq.2 j a b om
     all_goals first
      |(rw[e1];simp(disch:=decide) only[jm,ju];done)
      |(simp(disch:=decide) only[jm,ju];done)
      |(simp(disch:=decide) only[jm];assumption)
    .rename_i h3;refine⟨sv.length - (k+1),om,k+1,false,om,rfl,λ_=>hq.1,?_,n1,C0,?_,?_,?_,?_⟩
     .exact⟨(λh=>by cases h),λh=>absurd (h.2 k hkv hlt om).1 h3⟩
     all_goals first
      |(rw[e1];simp(disch:=decide) only[jm,ju];done)
      |(simp(disch:=decide) only[jm,ju];done)
      |(simp(disch:=decide) only[jm];assumption)
  .have hlt':¬ (k:Int)<(sv.length:Int):=om
   have hke:k=sv.length:=om
   have hqr:qa m.vars sv=q:=by
    cases q with
    |true=>exact qM.2 ⟨(h2.1 rfl).1,λj a b=>(h2.1 rfl).2 j a b om⟩
    |false=>exact wC λw=>absurd (h2.2 ⟨w.1,λj a b _=>w.2 j a b⟩) dc
   rw[hqr]
   (have zz:=C0.r;repeat' first|apply jb<;>intro _|simp(disch:=try exact jW) only[ja i1,ja i2,ja i5,ja i6,hlt',C0.q,C0.r,r11,δ,ε])
   all_goals exact G0.v rfl rfl
 .refine⟨0,decide (sv.length=m.vars.length),om,rfl,λh=>absurd h (Qbe _),?_,by(first|omega|(simp only[jg,jn,jt,jp,jo];first|done|omega)),by(try exact cyG),?_,?_,?_,?_⟩
  .rw[decide_eq_true_eq];exact⟨λh=>⟨h,λj a b hj=>absurd hj (Qas _)⟩,λh=>h.1⟩
  all_goals first
   |(simp(disch:=decide) only[jm,ju];done)
   |(rw[show((0:Nat):Int)=0 from rfl];simp only[ju])
theorem jvb:Go.Ev.isAgg γ 3=some false:=Qa0
theorem jva:Go.Ev.sizeOf γ 3=some 1:=Qa0
theorem sq3 {o:Nat}{h:T AO}(ho:o<qp h b)(hv:rat h b o=v)(hc:eqs v=true):(qb γ 3 (.ptr b o) v h=true)=True:=eq_true (Qz jvb jva ho hv hc)
theorem jaf :∀ {xs ys:List SetT} {out:Lu},Jk sv (xs ++ ys) out=Jk sv ys (Jk sv xs out)
 |[],ys,out=>rfl
 |x :: xs,ys,out=>by rw[Qag,Jk,Jk,jaf]
theorem jov {xs:List SetT}{k:Nat}(hk:k<xs.length)(h:Jk sv (xs.take k) sv=out):Jk sv (xs.take (k+1)) sv=out.set xs[k].var.toNat (zQ sv xs[k].to):=by
 rw[yt hk,jaf,h,Jk,Jk]
theorem jae :∀ {xs:List SetT} {out:Lu},(Jk sv xs out).length=out.length
 |[],out=>rfl
 |x :: xs,out=>by rw[Jk,jae,Qbx]
theorem jtx:Go.Ev.isAgg γ 35=some true:=Qa0
theorem jtw:Go.Ev.sizeOf γ 35=some 3:=Qa0
theorem jty {h:T AO}(ho:3<=qp h b)(hv:rats h b 0 3=mdE m):(qb γ 35 (.ptr b 0) (.agg (mdE m)) h=true)=True:=eq_true (Zq jtx jtw dc om hv rfl)
theorem jbx {c:List AV}{q p:Bool}(h:FzsD 0 7 s c (mdE m))(h2:q=p):G0 (.tup [.agg (mdE m),.bool p]) (.tup [.agg c,.bool q]) s:=by
 subst h2;exact FzD.tup (.cons (.agg h) (.cons (.pc rfl) .nil))
theorem jiW :FzsD 0 7 s [.nils,.nils,.nils] (mdE md0):=.cons .nils (.cons .nils (.cons .nils .nil))
theorem jrt (hb:NB base)(hP:PI base)(src:SrcT)(wr:WrS src):Tot base 10 [.agg (srE src)] (.tup [.agg (mdE (Qr src).1),.bool (Qr src).2]):=by
 refine hb.tot ?_ (by simp[pa,gI]) rfl;have E35:=jj9 hb src wr;unfold jgn at E35;have hd:Qr src=match Qm src with|none=>(md0,false)|some t=>if 5000<t.length then(md0,false) else((zp t [116,114,117,101]).m,decide ((zp t [116,114,117,101]).c=0/\(zp t [116,114,117,101]).l=0/\(zp t [116,114,117,101]).k=0) && decide (JP (zp t [116,114,117,101]).m.vars<=300)):=rfl
 refine jE jun haa (hb.pur 10 1 dc) ?_;simp only[jpW,jr,ζ,η,θ,κ];rw[(by unfold jkD;simp only[qq];rfl:jkD=_)];cases hs:Qm src with
 |none=>
  rw[hs] at E35 hd;have E35:Tot base 35 [.agg (srE src)] (.tup [.str [],.int .i64 141]):=E35;dsimp only at hd;rw[hd];repeat' first|apply jb<;>intro _|simp(disch:=try exact dzG) only[E35,r11,δ,ε]
  all_goals exact jbx jiW rfl
 |some t=>
  rw[hs] at E35 hd;have E35:Tot base 35 [.agg (srE src)] (.tup [.str t,.int .i64 0]):=E35;dsimp only at hd;by_cases h5:5000<t.length
  .have h5':(5000:Int)<(t.length:Int):=om
   rw[if_pos h5] at hd;rw[hd];repeat' first|apply jb<;>intro _|simp(disch:=try exact dzG) only[E35,h5',r11,δ,ε]
   all_goals exact jbx jiW rfl
  .have h5':¬ (5000:Int)<(t.length:Int):=om
   rw[if_neg h5] at hd;rw[hd];have E34:=jsS hb hP t [116,114,117,101] om dc;have ok:=λh=>jcS (l:=t) (f:=[116,114,117,101]) h;unfold gE at E34;generalize zp t [116,114,117,101]=r at E34 ok;obtain⟨m,x,c,l,k⟩:=r;dsimp only at E34 ok ⊢;have E34:Tot base 34 [.str t,.str [116,114,117,101]] (.tup [.agg (mdE m),.agg (eE x),.agg [.int .i64 c,.int .i64 l,.int .i64 k]]):=E34;by_cases hz:c=0/\l=0/\k=0
   .have V:=(ok hz.1).1;have E36:=λst K Kp=>(jcE hb m.vars V.len m.enums.length m.moves.length (fl enE m.enums) (fl moE m.moves)).pa (by simp[pa,pc]) (λst=>hb.no 36 dc _ _) st K Kp;rw[decide_eq_true hz,Qbu];have E36:∀ (st:St) (K Kp:AV->St->Prop),XB γ base 36 [.agg (mdE m)] st K Kp=K (.int .i64 (JP m.vars)) st:=E36;have f2:(nw (nw st0 (srE src)) [AV.nils,AV.nils,AV.nils]).nx=2:=rfl;have CX:=((((((f2▸Cl.new (nw (nw st0 (srE src)) [AV.nils,AV.nils,AV.nils]) [AV.nils,AV.nils,AV.nils]:Cl (nw (nw (nw st0 (srE src)) [AV.nils,AV.nils,AV.nils]) [AV.nils,AV.nils,AV.nils]) 2 [AV.nils,AV.nils,AV.nils]).nw [AV.int .i64 0,AV.int .i64 0,AV.str [],AV.nils,AV.int .i64 0,AV.int .i64 0]).nw [AV.int .i64 0,AV.int .i64 0,AV.int .i64 0]).wr0 (c':=mdE m) rfl).wrO (c:=3) dc 0 (eE x)).wrO (c:=4) dc 0 [AV.int .i64 0,AV.int .i64 0,AV.int .i64 0]);have sm:=jty (by rw[CX.len];exact μ 3) (CX.rats0 rfl);obtain⟨rfl,rfl,rfl⟩:=hz;repeat' first|apply jb<;>intro _|simp(disch:=try exact dzG) only[E35,h5',E34,jni,jnh,jng,fEq,E36,sm,r11,δ,ε]
    all_goals exact jbx (FzsD.pc (Ju m)) rfl
   .rw[decide_eq_false hz,Bool.false_and];repeat' first|apply jb<;>intro _|simp(disch:=try exact dzG) only[E35,h5',E34,jni,jnh,jng,fEq,hz,r11,δ,ε]
    all_goals exact jbx (FzsD.pc (Ju m)) rfl
def jky:XC:=(ov [TU 1,O6 2] (OV [TJ 10 0 oB [],Ln 11 1 [((0,1),10)],oy 3 11] (T8 [OP 12 1,Oi 13 12,IQ 14 13,I3 15] 0 16 15 14 16 0 1 [Il 17 7 13 15,oV 18 7 17,o9 5 [oK,oB,oK,oB,oB,Tl,oB],o6 7 5 18] (oY (IM (Ln 19 0 []) 6 19) (T8 [oy 20 3,IQ 21 20,I3 22] 2 23 22 21 23 2 3 [Lk 24 20 22,oI 25 24,oy 8 25] (IV [Tm 26 5,oI 27 26,oy 9 27] 4 (.seq (O5 [oz 28 9,oF 29 4 5,oI 30 29,Ix 31 .leq 28 30] 31 (.exit 4)) (IA 5 (.ops [T0 34,TJ 35 0 oB [],oz 36 8,Or 37 1 8 35 36,oz 38 9,TJ 39 1 oB [((0,1),38)],Or 40 1 8 37 39,Ln 41 1 [((0,1),40)],Or 42 1 24 34 41,oy 6 42]) [oz 32 9,TB 33 32 1,oy 9 33]))) 43 22 22 43) (.ops (Tg 44 6 3 44))) 45 15 15 45) (Tg 46 3 2 46)))
def jpR:XF:=⟨[0],jky,[(.t 2)]⟩
theorem jui:jy γ 19=some jpR:=Qa0
def zs4:XC:=(Og (T4 2 4) [Iq 15 9 [],OW 16 15] 16 Tv (Og [T1 18 2,Oy 19 10 18,oz 17 19,Tx 20 17,Ty 21 17,o9 5 [.nils,.nils,.nils],o6 3 5 20,oy 6 21] [T0 22,OW 23 22] 23 [Tb 4] (oY (IM (Ln 24 0 []) 7 24) (T8 [T1 25 5,T6 26 (oR 19 []) [25],IQ 27 26,I3 28] 0 29 28 27 29 0 1 [Lk 30 26 28,oI 31 30,oy 9 31] (OA [T1 32 5,oz 33 9,T6 34 (oR 20 []) [32,33]] 34 [oz 35 7,oz 36 9,Ln 37 1 [((0,1),36)],Or 38 1 24 35 37,oy 7 38]) 39 28 28 39) (O9 [T1 41 5,OZ 42,OB 43 21 41 42,oz 40 43,Tx 44 40,Ty 45 40,oy 10 44,oy 11 45] [T1 46 5,Oy 47 22 46,oy 12 47] (Og [T1 49 5,OZ 50,OB 51 23 49 50,oz 48 51,Tx 52 48,Ty 53 48,oy 13 52,oy 14 53] [oz 54 11,oz 55 7,I5 56 55,OZ 57,IX 58 .leq 56 57,ol 59 (TQ .neq 4 54 58),oz 60 59,II 61 60 14,II 62 60 12,TR 63 60 62,II 64 60 1,Ig 65 60 (.bin .leq 63 64),Ig 66 60 (TQ .neq 4 61 65),Lf 67 60 66] 67 Tv (o5 [oz 68 11,TN 69 68,oz 70 69,I0 71 70 10,Ih 72 70 (.len 71),Ih 73 70 (TK 72),Tc 74 70 73,oz 75 74,II 76 75 11,II 77 75 76,I0 78 77 10,I0 79 77 7,Tn 80 (77,true) 24 [78,79],Lm 81 75 77 80 oX,Td 82 75 81,oz 83 82,I0 84 83 14,Ih 85 83 (IB 84),I0 86 83 85,I0 87 86 13,Ih 88 86 (.len 87),Ih 89 86 (TK 88),Ih 90 83 (.pick 86 89 oX),I0 91 83 90,II 92 91 14,II 93 91 92,I0 94 93 13,I0 95 93 12,Tn 96 (93,true) 24 [94,95],Lm 97 91 93 96 oX,Ih 98 83 (.pick 91 Ii 97),Tc 99 83 98,TM 99]))))))
def ys4:XF:=⟨[0,1],zs4,[(.t 4)]⟩
theorem xs4:jy γ 4=some ys4:=Qa0
def jkx:XC:=(Og (T4 2 4) [T1 7 2,OZ 8,OB 9 13 7 8,OW 10 9] 10 Tv (OY (Oe [OP 11 2,Oi 12 11,IQ 13 12,I3 14] 0 (To 15 14 13) 15 0 1 (oY [oz 16 14,Il 17 7 12 14,oV 18 7 17,o9 6 [oK,oB,oK,oB,oB,Tl,oB],oy 5 16,o6 7 6 18] (.cops [IG (oF 19 5 6),OS 20 19,TC 21 20,IG (Oz 22 21 6 6),IG (Ox 23 21 22),IG (I0 24 21 1),IG (I0 25 21 5),IG (Ih 26 21 (.idxS 1 24 25)),IG (Ox 27 21 26),IG (Ih 28 21 (.bin .neq 23 27)),IG (I7 29 21 28 oX)]) (Tj 29 Tv .skip)) 30 14 1 14 30) [Tb 4]))
def jpQ:XF:=⟨[0,1],jkx,[(.t 4)]⟩
theorem juh:jy γ 20=some jpQ:=Qa0
def jkw:XC:=(ov [TU 2,O6 4,Om 5] (oY [TJ 15 0 oB [],Ln 16 1 [((0,1),15)],oy 6 16] (T8 [OP 17 2,Oi 18 17,IQ 19 18,I3 20] 0 21 20 19 21 0 1 [Il 22 7 18 20,oV 23 7 22,o9 8 [oK,oB,oK,oB,oB,Tl,oB],o6 7 8 23] (ov [O6 9] (oY [oV 25 7 8,Oy 26 43 25,oz 24 26,Tx 27 24,Ty 28 24,oy 10 27,oy 11 28] (T8 [oy 29 6,IQ 30 29,I3 31] 2 32 31 30 32 2 3 [Lk 33 29 31,oI 34 33,oy 13 34] (IV (Tg 35 10 14 35) 4 (.seq (O5 [oz 36 14,oz 37 11,Ix 38 .leq 36 37] 38 (.exit 4)) (IA 5 (Lb [oz 41 9,I5 42 41,OZ 43,Ix 44 .geq 42 43] 44 (TH (O6 4) 5) (.ops [oz 45 9,oz 46 13,oz 47 13,I5 48 47,oz 49 13,I5 50 49,ol 51 (.sl3 30 46 none (some 48) (some 50)),oz 52 14,TJ 53 1 oB [((0,1),52)],Or 54 1 8 51 53,Ln 55 1 [((0,1),54)],Or 56 1 24 45 55,oy 9 56])) [oz 39 14,TB 40 39 1,oy 14 40]))) 57 31 31 57) (.ops (Tg 58 9 6 58)))) 59 20 20 59) (OY (Iz [T0 60,I5 61 60,OZ 62,Ix 63 .gtr 61 62] 63 (TH (O6 4) 5)) [T0 64,TM 64,Tb 5])))
def jpP:XF:=⟨[0,1],jkw,[(.t 4),(.t 5)]⟩
theorem jug:jy γ 21=some jpP:=Qa0
def jkv:XC:=(ov [TU 1,O6 2] (oY (IM (Ln 9 0 []) 3 9) (T8 [T1 10 1,T6 11 (oR 19 []) [10],IQ 12 11,I3 13] 0 14 13 12 14 0 1 [Lk 15 11 13,oI 16 15,oy 5 16] (OA [T1 17 1,Ld 18,T6 19 (oR 20 []) [17,18]] 19 [oz 20 3,Ld 21,Ln 22 1 [((0,1),21)],Or 23 1 24 20 22,oy 3 23]) 24 13 13 24) (OY (IV [I3 6] 2 (.seq (O5 [T0 25,oz 26 3,I5 27 26,I6 28 25 27] 28 (.exit 2)) (IA 3 (TO [IG (T1 31 1),TC 32 3,TC 33 6,IG (Lk 34 32 33),OS 35 34,IG (T6 36 (oR 28 []) [31,35]),IG (IQ 37 36),IG (I3 38)] (Ie 4 (Ob (To 39 38 37) 39 4 5 (ov [Lk 40 36 38,oI 41 40,oy 8 41] (OA [oz 42 3,oz 43 8,OB 44 32 42 43,OW 45 44] 45 [oz 46 3,oz 47 8,Ln 48 1 [((0,1),47)],Or 49 1 24 46 48,oy 3 49])) 50 38 1 38 50))) [T0 29,TB 30 29 1,oy 6 30]))) (Tg 51 3 2 51))))
def jpO:XF:=⟨[0],jkv,[(.t 2)]⟩
theorem juf:jy γ 22=some jpO:=Qa0
def jku:XC:=(ov [TU 2,O6 4,Om 5] (Og [T1 16 2,OZ 17,OB 18 21 16 17,oz 15 18,Tx 19 15,Ty 20 15,oy 6 19,oy 7 20] [oz 21 7,OW 22 21] 22 (TH (O6 4) 5) (oY (IM (ol 23 .mkMap) 8 23) (T8 [oy 24 6,IQ 25 24,I3 26] 0 27 26 25 27 0 1 [oz 28 26,Lk 29 24 26,oI 30 29,oy 9 28,oy 10 30] (.ops [oz 31 8,oz 32 10,Oy 33 44 32,oz 34 9,TB 35 34 1,o4 (.i (.upd 89 31 33 35))]) 36 26 26 36) (OY (IV [I3 11] 2 (.seq (O5 [oz 37 11,T0 38,I5 39 38,I6 40 37 39] 40 (.exit 2)) (IA 3 (TO [IG (T1 43 2),TC 44 6,TC 45 11,IG (Lk 46 44 45),OS 47 46,IG (T6 48 (oR 27 []) [43,47]),IG (IQ 49 48),IG (I3 50)] (Ie 4 (Ob (To 51 50 49) 51 4 5 (ov [Lk 52 48 50,oI 53 52,oy 13 53] (oY [oz 54 13,Oy 55 44 54,oy 14 55] (Id [oz 56 8,oz 57 14,ol 58 (.look 89 56 57 false),ow 59 (O8 .gtr 58)] 59 (.exit 5)) (Lb [T0 60,I5 61 60,OZ 62,Ix 63 .geq 61 62] 63 (TH (O6 4) 5) (ov [T0 64,oz 65 13,Ln 66 1 [((0,1),65)],Or 67 1 24 64 66,oy 6 67] (.ops [oz 68 8,oz 69 14,T0 70,I5 71 70,o4 (.i (.upd 89 68 69 71))]))))) 72 50 1 50 72))) [oz 41 11,TB 42 41 1,oy 11 42]))) [T0 73,TM 73,Tb 5]))))
def jpN:XF:=⟨[0,1],jku,[(.t 4),(.t 5)]⟩
theorem jue:jy γ 23=some jpN:=Qa0
def jkt:XC:=(Og Tv [IZ 6,I5 7 6,OZ 8,I5 9 8,Ix 10 .neq 7 9] 10 Tv (OY (Oe [IZ 11,IQ 12 11,I3 13] 0 (To 14 13 12) 14 0 1 (oY (Tg 15 13 5 15) (.cops [Lc 16,TC 17 5,IG (Lk 18 16 17),OS 19 18,IG (OZ 20),TC 21 5,IG (Lk 22 20 21),OS 23 22,(OB 24 29 19 23,OK),IG (OW 25 24)]) (Tj 25 Tv .skip)) 26 13 1 13 26) [Tb 4]))
def jpM:XF:=⟨[0,1],jkt,[(.t 4)]⟩
theorem jud:jy γ 24=some jpM:=Qa0
def jkq:XC:=(ov [TU 2,O6 4] (Og (IM (Ln 11 0 []) 5 11) [T1 12 2,OZ 13,OB 14 13 12 13,OW 15 14] 15 (Tg 16 5 4 16) (.seq (T8 [Lg 17 2,Oi 18 17,IQ 19 18,I3 20] 0 21 20 19 21 0 1 [Il 22 7 18 20,oV 23 7 22,o9 7 [oB,oB,oK,.nils,oB,oB,.nils],o6 7 7 23] (Id [T1 24 2,oV 25 7 7,OZ 26,T6 27 (oR 50 []) [24,25,26]] 27 (oY [TJ 28 0 oB [],OZ 29,Or 30 1 8 28 29,oy 8 30] (T8 [oF 31 6 7,Oi 32 31,IQ 33 32,I3 34] 2 35 34 33 35 2 3 [Il 36 7 32 34,oV 37 7 36,o9 10 [oB,oB,oB,oK,.nils,oB,oB],o6 7 10 37] (.dops [Tr 38 8,IY 39 0 10,Tt 40 39 39 3,IY 41 1 10,La 42 6 41 41 29,IP (OZ 43),(Iy (OB 44 18 42 43) 0 [(3,3)],OK),IP (Lk 45 38 40),TV 1 45 44]) 46 34 34 46) (OA [Ld 47,oz 48 8,OB 49 32 47 48,OW 50 49] 50 [Ld 51,oz 52 8,Ln 53 1 [((0,1),52)],Or 54 1 24 51 53,oy 5 54]))) 55 20 20 55) (OY (OA [Ld 56,I5 57 56,ow 58 (TK 57)] 58 [Ld 59,OZ 60,Ln 61 1 [((0,1),60)],Or 62 1 24 59 61,oy 5 62]) (Tg 63 5 4 63)))))
def jpJ:XF:=⟨[0,1],jkq,[(.t 4)]⟩
theorem jua:jy γ 28=some jpJ:=Qa0
def jb8:XC:=(oY [TU 1,I3 2,I3 3] (Id [oF 4 5 1,Oi 5 4] 5 (TO [IG (oF 6 6 1),OS 7 6,IG (oF 8 6 1),OS 9 8,IG (Tq 7),IG (oy 3 9)] .ret)) (TO [IG (Tm 10 1),OS 11 10,IG (oF 12 4 1),OS 13 12,IG (Tq 11),IG (oy 3 13)] .ret))
def jlm:XF:=⟨[0],jb8,[(.t 2),(.t 3)]⟩
theorem jqH:jy γ 43=some jlm:=Qa0
def jkh:XC:=(Og [TU 3,IE 4 1,Om 6] [T1 10 3,oz 11 2,OB 12 13 10 11,TN 13 12,oz 14 13,Oq 15 14 0 4,O1 16 14 6 15,II 17 14 2,Li 18 14 18 [16,17],O7 19 14 .neq 18 1,Lf 20 14 19] 20 (Ti 6) (OY (T8 [oF 21 6 4,Oi 22 21,IQ 23 22,I3 24] 0 25 24 23 25 0 1 [Il 26 7 22 24,oV 27 7 26,o9 8 [oB,oB,oB,oK,.nils,oB,oB],o6 7 8 27] (ov [Tw 28 8,Ta 29 28,oz 30 2,OB 31 18 29 30,oy 9 31] (Iz [oz 32 9,OP 33 3,oI 34 33,OP 35 8,oI 36 35,Il 37 7 34 36,Tm 38 37,oI 39 38,IX 40 .lss 32 39,oz 41 40,II 42 41 9,Oq 43 41 0 3,Ow 44 41 43,Oq 45 41 0 8,Ow 46 41 45,Ig 47 41 (.idxS 7 44 46),Oq 48 41 4 47,Ow 49 41 48,Ig 50 41 (.bin .gtr 42 49),Lf 51 41 50] 51 (Ti 6))) 52 24 24 52) [Tb 6]))
def jpA:XF:=⟨[0,1,2],jkh,[(.t 6)]⟩
theorem jt1:jy γ 50=some jpA:=Qa0
end Go.Sy
end
noncomputable section
namespace Go.Sy
open Go.Ev
variable {b lo hi bv xc:Nat}{s:St}{l:List Lu}{p:Lu}{K:AV->St->Prop}{xx:Bool}{vars:List VarT}
def J5 (s:Lu):Ls:=s.flatMap λn=>32 :: Lib.itoa n
def jdO (l:Ls)(v:Nat):Nat:=l.foldl (λv c=>10 * v+(c.toNat - 48)) v
theorem jdN (u:Nat):∀ c∈Lib.decDigits u,48<=c.toNat/\c.toNat<=57:=by
 induction u using Nat.strongRecOn with
 |ind u ih=>
  intro c hc;have e:∀ k,k<10->(UInt8.ofNat (48+k)).toNat=48+k:=λk hk=>by rw[UInt8.toNat_ofNat'];omega
  rw[Lib.decDigits] at hc;split at hc
  .rename_i h;rw[Qaz.1 hc,e _ h];omega
  .rename_i h;rcases Qar.1 hc with hc|hc
   .exact ih (u / 10) om c hc
   .rw[Qaz.1 hc,e _ om];omega
theorem jfG (u:Nat):jdO (Lib.decDigits u) 0=u:=by
 induction u using Nat.strongRecOn with
 |ind u ih=>
  have e:∀ k,k<10->(UInt8.ofNat (48+k)).toNat=48+k:=λk hk=>by rw[UInt8.toNat_ofNat'];omega
  rw[Lib.decDigits];split
  .rename_i h;show 10 * 0+((UInt8.ofNat (48+u)).toNat - 48)=u;rw[e _ h];omega
  .rename_i h;unfold jdO;rw[Qba];show 10 * jdO (Lib.decDigits (u / 10)) 0+((UInt8.ofNat (48+u % 10)).toNat - 48)=u;rw[ih (u / 10) om,e _ om];omega
theorem jfn (n:Int):∀ c∈Lib.itoa n,c≠32:=by
 intro c hc e;subst e;unfold Lib.itoa at hc;split at hc
 .rcases QaJ.1 hc with h|h
  .exact absurd h dc
  .exact absurd (jdN _ _ h).1 dc
 .exact absurd (jdN _ _ hc).1 dc
theorem jmf {n m:Int}(h:Lib.itoa n=Lib.itoa m):n=m:=by
 have no:∀ u l,Lib.decDigits u≠45 :: l:=λu l e=>by
  have:=(jdN u 45 (by rw[e];simp)).1;exact absurd this dc
 unfold Lib.itoa at h;split at h<;>split at h
 .injection h with _ h
  have:=congrArg (jdO · 0) h;simp only[jfG] at this;omega
 .exact absurd h.symm (no _ _)
 .exact absurd h (no _ _)
 .have:=congrArg (jdO · 0) h;simp only[jfG] at this;omega
theorem jo9 {a b r t:Ls}(ha:∀ c∈a,c≠32)(hb:∀ c∈b,c≠32)(hr:∀ c l,r=c :: l->c=32)(ht:∀ c l,t=c :: l->c=32)(h:a ++ r=b ++ t):a=b/\r=t:=by
 induction a generalizing b with
 |nil=>
  cases b with
  |nil=>exact⟨rfl,h⟩
  |cons y b=>exact absurd (hr y (b ++ t) h) (hb y hac)
 |cons x a ih=>
  cases b with
  |nil=>exact absurd (ht x (a ++ r) h.symm) (ha x hac)
  |cons y b=>
   injection h with h1 h2
   obtain⟨e1,e2⟩:=ih (λc hc=>ha c (by simp[hc])) (λc hc=>hb c (by simp[hc])) h2;exact⟨by rw[h1,e1],e2⟩
theorem jdq {s:Lu}:∀ c l,J5 s=c :: l->c=32:=by
 intro c l h;cases s with
 |nil=>cases h
 |cons n s=>
  unfold J5 at h;rw[QaZ] at h;injection h with h _
  exact h.symm
theorem jfm:∀ {s t:Lu},J5 s=J5 t->s=t
 |[],[],_=>rfl
 |[],n :: t,h=>by unfold J5 at h;rw[QaZ] at h;cases h
 |n :: s,[],h=>by unfold J5 at h;rw[QaZ] at h;cases h
 |n :: s,m :: t,h=>by
  unfold J5 at h;rw[QaZ,QaZ] at h;injection h with _ h
  obtain⟨e1,e2⟩:=jo9 (jfn n) (jfn m) (jdq (s:=s)) (jdq (s:=t)) h;rw[jmf e1,jfm e2]
set_option maxRecDepth 100000
open Go.Ev Go.Proofs
def Jc (s:Lu):Lt:=(J5 s).map UInt8.toNat
theorem jmd {s t:Lu}(h:Jc s=Jc t):s=t:=by
 refine jfm ?_;unfold Jc at h;exact(List.map_inj_right λa b=>UInt8.toNat_inj.1).1 h
def wU (p:Lu×Nat):AV×AV:=(.str (Jc p.1),.int .i64 (p.2:Int))
def kvs (l:List Lu):List (Lu×Nat):=l.zipIdx 1
theorem jl7 (l:List Lu)(t:Lu):kvs (l ++ [t])=kvs l ++ [(t,l.length+1)]:=by
 unfold kvs;rw[List.zipIdx_append];simp[QbE]
theorem eqS (a b:Lu):(eqF γ 20 9).run (.str (Jc a)) (.str (Jc b))=some (decide (a=b)):=by
 rw[eq9];by_cases e:a=b
 .rw[e];simp
 .rw[decide_eq_false (λk=>e (jmd k)),decide_eq_false e]
theorem HN (p:Lu):∀ kn:List (Lu×Nat),wu (eqF γ 20 9) (.str (Jc p)) (kn.map wU)=some ((kn.find? λx=>decide (p=x.1)).map λx=>.int .i64 (x.2:Int))
 |[]=>rfl
 |x :: kn=>by
  have ih:=HN p kn;have e:wu (eqF γ 20 9) (.str (Jc p)) ((x :: kn).map wU)=(match (eqF γ 20 9).run (.str (Jc p)) (.str (Jc x.1)) with|some b=>cond b (some (some (.int .i64 (x.2:Int)))) (wu (eqF γ 20 9) (.str (Jc p)) (kn.map wU))|none=>none):=rfl;rw[e,eqS,ih,List.find?_cons];by_cases h:p=x.1<;>simp[h]
theorem jif (p:Lu)(v:Nat):∀ kn:List (Lu×Nat),(∀ x∈kn,p≠x.1)->ua (eqF γ 20 9) (.str (Jc p)) (.int .i64 (v:Int)) (kn.map wU)=some ((kn ++ [(p,v)]).map wU)
 |[],_=>rfl
 |x :: kn,hf=>by
  have hx:¬ p=x.1:=hf x hac;have ih:=jif p v kn λy hy=>hf y (by simp[hy]);have e:ua (eqF γ 20 9) (.str (Jc p)) (.int .i64 (v:Int)) ((x :: kn).map wU)=(match (eqF γ 20 9).run (.str (Jc p)) (.str (Jc x.1)) with
   |some b=>cond b (cond (VY (.str (Jc p)) (.str (Jc x.1))) (some (Qan (.str (Jc p),.int .i64 (v:Int)) (kn.map wU))) none) (match ua (eqF γ 20 9) (.str (Jc p)) (.int .i64 (v:Int)) (kn.map wU) with|some l=>some (Qan (wU x) l)|none=>none)
   |none=>none):=rfl
  rw[e,eqS,ih,decide_eq_false hx];rfl
theorem HD {x:Lu×Nat}(h:x∈kvs l):x.1∈l/\1<=x.2:=by
 obtain⟨h1,_,h3⟩:=List.mem_zipIdx (x:=x.1) (i:=x.2) h;exact⟨by rw[h3];exact ω _,h1⟩
theorem jl9 (h:p∈l):∃ x,(kvs l).find? (λx=>decide (p=x.1))=some x/\1<=x.2:=by
 cases hf:(kvs l).find? (λx=>decide (p=x.1)) with
 |some x=>exact⟨x,rfl,(HD (List.mem_of_find?_eq_some hf)).2⟩
 |none=>
  obtain⟨i,hi,he⟩:=Qbi.1 h;have hm:(p,1+i)∈kvs l:=by
   unfold kvs;rw[List.mk_mem_zipIdx_iff_le_and_getElem?_sub];refine⟨om,?_⟩;rw[show 1+i - 1=i by omega,Qaf hi,he]
  have:=List.find?_eq_none.1 hf _ hm;simp at this
theorem jl8 (h:p∉l):(kvs l).find? (λx=>decide (p=x.1))=none:=
 List.find?_eq_none.2 λx hx=>by
  have:=(HD hx).1;simp only[decide_eq_true_eq];rintro rfl;exact h this
def Mq (s:St)(b:Nat)(l:List Lu):Prop:=b<s.nx/\jv s.h b=some (.map ((kvs l).map wU))
theorem Mq.keep {s':St}(h:Mq s b l)(hn:s.nx<=s'.nx)(hg:jv s'.h b=jv s.h b):Mq s' b l:=⟨Qau h.1 hn,hg.trans h.2⟩
theorem jfb (h:Mq s b l)(hp:p∉l):jq (VG γ 89 false (.map b) (.str (Jc p)) s) K=K (.int .i64 0) s:=by
 unfold VG QC;simp only[gA,ze3,O,kf9,cond_true,h.2,X9,HN,jl8 hp,Qbc,jT,jq,cond_false]
theorem joK (h:Mq s b l)(hp:p∈l):∃ n:Nat,1<=n/\∀ K:AV->St->Prop,jq (VG γ 89 false (.map b) (.str (Jc p)) s) K=K (.int .i64 (n:Int)) s:=by
 obtain⟨x,hx,h1⟩:=jl9 hp;refine⟨x.2,h1,λK=>?_⟩;unfold VG QC;simp only[gA,ze3,O,kf9,cond_true,h.2,X9,HN,hx,Qax,jT,jq,cond_false]
theorem jnv {n:Int}(h:Mq s b l)(hp:p∉l)(hn:n=((l.length+1:Nat):Int)):jq (jcA γ 89 (.map b) (.str (Jc p)) (.int .i64 n) s) K=K qm (mp s b ((kvs (l ++ [p])).map wU)):=by
 subst hn;unfold jcA Jm;simp only[gA,O,kf9,cond_true,h.2,X9,jif p (l.length+1) (kvs l) (λx hx e=>hp (e▸(HD hx).1)),jT,St.put_eq,jq,jl7];rfl
theorem Mq.put (h:Mq s b l)(l':List Lu):Mq (mp s b ((kvs l').map wU)) b l':=⟨h.1,by rw[WW,if_pos rfl]⟩
theorem Mq.new (s:St):Mq (nmp s) s.nx []:=⟨Qbf _,by rw[Gz,if_pos rfl];rfl⟩
section
def vz0:VarT:=⟨[],0,[],0,0,false,0⟩
def inB (vars:List VarT)(s:Lu)(a:SetT):Bool:=decide ((vars.getD a.var.toNat vz0).lo<=zQ s a.to) && decide (zQ s a.to<=(vars.getD a.var.toNat vz0).hi)
def H6 (vars:List VarT)(mv:MoveT)(s:Lu):Bool:=qa vars s && decide (zQ s mv.when=1) && mv.acts.all (inB vars s)
theorem jcI {vars:List VarT}{enums:List EnumT}(hv:XV vars){s:Lu}(hs:qa vars s=true):∀ {l:List SetT} {out:Lu},(∀ a∈l,0<=a.var/\a.var<(vars.length:Int)/\OfK vars enums a.to)->wb s l out=some (Jk s l out)
 |[],out,_=>rfl
 |a :: l,out,h=>by
  obtain⟨h1,h2,h3⟩:=h a hac;obtain⟨n,e⟩:=h3.som hs;rw[wb,e,Jk,h3.val hv hs e];show(if a.var<0\/(s.length:Int)<=a.var then none else wb s l (out.set a.var.toNat n))=_;rw[if_neg (by have:=(ud hs).1;omega)];exact jcI hv hs λb hb=>h b (by simp[hb])
theorem Up {s:Lu}{i:Nat}:∀ {l:List SetT} {out:Lu},(∀ a∈l,a.var.toNat≠i)->(Jk s l out).getD i 0=out.getD i 0
 |[],out,_=>rfl
 |a :: l,out,h=>by
  rw[Jk,Up λb hb=>h b (by simp[hb])];rw[Qak,Qak,List.getElem?_set_ne (h a hac)]
theorem KJ {s:Lu}:∀ {l:List SetT} {out:Lu} {a:SetT},a∈l->(l.map (·.var)).Nodup->(∀ b∈l,0<=b.var/\b.var<(out.length:Int))->(Jk s l out).getD a.var.toNat 0=zQ s a.to
 |b :: l,out,a,h,hn,hb=>by
  rw[ζ,List.nodup_cons] at hn;rw[Jk];have hbb:=hb b hac;rcases QaJ.1 h with rfl|h
  .rw[Up]
   .rw[Qak,List.getElem?_set_self om];rfl
   .intro c hc e;have hcc:=hb c (by simp[hc]);have:c.var=a.var:=om
    exact hn.1 (this▸QaF.2 ⟨c,hc,rfl⟩)
  .exact KJ h hn.2 λc hc=>by rw[Qbx];exact hb c (by simp[hc])
theorem jix {vars:List VarT}{s:Lu}(hl:s.length=vars.length)(h:∀ i,i<vars.length->(vars.getD i vz0).lo<=s.getD i 0/\s.getD i 0<=(vars.getD i vz0).hi):qa vars s=true:=by
 unfold qa;rw[χ,decide_eq_true_eq,Qai];refine⟨hl,λi hi=>?_⟩;have:=h i (Qbj.1 hi);unfold vz0 at this;simpa using this
theorem jgw {vars:List VarT}{s:Lu}(hs:qa vars s=true){l:List SetT}(hn:(l.map (·.var)).Nodup)(hb:∀ b∈l,0<=b.var/\b.var<(vars.length:Int)):qa vars (Jk s l s)=l.all (inB vars s):=by
 obtain⟨r1,r2⟩:=ud hs;have hb':∀ b∈l,0<=b.var/\b.var<(s.length:Int):=λb h=>by have:=hb b h;omega
 rw[QaA,Qai];constructor
 .intro h a ha;obtain⟨q1,q2⟩:=ud h;have:=q2 a.var.toNat (by have:=hb a ha;omega);rw[KJ ha hn hb'] at this;unfold inB vz0;simpa using this
 .intro h;refine jix (by rw[jae,r1]) λi hi=>?_;by_cases e:∃ a∈l,a.var.toNat=i
  .obtain⟨a,ha,rfl⟩:=e;rw[KJ ha hn hb'];have:=h a ha;unfold inB at this;simpa using this
  .rw[Up λa ha e2=>e ⟨a,ha,e2⟩];have:=r2 i hi;unfold vz0;exact this
theorem jmw {vars:List VarT}{enums:List EnumT}(hv:XV vars){mv:MoveT}(K:MoveK vars enums mv){s:Lu}(hs:qa vars s=true):(Jx vars mv s).2=H6 vars mv s/\(H6 vars mv s=true->(Jx vars mv s).1=Jk s mv.acts s):=by
 obtain⟨n,e⟩:=K.when.som hs;have v:=K.when.val hv hs e;have S:=jcI (out:=s) hv hs K.acts;have R:=jgw hs K.nd λb hb=>⟨(K.acts b hb).1,(K.acts b hb).2.1⟩;unfold Jx H6;rw[e,v,S,hs,<-R];by_cases h:n=1
 .subst h;rw[if_pos rfl];exact⟨by simp,λ_=>rfl⟩
 .rw[if_neg (by simpa using h),decide_eq_false h];exact⟨rfl,λh=>by cases h⟩
def zf (m:ModT)(s:Lu):Bool:=qa m.vars s && (Qae m.vars.length).all λi=>!((m.vars.getD i vz0).beg && decide (s.getD i 0≠(m.vars.getD i vz0).first))
theorem Zn {m:ModT}{s:Lu}(hr:qa m.vars s=true):zf m s=true↔∀ i (h1:i<m.vars.length) (h2:i<s.length),m.vars[i].beg=true->s[i]=m.vars[i].first:=by
 unfold zf;rw[hr,Qbu,Qai];have hl:=(qM.1 hr).1;refine⟨λb i h1 h2 hb=>?_,λb i hi=>?_⟩
 .have:=b i (Qbj.2 h1);rw[Qak,Qaf h1,Qak,Qaf h2] at this;simpa[hb] using this
 .have h1:=Qbj.1 hi;have:=b i h1 om;rw[Qak,Qaf h1,Qak,Qaf (show i<s.length by omega)];cases hb:m.vars[i].beg with
  |false=>simp[hb]
  |true=>simp[hb,this hb]
theorem jip {m:ModT}{s:Lu}{i:Nat}(hr:qa m.vars s=true)(h1:i<m.vars.length)(h2:i<s.length)(hb:m.vars[i].beg=true)(hn:¬ s[i]=m.vars[i].first):zf m s=false:=by
 rw[Qcs];exact λk=>hn ((Zn hr).1 k i h1 h2 hb)
end
variable {base:Bs}
def Lx (lo hi:Nat)(s:St)(v w:AV)(n:Nat)(cs:List AV)(z:Nat):Prop:=Lv lo hi s w n cs z/\(v=w\/(w=.nils/\∃ b,v=.slice b 0 0 0 z true/\Cl s b []/\lo<=b/\b<hi))
theorem jsP {n z bytes:Nat}{v w:AV}{cs:List AV}(h:Lx lo hi s v w n cs z)(hz:0<z)(hby:(n+1) * bytes<=140737488355328)(h63:n+1<=9223372036854775807)(hv:z<=qp s.h bv) :
  jq (zJ z bytes v (.slice bv 0 1 xc z xx) s) K=K (apv z w s) (aps w s (rats s.h bv 0 z)):=by
 obtain⟨V,rfl|⟨rfl,b,rfl,C,_,_⟩⟩:=h
 .exact JK V hz hby h63 hv
 .have hn:n=0:=by
   rcases V with ⟨_,h0,_⟩|⟨b,e,_⟩
   .exact h0
   .cases e
  subst hn;obtain⟨m,zl,zz,ks,hg⟩:=QU (h:=s.h) (b:=bv) om;rw[yB hg] at hv;have e0:QcC 1 z=z:=QbD z;have e1:QcA (QcB 0 z) m=true:=qw (by show 0+z<=m;omega);have er:jP zl zz ks z 0=rats s.h bv 0 z:=by
   rw[JQ,qi];exact QaS λi _=>by rw[Jt hg]
  have el:(rats s.h bv 0 z).length=z:=Qn _ _ _ _;have e3:Qcy (jQ (rats s.h bv 0 z)) z=true:=YT (by rw[jM,el]);obtain⟨m',zl',zz',ks',hg'⟩:=C.row;have h4l:=C.len;rw[yB hg'] at h4l;have f4:QcA (QcB 0 1) 0=false:=rfl;have f5:QcA (QcC (QcB 0 1) bytes) 140737488355328=true:=qw hby;have f6:QcA (QcB 0 1) 9223372036854775807=true:=rfl;have e7:QcA (QcB 0 (QcC 0 z)) m'=true:=qw (by show 0+0 * z<=m';omega);have e8:jP zl' zz' ks' (QcC 0 z) 0=[]:=by rw[qi,show QcC 0 z=0 from QaP z];rfl
  have e9:∀ l:List AV,yS [] l=l:=λl=>by rw[yz];rfl
  have e10:QcC (QcB 0 1) z=z:=by show(0+1) * z=z;omega
  simp only[zJ,zF,firstCells,hg,hg',yh,jF,e0,e1,cond_true,er,q7,e3,f4,f5,f6,cond_false,e7,e8,e9,e10,St.alloc_eq,jq];unfold apv Go.Sy.aps nw;rw[el]
def In1 (s:St)(lo hi b0:Nat)(x:AV)(l:SvT):Prop:=x=svV l\/∃ c ex,x=.slice c 0 l.length l.length 1 ex/\Cl s c (l.map (.int .i64))/\lo<=c/\c<hi/\c≠b0
def InL (s:St)(lo hi b0:Nat):List AV->List SvT->Prop
 |[],[]=>True
 |x :: xs,l :: ls=>In1 s lo hi b0 x l/\InL s lo hi b0 xs ls
 |_,_=>False
structure ApX (lo hi:Nat)(s s':St):Prop where
 nx:s.nx<=s'.nx
 fr:s'.fr=s.fr
 hp:∀ c,(c<lo\/hi<=c)->c<s.nx->jv s'.h c=jv s.h c
theorem ApX.cl {s':St}(a:ApX lo hi s s')(c:Nat)(ds:List AV)(hc:c<lo\/hi<=c)(C:Cl s c ds):Cl s' c ds:=C.keep a.nx (a.hp c hc C.lt)
section
variable {lo hi b0:Nat} {s s':St}
theorem InL.mono {lo' hi' b1:Nat}:∀ {xs:List AV} {ls:List SvT},InL s lo hi b0 xs ls->(∀ x l,In1 s lo hi b0 x l->In1 s' lo' hi' b1 x l)->InL s' lo' hi' b1 xs ls
 |[],[],h,f=>trivial
 |x :: xs,l :: ls,h,f=>⟨f _ _ h.1,InL.mono h.2 f⟩
 |[],_ :: _,h,f=>h.elim
 |_ :: _,[],h,f=>h.elim
theorem InL.len:∀ {xs:List AV} {ls:List SvT},InL s lo hi b0 xs ls->xs.length=ls.length
 |[],[],_=>rfl
 |x :: xs,l :: ls,h=>by rw[ξ,ξ,InL.len h.2]
 |[],_ :: _,h=>h.elim
 |_ :: _,[],h=>h.elim
theorem InL.app {x:AV}{l:SvT}(h1:In1 s lo hi b0 x l):∀ {xs:List AV} {ls:List SvT},InL s lo hi b0 xs ls->InL s lo hi b0 (xs ++ [x]) (ls ++ [l])
 |[],[],_=>⟨h1,trivial⟩
 |y :: xs,k :: ls,h=>⟨h.1,InL.app h1 h.2⟩
 |[],_ :: _,h=>h.elim
 |_ :: _,[],h=>h.elim
theorem InL.get:∀ {xs:List AV} {ls:List SvT} {k:Nat} (hk:k<ls.length) (h:InL s lo hi b0 xs ls),In1 s lo hi b0 (xs.getD k .bad) ls[k]
 |x :: xs,l :: ls,0,_,h=>h.1
 |x :: xs,l :: ls,k+1,hk,h=>InL.get (xs:=xs) (ls:=ls) (k:=k) (by simpa using hk) h.2
 |[],_ :: _,_,_,h=>h.elim
 |_ :: _,[],k,hk,_=>absurd hk (Qas k)
 |[],[],k,hk,_=>absurd hk (Qas k)
theorem In1.fz {m d:Nat}{x:AV}{l:SvT}(h:In1 s lo hi b0 x l)(hm:m<=lo):FzD m (d+2) s x (svV l):=by
 rcases h with rfl|⟨c,ex,rfl,C,h1,_⟩
 .exact FzD.pa (jin l)
 .refine FzD.slice C.rw_ hac om ?_;rw[Qcj hac];exact FzsD.pc (zM _)
theorem InL.fz {m d:Nat}(hm:m<=lo):∀ {xs:List AV} {ls:List SvT},InL s lo hi b0 xs ls->FzsD m (d+2) s xs (fl svE ls)
 |[],[],_=>FzsD.nil
 |x :: xs,l :: ls,h=>FzsD.cons (h.1.fz hm) (InL.fz hm h.2)
 |[],_ :: _,h=>h.elim
 |_ :: _,[],h=>h.elim
end
theorem jei {n z bytes:Nat}{cs news:List AV}(C:Cl s b cs)(hl:cs.length=n * z)(hz:0<z)(hby:(n+1) * bytes<=140737488355328)(h63:n+1<=9223372036854775807)(hv:z<=qp s.h bv)(hr:rats s.h bv 0 z=news) :
  jq (zJ z bytes (.slice b 0 n n z true) (.slice bv 0 1 xc z xx) s) K=K (.slice s.nx 0 (n+1) (n+1) z false) (nw s (cs ++ news)):=by
 obtain⟨m,zl,zz,ks,hg⟩:=QU (h:=s.h) (b:=bv) om;rw[yB hg] at hv;have e0:QcC 1 z=z:=QbD z;have e1:QcA (QcB 0 z) m=true:=qw (by show 0+z<=m;omega);have er:jP zl zz ks z 0=news:=by
  rw[<-hr,JQ,qi];exact QaS λi _=>by rw[Jt hg]
 have el:news.length=z:=by rw[<-hr];exact Qn _ _ _ _
 have e3:Qcy (jQ news) z=true:=YT (by rw[jM,el]);obtain⟨m',zl',zz',ks',hg'⟩:=C.row;have h4l:=C.len;rw[yB hg'] at h4l;have f4:QcA (QcB n 1) n=false:=jb2 (by show n<n+1;omega);have f5:QcA (QcC (QcB n 1) bytes) 140737488355328=true:=qw hby;have f6:QcA (QcB n 1) 9223372036854775807=true:=qw h63;have e7:QcA (QcB 0 (QcC n z)) m'=true:=qw (by show 0+n * z<=m';omega);have e8:jP zl' zz' ks' (QcC n z) 0=cs:=by
  have h:=C.rats0 hl;rw[JQ] at h;rw[qi,<-h];exact QaS λi _=>by rw[Jt hg']
 have e9:yS cs news=cs ++ news:=by rw[yz]
 have e10:QcC (QcB n 1) z=(cs ++ news).length:=by rw[ν,hl,el];exact QaR n z
 simp only[zJ,zF,firstCells,hg,hg',yh,jF,e0,e1,cond_true,er,q7,e3,f4,f5,f6,cond_false,e7,e8,e9,e10,St.alloc_eq,jq];rfl
def LL (lo hi:Nat)(s:St)(v:AV)(ls:List SvT):Prop:=(ls=[]/\(v=.nils\/∃ b,v=.slice b 0 0 0 1 true/\Cl s b []/\lo<=b/\b<hi))\/∃ b cs ex,v=.slice b 0 ls.length ls.length 1 ex/\ls≠[]/\Cl s b cs/\lo<=b/\b<hi/\InL s lo hi b cs ls
section
variable {lo hi:Nat} {s s':St} {v:AV} {ls:List SvT}
theorem LL.len {b:Nat}{n m:Nat}{x:Bool}(h:LL lo hi s (.slice b 0 n m 1 x) ls):n=ls.length:=by
 rcases h with ⟨rfl,h|⟨c,h,_⟩⟩|⟨c,cs,ex,h,_⟩
 .cases h
 .cases h;rfl
 .cases h;rfl
theorem LL.lenV {K:AV->St->Prop}(h:LL lo hi s v ls)(st:St):jq (lenV v st) K=K (.int .i64 (ls.length:Int)) st:=by
 rcases h with ⟨rfl,rfl|⟨c,rfl,_⟩⟩|⟨c,cs,ex,rfl,_⟩<;>rfl
theorem LL.keep (h:LL lo hi s v ls){lo2 hi2:Nat}(a:ApX lo2 hi2 s s')(hh:hi<=lo2\/hi2<=lo):LL lo hi s' v ls:=by
 rcases h with ⟨rfl,rfl|⟨b,rfl,C,h1,h2⟩⟩|⟨b,cs,ex,rfl,hn,C,h1,h2,I⟩
 .exact .inl ⟨rfl,.inl rfl⟩
 .exact .inl ⟨rfl,.inr ⟨b,rfl,a.cl _ _ om C,h1,h2⟩⟩
 .refine .inr ⟨b,cs,ex,rfl,hn,a.cl _ _ om C,h1,h2,I.mono λx l k=>?_⟩;rcases k with rfl|⟨c,ex,rfl,D,k1,k2,k3⟩
  .exact .inl rfl
  .exact .inr ⟨c,ex,rfl,a.cl _ _ om D,k1,k2,k3⟩
theorem LL.up {hi':Nat}(h:LL lo hi s v ls)(hh:hi<=hi'):LL lo hi' s v ls:=by
 rcases h with ⟨rfl,rfl|⟨b,rfl,C,h1,h2⟩⟩|⟨b,cs,ex,rfl,hn,C,h1,h2,I⟩
 .exact .inl ⟨rfl,.inl rfl⟩
 .exact .inl ⟨rfl,.inr ⟨b,rfl,C,h1,om⟩⟩
 .refine .inr ⟨b,cs,ex,rfl,hn,C,h1,om,I.mono λx l k=>?_⟩;rcases k with rfl|⟨c,ex,rfl,D,k1,k2,k3⟩
  .exact .inl rfl
  .exact .inr ⟨c,ex,rfl,D,k1,om,k3⟩
theorem LL.down {lo':Nat}(h:LL lo hi s v ls)(hh:lo'<=lo):LL lo' hi s v ls:=by
 rcases h with ⟨rfl,rfl|⟨b,rfl,C,h1,h2⟩⟩|⟨b,cs,ex,rfl,hn,C,h1,h2,I⟩
 .exact .inl ⟨rfl,.inl rfl⟩
 .exact .inl ⟨rfl,.inr ⟨b,rfl,C,om,h2⟩⟩
 .refine .inr ⟨b,cs,ex,rfl,hn,C,om,h2,I.mono λx l k=>?_⟩;rcases k with rfl|⟨c,ex,rfl,D,k1,k2,k3⟩
  .exact .inl rfl
  .exact .inr ⟨c,ex,rfl,D,om,k2,k3⟩
theorem ApX.nw (s:St)(ds:List AV):ApX s.nx (s.nx+1) s (nw s ds):=⟨by rw[jg];omega,VQ _ _,λc hc h=>q8 om⟩
theorem ApX.wr (s:St)(b o:Nat)(vs:List AV):ApX b (b+1) s (wr s b o vs):=⟨μ _,rfl,λc hc h=>zN om⟩
theorem ApX.of {lo2:Nat}(a:ApL lo2 s s'):ApX lo2 s'.nx s s':=⟨a.nx,a.fr,λc hc h=>by
 rcases hc with hc|hc
 .exact a.hp c hc h
 .exact absurd h (by have:=a.nx;omega)⟩
theorem LL.fzd {m d:Nat}(h:LL lo hi s v ls)(hm:m<=lo):FzD m (d+3) s v (.lst ls.length (fl svE ls)):=by
 rcases h with ⟨rfl,rfl|⟨b,rfl,C,h1,h2⟩⟩|⟨b,cs,ex,rfl,hn,C,h1,h2,I⟩
 .exact FzD.nils
 .exact FzD.slice C.rw_ hac om FzsD.nil
 .refine FzD.slice C.rw_ (by rw[I.len];omega) om ?_;rw[Qcj (by rw[I.len];omega)];exact I.fz hm
theorem LL.lend (h:LL lo hi s v ls):lend s.h v=some (.lst ls.length (fl svE ls)):=by
 obtain⟨ks,h1,_⟩:=h.fzd (m:=0) (d:=6) (Qaa _);rcases h with ⟨rfl,rfl|⟨b,rfl,_⟩⟩|⟨b,cs,ex,rfl,_⟩
 .rfl
 .show(fz 9 s.h _).map (·.1)=_;rw[h1];rfl
 .show(fz 9 s.h _).map (·.1)=_;rw[h1];rfl
theorem LL.appM {bytes bv xc:Nat}{xx:Bool}{x:AV}{l:SvT}(h:LL lo hi s v ls)(C:Cl s bv [x])(hx:x=svV l\/∃ c ex,x=.slice c 0 l.length l.length 1 ex/\Cl s c (l.map (.int .i64))/\lo<=c/\hi<=c)(hl:lo<=s.nx)(hhi:hi<=s.nx)(hby:(ls.length+1) * bytes<=140737488355328)(h63:ls.length+1<=9223372036854775807) :
  ∃ v' s',(∀ K:AV->St->Prop,jq (zJ 1 bytes v (.slice bv 0 1 xc 1 xx) s) K=K v' s')/\LL lo s'.nx s' v' (ls ++ [l])/\ApX lo hi s s'/\∀ c es,c<s.nx->jv s.h c=some (.map es)->jv s'.h c=jv s.h c:=by
 have hr:rats s.h bv 0 1=[x]:=by have:=C.ratsP 1 0 hac;simpa using this
 have hv1:1<=qp s.h bv:=by rw[C.len];exact μ 1
 have new1:∀ {s'':St},(∀ c ds,hi<=c->Cl s c ds->Cl s'' c ds)->s''.nx=s.nx+1->In1 s'' lo s''.nx s.nx x l:=λ{s''} hk hn=>by
  rcases hx with rfl|⟨c,ex,rfl,D,k0,k1⟩
  .exact .inl rfl
  .exact .inr ⟨c,ex,rfl,hk _ _ k1 D,by have:=D.lt;omega,by have:=D.lt;omega,Qbg D.lt⟩
 have start:∀ w,(w=v\/w=.nils)->LL lo hi s v ls->ls=[]->Lx lo hi s v .nils 0 [] 1->∃ v' s',(∀ K:AV->St->Prop,jq (zJ 1 bytes v (.slice bv 0 1 xc 1 xx) s) K=K v' s')/\LL lo s'.nx s' v' (ls ++ [l])/\ApX lo hi s s'/\∀ c es,c<s.nx->jv s.h c=some (.map es)->jv s'.h c=jv s.h c:=λw _ _ e X=>by
  subst e;refine⟨apv 1 .nils s,aps .nils s (rats s.h bv 0 1),λK=>jsP X dc hby h63 hv1,?_,?_⟩
  .rw[hr];exact .inr ⟨s.nx,[x],false,rfl,by simp,Cl.new s _,hl,by rw[jp];omega,⟨new1 (λc ds _ D=>D.nw _) (jp _ _ _),trivial⟩⟩
  .exact⟨⟨by rw[jp];omega,by rw[Yw],λc _ h=>q8 om⟩,λc _ h _=>q8 om⟩
 have h0:=h;rcases h with ⟨e,rfl|⟨b,rfl,D,h1,h2⟩⟩|⟨b,cs,ex,rfl,hn,D,h1,h2,I⟩
 .exact start .nils (.inl rfl) h0 e ⟨Lv.nil,.inl rfl⟩
 .exact start _ (.inl rfl) h0 e ⟨Lv.nil,.inr ⟨rfl,b,rfl,D,h1,h2⟩⟩
 .have fin:∀ s':St,s'.nx=s.nx+1->s'.fr=s.fr->(∀ c,c≠b->c<s.nx->jv s'.h c=jv s.h c)->Cl s' s.nx (cs ++ [x])->LL lo s'.nx s' (.slice s.nx 0 (ls.length+1) (ls.length+1) 1 false) (ls ++ [l])/\ApX lo hi s s'/\∀ c es,c<s.nx->jv s.h c=some (.map es)->jv s'.h c=jv s.h c:=λs' en ef eh eC=>by
   have ek:∀ c ds,c≠b->Cl s c ds->Cl s' c ds:=λc ds hc E=>E.keep om (eh c hc E.lt);refine⟨.inr ⟨s.nx,cs ++ [x],false,by simp,by simp,eC,hl,om,InL.app (new1 (λc ds hc E=>ek _ _ om E) en) (I.mono λy k q=>?_)⟩,⟨om,ef,λc hc h=>eh _ om h⟩,λc es hl hg=>eh c (λe=>by obtain⟨_,_,_,_,hr⟩:=D.row;rw[e,hr] at hg;cases hg) hl⟩;rcases q with rfl|⟨c,ex,rfl,E,k1,k2,k3⟩
   .exact .inl rfl
   .exact .inr ⟨c,ex,rfl,ek _ _ k3 E,k1,by have:=E.lt;omega,Qbg E.lt⟩
  cases ex with
  |false=>
   have V:Lv lo hi s (.slice b 0 ls.length ls.length 1 false) ls.length cs 1:=.inr ⟨b,rfl,Qbv.2 hn,by rw[I.len];omega,D,h1,h2⟩;refine⟨apv 1 (.slice b 0 ls.length ls.length 1 false) s,aps (.slice b 0 ls.length ls.length 1 false) s (rats s.h bv 0 1),λK=>JK V dc hby h63 hv1,?_⟩;rw[hr];exact fin _ (jp _ _ _) (Yw _ _ _) (λc hc h=>WX om hc) (D.ap [x])
  |true=>
   refine⟨.slice s.nx 0 (ls.length+1) (ls.length+1) 1 false,Go.Sy.nw s (cs ++ [x]),λK=>jei (cs:=cs) D (by rw[I.len];omega) dc hby h63 hv1 hr,?_⟩;exact fin _ rfl rfl (λc hc h=>q8 om) (Cl.new s _)
theorem LL.app {bytes bv xc:Nat}{xx:Bool}{x:AV}{l:SvT}(h:LL lo hi s v ls)(C:Cl s bv [x])(hx:x=svV l\/∃ c ex,x=.slice c 0 l.length l.length 1 ex/\Cl s c (l.map (.int .i64))/\lo<=c/\hi<=c)(hl:lo<=s.nx)(hhi:hi<=s.nx)(hby:(ls.length+1) * bytes<=140737488355328)(h63:ls.length+1<=9223372036854775807) :
  ∃ v' s',(∀ K:AV->St->Prop,jq (zJ 1 bytes v (.slice bv 0 1 xc 1 xx) s) K=K v' s')/\LL lo s'.nx s' v' (ls ++ [l])/\ApX lo hi s s':=by
 obtain⟨v',s',e,L,A,_⟩:=h.appM (bytes:=bytes) (xc:=xc) (xx:=xx) C hx hl hhi hby h63;exact⟨v',s',e,L,A⟩
end
theorem jjx:∀ {a b:List SvT},a=b↔a.length=b.length/\∀ k (h1:k<a.length) (h2:k<b.length),a[k]=b[k]:=λ{a b}=>
 ⟨λh=>by subst h;exact⟨rfl,λ_ _ _=>rfl⟩,λh=>Qbm h.1 λk h1 h2=>h.2 k h1 h2⟩
theorem jel (hb:NB base)(a b:List SvT)(ha:a.length<=BIG)(hb2:b.length<=BIG)(hx:∀ x∈a,x.length<=1099511627776)(hy:∀ x∈b,x.length<=1099511627776):PX γ base 24 [.lst a.length (fl svE a),.lst b.length (fl svE b)] (.ok (.bool (decide (a=b)))):=by
 have hl:((a.length:Int)=(b.length:Int))=(a.length=b.length):=by rw[eq_iff_iff];omega
 unfold BIG at ha hb2;refine jE jud haa (hb.pur 24 1 dc) ?_;simp only[jpM,jr,ζ,η,θ,κ];rw[(by unfold jkt;simp only[qq];rfl:jkt=_)];repeat' first|apply jb<;>intro _|simp(disch:=try exact dzG) only[hl,r11,δ,ε]
 .rename_i h;exact G0.v (congrArg AV.bool (decide_eq_false λk=>h (by rw[k])).symm) rfl
 .rename_i h;have h:a.length=b.length:=by simpa using h
  refine jV a.length (λk L st=>(∀ j (h1:j<a.length) (h2:j<b.length),j<k->a[j]=b[j])/\Has L 0 (.lst a.length (fl svE a))/\Has L 1 (.lst b.length (fl svE b))) ?_ (λk L s hk hI hi hn=>?_) (λL s hI=>?_)
  .refine⟨λj h1 h2 hj=>absurd hj (Qas _),?_,?_⟩<;>exact hsX
  .obtain⟨h0,i0,i1⟩:=hI;have hks:k<b.length:=om
   have e:=jnT hb a[k] b[k] (hx _ (ω hk)) (hy _ (ω hks));by_cases hq:a[k]=b[k]
   .rw[decide_eq_true hq] at e;repeat' first|apply jb<;>intro _|simp(disch:=try exact dzG) only[ja i0,ja i1,ja hi,ja hn,uI,e,r11,δ,ε]
    refine⟨⟨λj h1 h2 hj=>?_,?_,?_⟩,?_,?_⟩
    .by_cases e:j=k
     .subst e;exact hq
     .exact h0 j h1 h2 om
    all_goals exact hsX
   .rw[decide_eq_false hq] at e;repeat' first|apply jb<;>intro _|simp(disch:=try exact dzG) only[ja i0,ja i1,ja hi,ja hn,uI,e,r11,δ,ε]
    exact G0.v (congrArg AV.bool (decide_eq_false λw=>hq (by subst w;rfl)).symm) rfl
  .obtain⟨h0,i0,i1⟩:=hI;repeat' first|apply jb<;>intro _|simp(disch:=try exact dzG) only[r11,δ,ε]
   exact G0.v (congrArg AV.bool (decide_eq_true (jjx.2 ⟨h,λi h1 h2=>h0 i h1 h2 h1⟩)).symm) rfl
theorem jmO (hb:NB base)(a b:List SvT)(ha:a.length<=BIG)(hb2:b.length<=BIG)(hx:∀ x∈a,x.length<=1099511627776)(hy:∀ x∈b,x.length<=1099511627776):Tot base 24 [.lst a.length (fl svE a),.lst b.length (fl svE b)] (.bool (decide (a=b))):=hb.tot (jel hb a b ha hb2 hx hy) (by simp[pa,pc,za gH]) rfl
theorem In1.app {b0 lo2:Nat}{x:AV}{l:SvT}(h:In1 s lo hi b0 x l)(C:Cl s b [])(h1:lo2<=b)(hl:l.length<=1000000000000) :
  ∃ v' s',(∀ K:AV->St->Prop,jq (zJ 1 8 (.slice b 0 0 0 1 true) x s) K=K v' s')/\Lw lo2 s'.nx s' v' l.length (l.map (.int .i64)) 1/\ApL lo2 s s':=by
 have w:Lw lo2 s.nx s (.slice b 0 0 0 1 true) 0 [] 1:=⟨b,true,rfl,λ_=>rfl,rfl,C,h1,C.lt⟩;have fin:(∀ k:Nat->ER,zF x k=k l.length)->(∀ k:List AV->ER,firstCells s 1 l.length x k=k (l.map (.int .i64)))->_:=λq1 q2=>jmJ (bytes:=8) w q1 q2 (μ _) hac dc om om;have done:(∀ k:Nat->ER,zF x k=k l.length)->(∀ k:List AV->ER,firstCells s 1 l.length x k=k (l.map (.int .i64)))->∃ v' s',(∀ K:AV->St->Prop,jq (zJ 1 8 (.slice b 0 0 0 1 true) x s) K=K v' s')/\Lw lo2 s'.nx s' v' l.length (l.map (.int .i64)) 1/\ApL lo2 s s':=λq1 q2=>by
  obtain⟨v',s',e,r1,r2⟩:=fin q1 q2;rw[Qaj,Qam] at r1;exact⟨v',s',e,r1,r2⟩
 rcases h with rfl|⟨c,ex,rfl,D,_,_,_⟩
 .have e1:QcA (QcC l.length 1) (jQ (l.map (AV.int .i64)))=true:=qw (by rw[jM,Qad];exact QaM (QaG _));have e2:yj (l.map (AV.int .i64)) (QcC l.length 1)=l.map (AV.int .i64):=by rw[qN,show QcC l.length 1=(l.map (AV.int .i64)).length from by rw[Qad];exact QaG _,Qab]
  exact done (λk=>rfl) λk=>by unfold svV;simp only[firstCells,e1,cond_true,e2]
 .obtain⟨m',zl',zz',ks',hg'⟩:=D.row;have h4l:=D.len;rw[yB hg',Qad] at h4l;have e1:QcC l.length 1=l.length:=QaG _;have e7:QcA (QcB 0 l.length) m'=true:=qw (by show 0+l.length<=m';omega);have e8:jP zl' zz' ks' l.length 0=l.map (.int .i64):=by
   have h:=D.rats0 (Qad ..);rw[JQ] at h;rw[qi,<-h];exact QaS λi _=>by rw[Jt hg']
  exact done (λk=>rfl) λk=>by simp only[firstCells,hg',yh,jF,e1,e7,cond_true,e8]
theorem Lw.app1 {v:AV}{l:SvT}{n:Int}(h:Lw lo hi s v l.length (l.map (.int .i64)) 1)(C:Cl s bv [.int .i64 n])(hhi:hi<=s.nx)(hl:l.length<=1000000000000) :
  ∃ v' s',(∀ K:AV->St->Prop,jq (zJ 1 8 v (.slice bv 0 1 xc 1 xx) s) K=K v' s')/\Lw lo s'.nx s' v' (l ++ [n]).length ((l ++ [n]).map (.int .i64)) 1/\ApL lo s s':=by
 obtain⟨m',zl',zz',ks',hg'⟩:=C.row;have h4l:=C.len;rw[yB hg'] at h4l;have h4l:m'=1:=h4l;have e7:QcA (QcB 0 (QcC 1 1)) m'=true:=qw (by rw[h4l];decide);have e8:jP zl' zz' ks' (QcC 1 1) 0=[.int .i64 n]:=by
  have h:=C.rats0 (k:=1) rfl;rw[JQ] at h;rw[qi,<-h];exact QaS λi _=>by rw[Jt hg']
 obtain⟨v',s',e,r1,r2⟩:=jmJ (bytes:=8) (x:=.slice bv 0 1 xc 1 xx) (n2:=1) (cs2:=[.int .i64 n]) h (λk=>rfl) (λk=>by simp only[firstCells,hg',yh,jF,e7,cond_true,e8]) hhi rfl dc om om;refine⟨v',s',e,?_,r2⟩;rw[ν,QaU];exact r1
def yp (v:VarT)(s:SvT):List SvT:=(Qae (v.hi - v.lo+1).toNat).map λ(i:Nat)=>s ++ [v.lo+(i:Int)]
def yI (vars:List VarT):List SvT:=vars.foldl (λout v=>out.flatMap (yp v)) [[]]
theorem ZZ {v:VarT}:∀ out:List SvT,(out.flatMap (yp v)).length=out.length * (v.hi - v.lo+1).toNat
 |[]=>by simp
 |x :: xs=>by
  rw[QaZ,ν,ZZ xs,ξ];unfold yp;rw[Qad,QbP,QaR];omega
theorem jmL (vars:List VarT):∀ out:List SvT,(vars.foldl (λout v=>out.flatMap (yp v)) out).length=vars.foldl (λn v=>n * (v.hi - v.lo+1).toNat) out.length:=by
 induction vars with
 |nil=>intro out;rfl
 |cons v vs ih=>intro out;rw[QbC,ih,ZZ];rfl
theorem Xj (vars:List VarT):(yI vars).length=JB vars:=jmL vars [[]]
theorem G5 {k:Nat}(hk:k<vars.length):yI (vars.take (k+1))=(yI (vars.take k)).flatMap (yp vars[k]):=by
 unfold yI;rw[yt hk,Qba];rfl
theorem jdU (h:∀ v∈vars,VB v):∀ k,JB (vars.take k)<=JB vars:=by
 intro k;have e:JB vars=(vars.drop k).foldl (λn v=>n * (v.hi - v.lo+1).toNat) (JB (vars.take k)):=by
  conv=>lhs;rw[<-Qbr k vars]
  unfold JB;rw[Qba]
 rw[e];have key:∀ (l:List VarT) (n:Nat),(∀ v∈l,VB v)->n<=l.foldl (λn v=>n * (v.hi - v.lo+1).toNat) n:=by
  intro l;induction l with
  |nil=>intro n _;exact μ _
  |cons v vs ih=>
   intro n hv;rw[QbC];refine ψ ?_ (ih _ λu hu=>hv u (by simp[hu]));have:=(hv v hac).1;exact Nat.le_mul_of_pos_right _ om
 exact key _ _ λv hv=>h v (List.mem_of_mem_drop hv)
theorem ku :∀ {x:SvT},x∈yI vars->x.length=vars.length:=by
 have key:∀ (vars:List VarT) (out:List SvT) (n:Nat),(∀ x∈out,x.length=n)->∀ x∈vars.foldl (λout v=>out.flatMap (yp v)) out,x.length=n+vars.length:=by
  intro vars;induction vars with
  |nil=>intro out n h x hx;exact h x hx
  |cons v vs ih=>
   intro out n h x hx;have:=ih (out.flatMap (yp v)) (n+1) (λy hy=>by
    obtain⟨z,hz,hy⟩:=Qck.1 hy;unfold yp at hy;obtain⟨i,_,rfl⟩:=QaF.1 hy;rw[ν,h z hz];rfl) x hx
   rw[this,ξ];omega
 intro x hx;have:=key vars [[]] 0 (λy hy=>by simp at hy;rw[hy];rfl) x hx;omega
theorem In1.keep {b0 lo2 hi2:Nat}{s':St}{x:AV}{l:SvT}(h:In1 s lo hi b0 x l)(a:ApX lo2 hi2 s s')(hh:hi<=lo2\/hi2<=lo):In1 s' lo hi b0 x l:=by
 rcases h with rfl|⟨c,ex,rfl,D,k1,k2,k3⟩
 .exact .inl rfl
 .exact .inr ⟨c,ex,rfl,a.cl _ _ om D,k1,k2,k3⟩
theorem jjw {v:VarT}{ls:List SvT}{k:Nat}(hk:k<ls.length):(ls.take (k+1)).flatMap (yp v)=(ls.take k).flatMap (yp v) ++ yp v ls[k]:=by
 rw[yt hk,List.flatMap_append,QaZ,List.flatMap_nil,QaO]
theorem jfY (hb:NB base)(m:ModT)(V:∀ v∈m.vars,-100000000<=v.lo/\v.lo<=100000000/\-100000000<=v.hi/\v.hi<=100000000)(hm:m.vars.length<=1000000)(S:SB m.vars)(hc:JB m.vars<=300):Tot base 19 [.agg (mdE m)] (.lst (yI m.vars).length (fl svE (yI m.vars))):=by
 refine hb.tot ?_ (by simp[pa,pc,Ju]) rfl;have f1:(nw st0 (mdE m)).nx=1:=rfl;have f2:(nw (nw st0 (mdE m)) []).nx=2:=rfl;have C1:Cl (nw (nw (nw st0 (mdE m)) []) [.slice 1 0 0 0 1 true]) 1 []:=(f1▸Cl.new (nw st0 (mdE m)) []).nw _;have C2:Cl (nw (nw (nw st0 (mdE m)) []) [.slice 1 0 0 0 1 true]) 2 [.slice 1 0 0 0 1 true]:=f2▸Cl.new (nw (nw st0 (mdE m)) []) [.slice 1 0 0 0 1 true];have L0:LL 1 3 (nw (nw (nw st0 (mdE m)) []) [.slice 1 0 0 0 1 true]) (.slice 2 0 1 1 1 true) [[]]:=.inr ⟨2,_,true,rfl,by simp,C2,dc,dc,⟨.inr ⟨1,true,rfl,C1,dc,dc,dc⟩,trivial⟩⟩;refine jE jui haa (hb.pur 19 1 dc) ?_;simp only[jpR,jr,ζ,η,θ,κ];rw[(by unfold jky;simp only[qq];rfl:jky=_)];repeat' first|apply jb<;>intro _|simp(disch:=try exact dzG) only[r11,δ,ε]
 refine jV m.vars.length (λk L s=>(∃ hi v,LL 1 hi s v (yI (m.vars.take k))/\hi<=s.nx/\Has L 3 v)/\1<=s.nx/\Has L 13 (.lst m.vars.length (fl vaE m.vars))) ?_ (λk L s hk hI hi hn=>?_) (λL s hI=>?_)
 .refine⟨⟨3,_,L0,by(first|omega|(simp only[jg,jn,jt,jp,jo];first|done|omega)),?_⟩,by(first|omega|(simp only[jg,jn,jt,jp,jo];first|done|omega)),?_⟩<;>exact hsX
 .obtain⟨⟨h,v,LS,hn1,i3⟩,n1,i13⟩:=hI;have eL:=λ(st:St) (K:AV->St->Prop)=>LS.lenV (K:=K) st;have hvb:=S.vb _ (ω hk);have hve:=V _ (ω hk);have hcnt:=jdU S.vb (k+1);rw[<-Xj,G5 hk,ZZ] at hcnt;have hel:=λx (hx:x∈yI (m.vars.take k))=>ku hx;rw[G5 hk];generalize hls:yI (m.vars.take k)=ls at *;generalize hva:m.vars[k]=va at *;have hel:∀ x∈ls,x.length<=1000000:=λx hx=>by have:=hel x hx;rw[Qal] at this;omega
  obtain⟨u,hu⟩:∃ u,u=wr (nw s [.str [],AV.int IntKind.i64 0,AV.str [],AV.int IntKind.i64 0,AV.int IntKind.i64 0,AV.bool false,AV.int IntKind.i64 0]) s.nx 0 (vaE va):=⟨_,rfl⟩;have un:u.nx=s.nx+1:=by rw[hu];rfl
  have LU:LL 1 h u v ls:=by rw[hu];exact(LS.keep (ApX.nw s _) (.inl hn1)).keep (ApX.wr _ _ _ _) (.inl hn1)
  have CU:Cl u s.nx (vaE va):=by rw[hu];exact(Cl.new s _).wr0 rfl
  have LW:=LU.keep (ApX.nw u []) (.inl om);have CW:=CU.nw [];have LN:LL (s.nx+1) (s.nx+2) (nw u []) (.slice (s.nx+1) 0 0 0 1 true) []:=.inl ⟨rfl,.inr ⟨s.nx+1,rfl,un▸Cl.new u [],om,om⟩⟩;have wn:(nw u []).nx=s.nx+2:=by rw[jg];omega
  repeat' first|apply jb<;>intro _|simp(disch:=try exact dzG) only[ja i3,ja i13,ja hi,ja hn,hva,eL,r11,δ,ε]
  rw[<-hu];generalize nw u []=w at *;have hr0:0<(va.hi - va.lo+1).toNat:=by have:=hvb.1;omega
  have hr1:(va.hi - va.lo+1).toNat<=1024:=by have:=hvb.2;omega
  have hl3:ls.length<=300:=by
   have:=Nat.le_mul_of_pos_right ls.length hr0;omega
  refine jV ls.length (λk2 L s2=>(∃ h2 v2,LL (s.nx+1) h2 s2 v2 ((ls.take k2).flatMap (yp va))/\h2<=s2.nx/\Has L 6 v2)/\LL 1 h s2 v ls/\s.nx+1<=s2.nx/\Cl s2 s.nx (vaE va)/\Has L 5 (.ptr s.nx 0)/\Has L 13 (.lst m.vars.length (fl vaE m.vars))/\Has L 15 (.int .i64 (k:Int))/\Has L 14 (.int .i64 (m.vars.length:Int))/\Has L 20 v) ?_ (λky Ly sy hky hIy hiy hny=>?_) (λLy sy hIy=>?_)
  .refine⟨⟨s.nx+2,_,LN,om,?_⟩,LW,om,CW,?_,?_,?_,?_,?_⟩;all_goals exact hsX
  .obtain⟨⟨h2,v2,LY2,hn2,j6⟩,LY,m2,CY,j5,j13,j15,j14,j20⟩:=hIy;obtain⟨b,cs,ex,rfl,hne,CB,hb1,hb2,IN⟩:∃ b cs ex,v=.slice b 0 ls.length ls.length 1 ex/\ls≠[]/\Cl sy b cs/\1<=b/\b<h/\InL sy 1 h b cs ls:=by
    rcases LY with ⟨e,_⟩|q
    .rw[e] at hky;exact absurd hky (Qas _)
    .exact q
   have gx:rat sy.h b ky=cs.getD ky .bad:=CB.cell ky (by rw[IN.len];exact hky);have X:=IN.get hky;have hlen:qp sy.h b=ls.length:=by rw[CB.len,IN.len]
   have hlx:=hel _ (ω hky);have hS:=jjw (v:=va) hky;generalize cs.getD ky .bad=x at gx X;generalize hly:ls[ky]=ly at *;have fin0:(Qae (va.lo - va.lo).toNat).map (λ(i:Nat)=>ly ++ [va.lo+(i:Int)])=[]:=by rw[Int.sub_self];rfl
   have hbound:∀ n:Int,n<=va.hi->(((ls.take ky).flatMap (yp va) ++ (Qae (n - va.lo).toNat).map λ(i:Nat)=>ly ++ [va.lo+(i:Int)]).length+1) * 24<=140737488355328:=λn hn=>by
    rw[ν,ZZ,Qad,QbP,Qal,Qbn om];have:=Qav (va.hi - va.lo+1).toNat (show ky<=ls.length by omega);omega
   (have zz:=@CY.r;repeat' first|apply jb<;>intro _|simp(disch:=try exact jW) only[ja j5,ja j6,ja j13,ja j15,ja j14,ja j20,ja hiy,ja hny,gx,CY.q,CY.r,r11,δ,ε])
   refine yA (λmm L s3=>∃ (n:Int),va.lo<=n/\n<=va.hi+1/\(mm:Int)=va.hi+1 - n/\(∃ h3 v3,LL (s.nx+1) h3 s3 v3 ((ls.take ky).flatMap (yp va) ++ (Qae (n - va.lo).toNat).map λ(i:Nat)=>ly ++ [va.lo+(i:Int)])/\h3<=s3.nx/\Has L 6 v3)/\LL 1 h s3 (.slice b 0 ls.length ls.length 1 ex) ls/\In1 s3 1 h b x ly/\s.nx+1<=s3.nx/\Cl s3 s.nx (vaE va)/\Has L 5 (.ptr s.nx 0)/\Has L 13 (.lst m.vars.length (fl vaE m.vars))/\Has L 15 (.int .i64 (k:Int))/\Has L 14 (.int .i64 (m.vars.length:Int))/\Has L 20 (.slice b 0 ls.length ls.length 1 ex)/\Has L 22 (.int .i64 (ky:Int))/\Has L 21 (.int .i64 (ls.length:Int))/\Has L 8 x/\Has L 9 (.int .i64 n)) ?_ (va.hi+1 - va.lo).toNat ?_
   .rintro mm L s3 ⟨n,q1,q2,q3,⟨h3,v3,LZ,hn3,z6⟩,LO,XZ,m3,CZ,z5,z13,z15,z14,z20,z22,z21,z8,z9⟩;unfold WB;by_cases hle:n<=va.hi
    .obtain⟨w1,s4,e1,W1,A1⟩:=(XZ.keep (ApX.nw s3 []) (.inl om)).app (lo2:=s3.nx) (Cl.new s3 []) (μ _) om;obtain⟨w2,s5,e2,W2,A2⟩:=(W1.nwO [.int .i64 n]).app1 (xc:=1) (xx:=true) (Cl.new s4 [.int .i64 n]) (by rw[jg];omega) om;obtain⟨b2,ex2,rfl,_,_,C2,hb3,hb4⟩:=W2;have n4:=A1.nx;have n5:=A2.nx;rw[jg] at n4 n5;have fr:∀ {lo hi v' ls'},LL lo hi s3 v' ls'->hi<=s3.nx->LL lo hi (nw s5 [.slice b2 0 (ly ++ [n]).length (ly ++ [n]).length 1 ex2]) v' ls':=λk hh=>((((k.keep (ApX.nw s3 []) (.inl om)).keep (ApX.of A1) (.inl om)).keep (ApX.nw s4 _) (.inl om)).keep (ApX.of A2) (.inl om)).keep (ApX.nw s5 _) (.inl om);have hx5:s5.nx+1=(nw s5 [.slice b2 0 (ly ++ [n]).length (ly ++ [n]).length 1 ex2]).nx:=by rw[jg]
     obtain⟨v6,s6,e6,L6,A6⟩:=(fr LZ hn3).app (bytes:=24) (xc:=1) (xx:=true) (Cl.new s5 _) (.inr ⟨b2,ex2,rfl,C2.nw _,om,om⟩) om om (hbound n hle) (by have:=hbound n hle;omega);have eW:wq (n+1)=n+1:=kD _ om om;have n6:=A6.nx;have hR:(Qae (n+1 - va.lo).toNat).map (λ(i:Nat)=>ly ++ [va.lo+(i:Int)])=(Qae (n - va.lo).toNat).map (λ(i:Nat)=>ly ++ [va.lo+(i:Int)]) ++ [ly ++ [n]]:=by
      rw[show(n+1 - va.lo).toNat=(n - va.lo).toNat+1 by omega,Qce,QaU,ζ,η];rw[show va.lo+((n - va.lo).toNat:Int)=n by omega]
     rw[QaE,<-hR] at L6
     (have zz:=@CZ.r;repeat' first|apply jb<;>intro _|simp(disch:=try exact jW) only[ja z5,ja z6,ja z8,ja z9,e1,e2,e6,hle,Vd,eW,CZ.q,CZ.r,r11,δ,ε])
     refine⟨mm - 1,om,n+1,om,om,om,⟨s6.nx,v6,L6,μ _,?_⟩,(fr LO om).keep A6 (.inl om),?_,om,?_,?_,?_,?_,?_,?_,?_,?_,?_,?_⟩
     .simp(disch:=decide) only[jm,ju]
     .exact(((((XZ.keep (ApX.nw s3 []) (.inl om)).keep (ApX.of A1) (.inl om)).keep (ApX.nw s4 _) (.inl om)).keep (ApX.of A2) (.inl om)).keep (ApX.nw s5 _) (.inl om)).keep A6 (.inl om)
     .exact A6.cl _ _ (.inl om) ((A2.cl _ _ om ((A1.cl _ _ om (CZ.nw _)).nw _)).nw _)
     all_goals exact hsX
    .have hnh:n=va.hi+1:=om
     subst hnh;have hst:yp va ly=(Qae (va.hi+1 - va.lo).toNat).map (λ(i:Nat)=>ly ++ [va.lo+(i:Int)]):=by
      unfold yp;rw[show va.hi - va.lo+1=va.hi+1 - va.lo by omega]
     rw[<-hst,<-hS] at LZ
     (have zz:=@CZ.r;repeat' first|apply jb<;>intro _|simp(disch:=try exact jW) only[ja z5,ja z6,ja z8,ja z9,hle,CZ.q,CZ.r,r11,δ,ε])
     refine⟨⟨⟨h3,v3,LZ,hn3,?_⟩,LO,m3,CZ,?_,?_,?_,?_,?_⟩,?_,?_⟩;all_goals exact hsX
   .refine⟨va.lo,Int.le_refl _,by have:=hvb.1;omega,by have:=hvb.1;omega,⟨h2,v2,by rw[fin0,QaO];exact LY2,hn2,?_⟩,LY,X,m2,CY,?_,?_,?_,?_,?_,?_,?_,?_,?_⟩;all_goals exact hsX
  .obtain⟨⟨h2,v2,LY2,hn2,j6⟩,LY,m2,CY,j5,j13,j15,j14,j20⟩:=hIy;rw[Qab] at LY2;repeat' first|apply jb<;>intro _|simp(disch:=try exact dzG) only[ja j6,r11,δ,ε]
   refine⟨⟨⟨h2,v2,LY2.down om,hn2,?_⟩,om,?_⟩,?_,?_⟩;all_goals exact hsX
 .obtain⟨⟨h,v,LS,hn1,i3⟩,n1,i13⟩:=hI;rw[Qab] at LS;repeat' first|apply jb<;>intro _|simp(disch:=try exact dzG) only[ja i3,r11,δ,ε]
  exact LS.fzd (d:=6) (Qaa _)
section
variable {α:Type}
theorem jc6 [DecidableEq α]:∀ {l m:List α},l.Nodup->(∀ x∈l,x∈m)->l.length<=m.length
 |[],m,_,_=>Qaa _
 |x :: l,m,hn,hs=>by
  rw[List.nodup_cons] at hn;have hx:x∈m:=hs x hac;have h:=jc6 (l:=l) (m:=m.erase x) hn.2 λy hy=>by
   have hne:y≠x:=λe=>hn.1 (e▸hy);exact(List.mem_erase_of_ne hne).2 (hs y (by simp[hy]))
  have hl:=List.length_erase_of_mem hx;have hp:0<m.length:=List.length_pos_of_mem hx;rw[ξ];omega
def Z2 [DecidableEq α] (most:Int):List α->List α->Option (List α)
 |[],out=>some out
 |t :: ts,out=>if t∈out then Z2 most ts out else if most<=(out.length:Int) then none else Z2 most ts (out ++ [t])
def Yr [DecidableEq α] (nx:α->List α)(most:Int):Nat->Nat->List α->Option (List α)
 |0,i,out=>some out
 |n+1,i,out=>match out[i]? with
  |none=>some out
  |some s=>match Z2 most (nx s) out with
   |none=>none
   |some o=>Yr nx most n (i+1) o
structure RInv (nx:α->List α)(P:α->Prop)(fis:List α)(i:Nat)(out:List α):Prop where
 pre:∃ r,out=fis ++ r
 nd:out.Nodup
 good:∀ x∈out,P x
 come:∀ j s,out[j]? = some s->j<fis.length\/∃ k t,k<j/\out[k]? = some t/\s∈nx t
 le:i<=out.length
 cl:∀ k s,k<i->out[k]? = some s->∀ t∈nx s,t∈out
variable {nx:α->List α} {P:α->Prop} {fis:List α}
theorem RInv.start (h1:fis.Nodup)(h2:∀ x∈fis,P x):RInv nx P fis 0 fis:=
 ⟨⟨[],by simp⟩,h1,h2,λj s h=>.inl (Qbp.1 h).1,Qaa _,λk s h=>absurd h (Qas _)⟩
theorem RInv.snoc {i:Nat}{out:List α}{s t:α}{k:Nat}(h:RInv nx P fis i out)(hk:out[k]? = some s)(ht:t∈nx s)(hn:t∉out)(hP:P t):RInv nx P fis i (out ++ [t]):=by
 have hkl:=(Qbp.1 hk).1;have hle:∀ j x,out[j]? = some x->(out ++ [t])[j]? = some x:=λj x e=>by
  rw[Qbq (Qbp.1 e).1];exact e
 obtain⟨r,hr⟩:=h.pre;refine⟨⟨r ++ [t],by rw[hr];simp⟩,?_,?_,?_,by rw[ν];exact ψ h.le (Nat.le_add_right _ _),?_⟩
 .rw[QbJ];refine⟨h.nd,by simp,λa ha b hb=>?_⟩;simp only[Qaz] at hb;rw[hb];exact λe=>hn (e▸ha)
 .intro x hx;rcases Qar.1 hx with hx|hx
  .exact h.good x hx
  .simp only[Qaz] at hx;rw[hx];exact hP
 .intro j x hj;by_cases hjl:j<out.length
  .rw[Qbq hjl] at hj;rcases h.come j x hj with h1|⟨k',t',h1,h2,h3⟩
   .exact .inl h1
   .exact .inr ⟨k',t',h1,hle _ _ h2,h3⟩
  .have hl:=(Qbp.1 hj).1;rw[ν,Qbb] at hl;have hjl':j=out.length:=om
   rw[hjl',Qcf (μ _),QbU] at hj;have hx:t=x:=by simpa using hj
   exact .inr ⟨k,s,om,hle _ _ hk,hx▸ht⟩
 .intro k' x hk' hx t' ht';by_cases hjl:k'<out.length
  .rw[Qbq hjl] at hx;exact Qch _ (h.cl k' x hk' hx t' ht')
  .have hl:=(Qbp.1 hx).1;rw[ν,Qbb] at hl;exact absurd hk' (by have:=h.le;omega)
theorem RInv.add [DecidableEq α] {most:Int}{i:Nat}{s:α}{N:Nat}(hN:∀ l:List α,l.Nodup->(∀ x∈l,P x)->l.length<=N):∀ {ts out:List α},RInv nx P fis i out->out[i]? = some s->(∀ t∈ts,t∈nx s)->(∀ t∈ts,P t)->
  (∃ o,Z2 most ts out=some o/\RInv nx P fis i o/\(∃ r,o=out ++ r)/\(∀ t∈ts,t∈o))\/(Z2 most ts out=none/\most<(N:Int))
 |[],out,h,hi,_,_=>.inl ⟨out,rfl,h,⟨[],by simp⟩,λt h=>by cases h⟩
 |t :: ts,out,h,hi,h1,h2=>by
  rw[Z2];by_cases ht:t∈out
  .rw[if_pos ht];rcases RInv.add (ts:=ts) (most:=most) hN h hi (λu hu=>h1 u (by simp[hu])) (λu hu=>h2 u (by simp[hu])) with ⟨o,e,ho,⟨r,hr⟩,hc⟩|⟨e,hm⟩
   .refine .inl ⟨o,e,ho,⟨r,hr⟩,λu hu=>?_⟩;rcases QaJ.1 hu with rfl|hu
    .rw[hr];exact Qch _ ht
    .exact hc u hu
   .exact .inr ⟨e,hm⟩
  .rw[if_neg ht];have h':=h.snoc hi (h1 t hac) ht (h2 t hac);have hl:=hN _ h'.nd h'.good;rw[ν,Qbb] at hl;by_cases hm:most<=(out.length:Int)
   .rw[if_pos hm];exact .inr ⟨rfl,om⟩
   .rw[if_neg hm];have hi':(out ++ [t])[i]? = some s:=by rw[Qbq (Qbp.1 hi).1];exact hi
    rcases RInv.add (ts:=ts) (most:=most) hN h' hi' (λu hu=>h1 u (by simp[hu])) (λu hu=>h2 u (by simp[hu])) with ⟨o,e,ho,⟨r,hr⟩,hc⟩|⟨e,hm⟩
    .refine .inl ⟨o,e,ho,⟨t :: r,by rw[hr];simp⟩,λu hu=>?_⟩;rcases QaJ.1 hu with rfl|hu
     .rw[hr];simp
     .exact hc u hu
    .exact .inr ⟨e,hm⟩
theorem RInv.next {i:Nat}{s:α}{out o r:List α}(h:RInv nx P fis i o)(hi:out[i]? = some s)(hr:o=out ++ r)(hc:∀ t∈nx s,t∈o):RInv nx P fis (i+1) o:=by
 have hil:=(Qbp.1 hi).1;refine⟨h.pre,h.nd,h.good,h.come,by rw[hr,ν];omega,λk x hk hx t ht=>?_⟩;by_cases e:k=i
 .subst e;rw[hr,Qbq hil,hi] at hx;cases hx;exact hc t ht
 .exact h.cl k x om hx t ht
def QP [DecidableEq α] (ts out:List α):List α:=ts.foldl (λo t=>if t∈o then o else o ++ [t]) out
theorem gg [DecidableEq α]:∀ (ts out:List α),out.length<=(QP ts out).length
 |[],out=>μ _
 |t :: ts,out=>by
  unfold QP;rw[QbC];refine ψ ?_ (gg ts _);split
  .exact μ _
  .simp
theorem jef [DecidableEq α] {most:Int}:∀ {ts out:List α},(out.length:Int)<=most->Z2 most ts out=if((QP ts out).length:Int)<=most then some (QP ts out) else none
 |[],out,h=>by rw[Z2];exact(if_pos h).symm
 |t :: ts,out,h=>by
  have e:QP (t :: ts) out=QP ts (if t∈out then out else out ++ [t]):=rfl;rw[Z2,e];by_cases ht:t∈out
  .rw[if_pos ht,if_pos ht];exact jef h
  .rw[if_neg ht,if_neg ht];have hl:=gg ts (out ++ [t]);rw[ν,Qbb] at hl;by_cases hm:most<=(out.length:Int)
   .rw[if_pos hm,if_neg om]
   .rw[if_neg hm];exact jef (by rw[ν,Qbb];omega)
def JX [DecidableEq α] (nx:α->List α):Nat->Nat->List α->List α
 |0,i,out=>out
 |n+1,i,out=>match out[i]? with
  |none=>out
  |some s=>JX nx n (i+1) (QP (nx s) out)
theorem vi [DecidableEq α]:∀ (n i:Nat) (out:List α),out.length<=(JX nx n i out).length
 |0,i,out=>μ _
 |n+1,i,out=>by
  rw[JX];split
  .exact μ _
  .exact ψ (gg _ _) (vi n _ _)
theorem jcU [DecidableEq α] {most:Int}:∀ {n i:Nat} {out:List α},(out.length:Int)<=most->Yr nx most n i out=if((JX nx n i out).length:Int)<=most then some (JX nx n i out) else none
 |0,i,out,h=>by rw[Yr,JX,if_pos h]
 |n+1,i,out,h=>by
  rw[Yr,JX];cases out[i]? with
  |none=>exact(if_pos h).symm
  |some s=>
   dsimp only;rw[jef h];have hl:=vi (nx:=nx) n (i+1) (QP (nx s) out);by_cases hm:((QP (nx s) out).length:Int)<=most
   .rw[if_pos hm];exact jcU hm
   .rw[if_neg hm,if_neg om]
theorem Gc {β:Type}{f:β->List α}:∀ {l:List β},l.Nodup->(∀ x∈l,(f x).Nodup)->(∀ x∈l,∀ y∈l,x≠y->∀ a∈f x,a∉f y)->(l.flatMap f).Nodup
 |[],_,_,_=>by simp
 |x :: l,hn,h1,h2=>by
  rw[List.nodup_cons] at hn;rw[QaZ,QbJ];refine⟨h1 x hac,Gc hn.2 (λy hy=>h1 y (by simp[hy])) (λy hy z hz=>h2 y (by simp[hy]) z (by simp[hz])),λa ha b hb e=>?_⟩;obtain⟨y,hy,hb⟩:=Qck.1 hb;exact h2 x hac y (by simp[hy]) (λe=>hn.1 (e▸hy)) a ha (e▸hb)
end
end Go.Sy
end
