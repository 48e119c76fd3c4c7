import Derived.Test.YtndomfbgcaiijaaGreatDoorBfSyD
import Derived.Test.YtndomfbgcaiijaaGreatDoorProg
import Derived.KernelRfl
set_option linter.unusedVariables false
set_option linter.unusedSimpArgs false
set_option maxHeartbeats 8000000
open Nat renaming reduceAdd -> γ, reduceSub -> ε, le_refl -> η, le_trans -> χ, zero_le -> Qae, zero_add -> Qaj, lt_or_ge -> Qaq, lt_of_lt_of_le -> Qat, mul_one -> Qaz, mul_le_mul_right -> QaA, ne_of_lt -> QaD, sub_zero -> QaF, not_lt_zero -> QaI, add_mul -> QaJ, zero_mul -> QaV, lt_succ_self -> QaW, succ_mul -> QaX, le_of_eq -> QaY, lt_irrefl -> Qba, le_succ -> Qbd, add_assoc -> Qbj, le_of_lt -> Qbo, add_zero -> Qbq, pow_le_pow_right -> Qbu, min_eq_left -> Qbx, mod_eq_of_lt -> Qby, add_sub_cancel -> QbI, lt_succ_of_lt -> Qct, beq -> QcA, ble -> QcC, add -> QcD, mul -> QcE, sub -> QcF
open Go.Proofs.Tryz renaming prog -> δ
open List renaming map_cons -> ζ, map_nil -> θ, getD_cons_zero -> κ, getD_cons_succ -> μ, length_cons -> τ, length_append -> υ, length_nil -> φ, range -> ω, getElem_mem -> Qaa, getD_eq_getElem?_getD -> Qab, length_map -> Qac, getElem?_eq_getElem -> Qad, getD -> Qaf, all_eq_true -> Qah, cons_append -> Qai, take_length -> Qak, cons -> Qal, nil_append -> Qam, length_take -> Qas, length_drop -> Qav, map_append -> Qay, append_assoc -> QaB, all_cons -> QaC, take_zero -> QaG, mem_append -> QaH, mem_singleton -> QaL, all_append -> QaN, map_congr_left -> QaR, mem_cons -> QaT, append_nil -> QaU, mem_range -> QaZ, take_of_length_le -> Qbb, getElem?_map -> Qbf, ext_getElem -> Qbg, eq_nil_of_length_eq_zero -> Qbi, getElem?_eq_some_iff -> Qbk, drop_zero -> Qbl, mem_iff_getElem -> Qbm, replicate -> Qbr, range_succ -> Qbs, getElem?_append_left -> Qbt, getElem_cons_zero -> Qbv, take_append_drop -> QbD, take_succ_eq_append_getElem -> QbG, getElem?_append_right -> QbK, length_pos_iff -> QbO, getElem_cons_drop -> QbP, length_set -> QbQ, take_add_one -> QbX, foldl_append -> Qca, getElem?_range -> Qcb, drop_length -> Qce, getElem_append_left -> Qcx, getElem_append_right -> Qcy
open Int renaming zero_add -> ν, ofNat -> Qar, pow_succ -> Qbp, mul_ediv_add_emod -> Qcf, emod_nonneg -> Qcg, emod_lt_of_pos -> Qch, add_mul_emod_self_left -> Qci, emod_eq_of_lt -> Qcj
open Bool renaming and_eq_true -> ψ, eq_iff_iff -> Qaw, or_eq_true -> QaE, not_eq_true' -> QaO, eq_false_iff -> Qcd
open Option renaming map_some -> Qau, map_none -> Qbh, map_eq_some_iff -> QbA
noncomputable section
set_option maxRecDepth 100000
namespace Go.Sy
open Go.Ev Go.Proofs
variable {base:Bs}
section
variable {st:St} {K:AV->St->Prop}
theorem jh7 (k:IntKind)(a b:Int):jk (yE .add (.int k a) (.int k b) st) K=K (.int k (qU k (a+b))) st:=by
 cases k<;>rfl
theorem jhN (k:IntKind)(a b:Int):jk (yE .sub (.int k a) (.int k b) st) K=K (.int k (qU k (a - b))) st:=by
 cases k<;>rfl
theorem jhW (k:IntKind)(a b:Int):jk (yE .mul (.int k a) (.int k b) st) K=K (.int k (qU k (a * b))) st:=by
 cases k<;>rfl
theorem jrp (k:IntKind)(a:Int):jk (unV .neg (.int k a) st) K=K (.int k (qU k (-a))) st:=by
 have e:k.wrap (0 - a)=qU k (-a):=by rw[<-Qq,Int.zero_sub]
 simp only[unV,YR,O,e,jk]
theorem jh5 (k j:IntKind)(a:Int):jk (UF k (.int j a) st) K=K (.int k (qU k a)) st:=by
 cases k<;>cases j<;>rfl
end
def KQ (b:Bool):Int:=if b then 1 else 0
def jhe (op num a b:Int):Int:=
 if op=5 then qU .i64 (-a) else if op=6 then qU .i64 (1 - a) else if op=14 then qU .i64 (a * b) else if op=15 then qU .i64 (a+b) else if op=16 then qU .i64 (a - b)
 else if op=17\/op=30 then KQ (decide (a=b)) else if op=18 then KQ (decide (a≠b)) else if op=19 then KQ (decide (a<b)) else if op=20\/op=29 then KQ (decide (a<=b))
 else if op=21 then KQ (decide (b<a)) else if op=22 then KQ (decide (b<=a)) else if op=27 then qU .i64 (a * b) else if op=28 then max a b else num
mutual
def Jn:Ex->Int
 |.mk op num _ ks _ _=>jhe op num ((Qh ks).getD 0 0) ((Qh ks).getD 1 0)
def Qh:List Ex->Ld
 |[]=>[]
 |x :: xs=>Jn x :: Qh xs
end
mutual
def J0:Ex->Bool
 |.mk _ _ _ ks _ _=>decide (ks.length<=2) && JO ks
def JO:List Ex->Bool
 |[]=>true
 |x :: xs=>J0 x && JO xs
end
theorem jjK (x:Ex):Jn x=jhe x.op x.num ((Qh x.kids).getD 0 0) ((Qh x.kids).getD 1 0):=by cases x;rw[Jn];rfl
theorem H7:∀ {xs:List Ex} {k:Nat} (h:k<xs.length),JO xs=true->J0 xs[k]=true
 |x :: xs,0,_,h=>by rw[JO,ψ] at h;exact h.1
 |x :: xs,k+1,hk,h=>by rw[JO,ψ] at h;exact H7 (xs:=xs) (k:=k) (by simpa using hk) h.2
theorem Gs:∀ {xs:List Ex} {k:Nat} (h:k<xs.length),zR xs=none->JS xs[k]=none
 |x :: xs,0,_,h=>by
  rw[zR] at h;cases hx:JS x with
  |none=>exact hx
  |some y=>rw[hx] at h;cases h
 |x :: xs,k+1,hk,h=>by
  rw[zR] at h;cases hx:JS x with
  |none=>rw[hx] at h;exact Gs (xs:=xs) (k:=k) (by simpa using hk) h
  |some y=>rw[hx] at h;cases h
def KX (ks:List Ex)(k:Nat):List AV:=[.int .i64 ((Qh (ks.take k)).getD 0 0),.int .i64 ((Qh (ks.take k)).getD 1 0)]
theorem jdT (ks:List Ex)(k:Nat):(KX ks k).length=2:=nr rfl
theorem jpx {ks:List Ex}{k:Nat}(hk:k<ks.length)(h2:ks.length<=2):upd (KX ks k) k [.int .i64 (Jn ks[k])]=KX ks (k+1):=by
 match ks,k with
 |[a],0=>rfl
 |[a,b],0=>rfl
 |[a,b],1=>rfl
 |[a],k+1=>simp at hk
 |[a,b],k+2=>exact absurd hk hac
 |a :: b :: c :: l,_=>simp at h2
theorem jve (hb:NB base)(q:Bool):Tot base 167 [.bool q] (.int .i64 (KQ q)):=by
 refine hb.tot ?_ rfl rfl;refine jB jwj haa (hb.pur 167 1 dc) ?_;simp only[jqK,jj,ζ,θ,κ,μ];rw[(by unfold jk6;simp only[qq];rfl:jk6=_)];repeat' first|apply jb<;>intro _|simp(disch:=try exact dzG) only[r8,γ,ε]
 .rename_i h;subst h;exact G0.v rfl rfl
 .rename_i h;have h:q=false:=by simpa using h
  subst h;exact G0.v rfl rfl
theorem jhg (hb:NB base):∀ x:Ex,J0 x=true->JS x=none->Tot base 132 [.agg (eE x)] (.int .i64 (Jn x)):=by
 refine Ex.indk λx ih ht hf=>?_;have ht':x.kids.length<=2/\JO x.kids=true:=by cases x;rw[J0,ψ,decide_eq_true_eq] at ht;exact ht
 have hop:x.op≠4:=λh=>by rw[uM,if_pos h] at hf;cases hf
 rw[uM,if_neg hop] at hf;refine hb.tot ?_ (by first|rfl|simp[pa,pc,yd,Q7,JT,Jy,YP,wB,wL,Je,ZP]) rfl;refine jB jwE haa (hb.pur 132 1 dc) ?_;simp only[jq5,jj,ζ,θ,κ,μ];rw[(by unfold jlr;simp only[qq];rfl:jlr=_)];repeat' first|apply jb<;>intro _|simp(disch:=try exact dzG) only[r8,γ,ε]
 refine jU x.kids.length (λk L s=>2<=s.nx/\Cl s 0 (eE x)/\Cl s 1 (KX x.kids k)/\Has L 1 (.ptr 0 0)/\Has L 3 (.ptr 1 0)/\Has L 8 (.lst x.kids.length (fl eE x.kids))) ?_ (λk L s hk hI hi hn=>?_) (λL s hI=>?_)
 .refine⟨nxX,?_,Cl.new _ _,?_,?_,?_⟩
  .have n0:=Cl.new st0 (eE x);exact n0.nw _
  all_goals simp(disch:=decide) only[je,jn]
 .obtain⟨h2,C0,C1,i1,i3,i8⟩:=hI;have E:=ih x.kids[k] (Qaa hk) (H7 hk ht'.2) (Gs hk hf);have ap:=jpx hk ht'.1;have hk2:k<2:=om
  (have zz:=aI @jdT (aI C0.r C1.r);repeat' first|apply jb<;>intro _|simp(disch:=try exact j9) only[ja i1,ja i3,ja i8,ja hi,ja hn,E,jdT,C0.q,C1.q,jdT,C0.r,C1.r,r8,γ,ε])
  refine⟨⟨nxX,ckX,Cl.cv (Cl.wr (?_:Cl _ 1 (KX x.kids k)) k _) ap,?_,?_,?_⟩,?_,?_⟩
  .exact ckX
  all_goals exact hsX
 .obtain⟨h2,C0,C1,i1,i3,i8⟩:=hI;have hc:=jjK x;have ea:KX x.kids x.kids.length=[.int .i64 ((Qh x.kids).getD 0 0),.int .i64 ((Qh x.kids).getD 1 0)]:=by unfold KX;rw[Qak]
  rw[ea] at C1;generalize (Qh x.kids).getD 0 0=a at *;generalize (Qh x.kids).getD 1 0=b at *;rw[hc];have B:=jve hb
  (have zz:=aI C0.r C1.r;repeat' first|apply jb<;>intro _|simp(disch:=try exact j9) only[ja i1,ja i3,ja i8,B,jrp,jhN,jhW,jh7,C0.q,C1.q,C0.r,C1.r,r8,γ,ε])
  all_goals(refine G0.v (congrArg _ ?_) rfl;unfold jhe;simp_all)
def stW (n:Int)(v:VarT):Int:=qU .u64 (n * qU .u64 (qU .u64 (qU .u64 v.hi - qU .u64 v.lo)+1))
def Zi (vars:List VarT):Int:=qU .i64 (vars.foldl stW 1)
theorem jcr (hb:NB base)(vars:List VarT)(hl:vars.length<=1000000)(n2 n3:Nat)(c2 c3:List AV):PL δ base 33 [.agg [.lst vars.length (fl vaE vars),.lst n2 c2,.lst n3 c3]] (.ok (.int .i64 (Zi vars))):=by
 refine yb x33 haa (hb.pur 33 5 dc) rfl ?_;simp only[y33,jj,ζ,θ,κ,μ];rw[(by unfold z33;simp only[qq];rfl:z33=_)];repeat' first|apply jb<;>intro _|simp(disch:=try exact dzG) only[r8,γ,ε]
 refine jU vars.length (λk L s=>1<=s.nx/\Has L 3 (.int .u64 ((vars.take k).foldl stW 1))/\Has L 7 (.lst vars.length (fl vaE vars))) ?_ (λk L s hk hI hi hn=>?_) (λL s hI=>?_)
 .refine⟨nxX,?_,?_⟩<;>simp(disch:=decide) only[je,jn,QaG,List.foldl_nil]
 .obtain⟨h1,i3,i7⟩:=hI;have tk:vars.take (k+1)=vars.take k ++ [vars[k]]:=zC hk;have A1:=λa b st K=>@jh7 st K .u64 a b;have A2:=λa b st K=>@jhN st K .u64 a b;repeat' first|apply jb<;>intro _|simp(disch:=try exact dzG) only[ja i3,ja i7,ja hi,ja hn,jh5,jhW,A1,A2,r8,γ,ε]
  refine⟨⟨nxX,?_,?_⟩,?_,?_⟩
  .rw[tk,Qca];exact⟨rfl,rfl⟩
  all_goals exact hsX
 .obtain⟨h1,i3,i7⟩:=hI;rw[Qak] at i3;repeat' first|apply jb<;>intro _|simp(disch:=try exact dzG) only[ja i3,jh5,r8,γ,ε]
  exact G0.v rfl rfl
def Js (vars:List VarT)(enums:List EnumT):VarT->List Ex->KR VarT
 |v,[]=>.ok v
 |v,x :: xs=>match yK vars enums false x v.kind v.enum with
  |.er a b c=>.er a b c
  |.ok y=>match JS y with
   |some z=>.er 161 z.line z.col
   |none=>if Jn y<v.lo\/v.hi<Jn y then .er 164 x.line x.col else Js vars enums { v with beg:=true,first:=Jn y } xs
theorem KV {vars:List VarT}{enums:List EnumT}:∀ {xs ys:List Ex} {v:VarT},Js vars enums v (xs ++ ys)=match Js vars enums v xs with | .er a b c=>.er a b c | .ok u=>Js vars enums u ys
 |[],ys,v=>rfl
 |x :: xs,ys,v=>by
  simp only[Qai,Js];cases yK vars enums false x v.kind v.enum with
  |er a b c=>rfl
  |ok y=>
   dsimp only;cases JS y with
   |some z=>rfl
   |none=>
    dsimp only;split
    .rfl
    .exact KV
def en0:EnumT:=⟨[],[],0,0⟩
def JD (enums:List EnumT)(nm:Lc):Int:=fi (λx=>decide (x.name=nm)) enums
def wR (enums:List EnumT)(d:DeclT):KR VarT:=
 if d.ty=[98,111,111,108] then .ok ⟨d.name,2,[],0,1,false,0⟩
 else if 0<=JD enums d.ty then .ok ⟨d.name,3,d.ty,0,((enums.getD (JD enums d.ty).toNat en0).vals.length:Int) - 1,false,0⟩
 else if d.ty≠[] then .er 161 d.line d.col
 else if d.hi<d.lo then .er 164 d.line d.col
 else if 1024<=d.hi - d.lo then .er 165 d.line d.col
 else .ok ⟨d.name,1,[],d.lo,d.hi,false,0⟩
def Ks (m:ModT)(ts:Lb)(d:DeclT)(v:VarT):KR (ModT×Lb):=
 if 281474976710656<Zi (m.vars ++ [v]) then .er 165 d.line d.col else .ok ({ m with vars:=m.vars ++ [v] },ts)
def w7 (m:ModT)(ts:Lb)(d:DeclT)(v:VarT):KR (ModT×Lb):=match Js m.vars m.enums v d.begins with
 |.er a b c=>.er a b c
 |.ok v=>Ks m ts d v
def Yo (m:ModT)(ts:Lb)(d:DeclT):KR (ModT×Lb):=match Xu ts d.name d.line d.col with
 |.er a b c=>.er a b c
 |.ok ts=>match wR m.enums d with
  |.er a b c=>.er a b c
  |.ok v=>w7 m ts d v
section
variable {p mb lo hi:Nat} {m:ModT} {ts us:Lb} {v1 v2 v3:AV} {s t:St}
theorem MS.ck (S:MS p mb lo hi m ts v1 v2 v3 s):Ck p v1 v2 v3 (.map mb) m.vars m.enums false s:=by
 obtain⟨C,M,l1,l2,l3,d12,d13,d23,hp,hm,pm,h1,h2⟩:=S;refine⟨C,l1.lr,l2.lr,?_,?_⟩
 .intro b k z x e;rcases l1 with ⟨h,_⟩|⟨c,h,h2,_⟩
  .rw[h] at e;cases e
  .rw[h] at e;cases e;omega
 .intro b k z x e;rcases l2 with ⟨h,_⟩|⟨c,h,h2,_⟩
  .rw[h] at e;cases e
  .rw[h] at e;cases e;omega
theorem MS.var (S:MS p mb lo hi m ts v1 v2 v3 s)(e:VarT):MS p mb lo (s.nx+1) { m with vars:=m.vars ++ [e] } ts (apv 7 v1 s) v2 v3 (Go.Sy.wr (Go.Sy.aps v1 s (vaE e)) p 0 [apv 7 v1 s]):=by
 obtain⟨C,M,l1,l2,l3,d12,d13,d23,hp,hm,pm,h1,h2⟩:=S;have h4:=C.lt;have hn:(Go.Sy.wr (Go.Sy.aps v1 s (vaE e)) p 0 [apv 7 v1 s]).nx=s.nx+1:=by rw[ji,jm]
 refine⟨?_,?_,?_,?_,?_,(Df.put l2 h2).1,(Df.put l3 h2).1,d23,hp,hm,pm,om,by rw[hn];exact η _⟩
 .exact(cast (l1.cl s (vaE e) _ p (.inl hp) h4).symm C:Cl (Go.Sy.aps v1 s (vaE e)) p _).wr 0 [apv 7 v1 s]
 .exact M.keep (by rw[hn];omega) (by rw[qW (λh=>pm h.symm)];exact l1.get s (vaE e) mb (.inl hm) M.lt)
 .rw[jD (.inl hp),υ,Xl,Qc];exact l1.put (Yb e) om rfl
 .rw[jD (.inl hp)];exact(l2.apsD d12).up om
 .rw[jD (.inl hp)];exact(l3.apsD d13).up om
end
def va0:List AV:=[.str [],.int .i64 0,.str [],.int .i64 0,.int .i64 0,.bool false,.int .i64 0]
def dQ (st:St)(K:AV->St->Prop):Out->Prop:=Xo δ y62.res λv s=>K v (back st s)
def dP (st:St)(Kp:AV->St->Prop):AV->Sl->St->Prop:=λv _ s=>Kp v (bk st s)
structure DS (p mb lo q:Nat)(m:ModT)(ts:Lb)(v1 v2 v3:AV)(d:DeclT)(v:VarT)(st:St)(L:Sl)(s:St):Prop where
 S:MS p mb lo q m ts v1 v2 v3 s
 k:Kq p mb lo st.bare s
 nx:q+2<=s.nx
 c3:Cl s q (qt d)
 c4:Cl s (q+1) (vaE v)
 i0:Has L 0 (.ptr p 0)
 i3:Has L 3 (.ptr q 0)
 i4:Has L 4 (.ptr (q+1) 0)
theorem jlO (hb:NB base)(vars:List VarT)(hl:vars.length<=1000000){st:St}{v1 v2 v3:AV}{n2 n3:Nat}{c2 c3:List AV}(h1:Lr st v1 vars.length (fl vaE vars))(h2:Lr st v2 n2 c2)(h3:Lr st v3 n3 c3)(p2:c2.all pc=true)(p3:c3.all pc=true)(K Kp:AV->St->Prop) :
  XB δ base 33 [.agg [v1,v2,v3]] st K Kp=K (.int .i64 (Zi vars)) st:=by
 refine(jcr hb vars hl n2 n3 c2 c3).xb (qw (jiV (jgM (h1.fz (d:=6) (zq YP vars)) (jgM (h2.fz (d:=6) p2) (jgM (h3.fz (d:=6) p3) ju4)))) Qo) (λst=>hb.no 33 dc _ _) K Kp
theorem js1 (hb:NB base){p mb lo q:Nat}{m:ModT}{ts:Lb}{v1 v2 v3:AV}{d:DeclT}{v:VarT}{st:St}{L:Sl}{s:St}(D:DS p mb lo q m ts v1 v2 v3 d v st L s)(hV:m.vars.length<=900000)(K Kp:AV->St->Prop)(hK:KM p mb lo st (Ks m ts d v) K Kp):xC δ base jfW L s (dQ st K) (dP st Kp):=by
 obtain⟨S,k,nx,C3,C4,i0,i3,i4⟩:=D;obtain⟨C,M,l1,l2,l3,d12,d13,d23,hp,hm,pm,lo0,hi0⟩:=id S;have ve1:=l1.eqs;have Ap:=λst' bv xc xx K h hv=>@Jt lo q m.vars.length 7 st' v1 (fl vaE m.vars) K 72 bv xc xx h dc om om hv;have hqp:q≠p:=om
 have hqp1:q+1≠p:=om
 have S3:=(S.nw (vaE v)).var v;have q2:=(((k.nw om (vaE v)).aps l1 nxX (vaE v)).wr (.inl rfl) 0 [apv 7 v1 (nw s (vaE v))]).bk;have S33:=λK Kp=>jlO hb (m.vars ++ [v]) hae S3.l1.lr S3.l2.lr S3.l3.lr (zq JT _) (zq wL _) K Kp;have S2:=(S3.up nxX (η _)).ofbk (u:=st);have gp:rat s.h p 0=v1:=C.cell 0 (by simp only[τ,φ];omega);clear S3;simp only[YO] at S33;unfold dQ dP y62;rw[(by unfold jfW;simp only[qq];rfl:jfW=_)];unfold Ks at hK;by_cases hs:281474976710656<Zi (m.vars ++ [v])
 .rw[if_pos hs] at hK
  (have zz:=a8 @l1.ln @l1.rts @jD @jG @jJ @l1 @jC (a4 @jI @jM C3.r (aI C4.r C.r));repeat' first|apply jb<;>intro _|simp(disch:=try exact j9) only[ja i0,ja i3,ja i4,Ap,l1.at,S33,hs,zS hb,jC,C3.q,C4.q,C.q,l1.ln,l1.rts,jD,jG,jJ,l1,jC,jI,jM,C3.r,C4.r,C.r,r8,γ,ε])
  exact hK _ q2
 .rw[if_neg hs] at hK
  (have zz:=a8 @l1.ln @l1.rts @jD @jG @jJ @l1 @jC (a4 @jI @jM C3.r (aI C4.r C.r));repeat' first|apply jb<;>intro _|simp(disch:=try exact j9) only[ja i0,ja i3,ja i4,Ap,l1.at,S33,hs,jC,C3.q,C4.q,C.q,l1.ln,l1.rts,jD,jG,jJ,l1,jC,jI,jM,C3.r,C4.r,C.r,r8,γ,ε])
  exact hK _ q2 ⟨_,_,_,S2⟩
mutual
theorem Gd {vars:List VarT}{enums:List EnumT}:∀ (fm:Bool) (x y:Ex) (m:MtT),J0 x=true->zd vars enums fm x=.ok (y,m)->J0 y=true
 |fm,.mk op num name ks l c,y,m,ht,h=>by
  rw[zd] at h;split at h
  .cases h;exact ht
  .split at h
   .cases h;exact ht
   .split at h
    .unfold Jl at h;split at h
     .cases h;rfl
     .split at h
      .cases h
      .cases h;rfl
    .split at h
     .cases h
     .rename_i r hr;rw[J0,ψ,decide_eq_true_eq] at ht;have h2:=Kc _ _ r.1 r.2 ht.2 hr;have h3:r.1.length=ks.length:=(QA hr).1;unfold wj at h;have e:∀ o n nm l c,J0 (.mk o n nm r.1 l c)=true:=λo n nm l c=>by rw[J0,ψ,decide_eq_true_eq];exact⟨om,h2⟩
      split at h
      .cases h
      .split at h
       .cases h;exact e _ _ _ _ _
       .split at h
        .cases h
        .cases h;exact e _ _ _ _ _
theorem Kc {vars:List VarT}{enums:List EnumT}:∀ (fm:Bool) (xs ys:List Ex) (ms:List MtT),JO xs=true->qE vars enums fm xs=.ok (ys,ms)->JO ys=true
 |fm,[],ys,ms,_,h=>by rw[qE] at h;cases h;rfl
 |fm,x :: xs,ys,ms,ht,h=>by
  rw[JO,ψ] at ht;rw[qE] at h;cases hx:zd vars enums fm x with
  |er a b d=>rw[hx] at h;cases h
  |ok y=>
   rw[hx] at h;cases hr:qE vars enums fm xs with
   |er a b d=>rw[hr] at h;cases h
   |ok r=>
    rw[hr] at h;cases h;rw[JO,ψ];exact⟨Gd fm x y.1 y.2 ht.1 hx,Kc fm xs r.1 r.2 ht.2 hr⟩
end
theorem jd5 {vars:List VarT}{enums:List EnumT}{fm:Bool}{x y:Ex}{w:Int}{en:Lc}(ht:J0 x=true)(h:yK vars enums fm x w en=.ok y):J0 y=true:=by
 unfold yK at h;split at h
 .cases h
 .rename_i r hr;split at h
  .cases h
  .cases h;exact Gd fm x r.1 r.2 ht hr
mutual
theorem Yy:∀ x:Ex,J0 x=true->ww x=true
 |.mk op num name ks l c,h=>by
  rw[J0,ψ,decide_eq_true_eq] at h;rw[ww,ψ,decide_eq_true_eq];exact⟨om,gg ks h.2⟩
theorem gg:∀ xs:List Ex,JO xs=true->YL xs=true
 |[],_=>rfl
 |x :: xs,h=>by
  rw[JO,ψ] at h;rw[YL,ψ];exact⟨Yy x h.1,gg xs h.2⟩
end
def OkE (x:Ex):Prop:=J0 x=true/\ZN x=true
section
variable {p mb lo q:Nat} {m:ModT} {ts:Lb} {v1 v2 v3:AV} {d:DeclT} {v:VarT} {st:St} {L:Sl} {s:St}
theorem DS.push (D:DS p mb lo q m ts v1 v2 v3 d v st L s){c:Nat}{w:AV}(h:c≠0/\c≠3/\c≠4):DS p mb lo q m ts v1 v2 v3 d v st ((c,w) :: L) s:=by
 obtain⟨S,k,nx,c3,c4,i0,i3,i4⟩:=D;exact⟨S,k,nx,c3,c4,by rw[je h.1];exact i0,by rw[je h.2.1];exact i3,by rw[je h.2.2];exact i4⟩
end
theorem js2 (hb:NB base){p mb lo q:Nat}{m:ModT}{ts:Lb}{v1 v2 v3:AV}{d:DeclT}{v:VarT}{st:St}{L:Sl}{s:St}(D:DS p mb lo q m ts v1 v2 v3 d v st L s)(V:VarsOK m.vars m.enums)(hV:m.vars.length<=900000)(hx:∀ x∈d.begins,OkE x)(hbl:d.begins.length<=1000000)(K Kp:AV->St->Prop)(hK:KM p mb lo st (w7 m ts d v) K Kp):xC δ base jbZ L s (dQ st K) (dP st Kp):=by
 have i0:=D.i0;have i3:=D.i3;have i4:=D.i4;have C3:=D.c3;have C4:=D.c4;rw[(by unfold jbZ;simp only[qq];rfl:jbZ=_)]
 (have zz:=aI C3.r C4.r;repeat' first|apply jb<;>intro _|simp(disch:=try exact j9) only[ja i0,ja i3,ja i4,C3.q,C4.q,C3.r,C4.r,r8,γ,ε])
 refine jU d.begins.length (λk L s=>(∃ u,Js m.vars m.enums v (d.begins.take k)=.ok u/\DS p mb lo q m ts v1 v2 v3 d u st L s)/\Has L 93 (.lst d.begins.length (fl eE d.begins))) ?_ (λk L s hk hI hi hn=>?_) (λL s hI=>?_) (hc:=(λk L s v h=>(by obtain⟨⟨u,h1,h2⟩,h3⟩:=h;refine⟨⟨u,h1,h2.push dc⟩,?_⟩;simp(disch:=decide) only[je];assumption))) (hI:=(λk L s v h=>(by obtain⟨⟨u,h1,h2⟩,h3⟩:=h;refine⟨⟨u,h1,h2.push dc⟩,?_⟩;simp(disch:=decide) only[je];assumption)))
 .refine⟨⟨v,by rw[QaG,Js],((D.push dc).push dc).push dc⟩,?_⟩;simp(disch:=decide) only[je,jn]
 .obtain⟨⟨u,h1,D⟩,i93⟩:=hI;obtain⟨S,k0,nx,C3,C4,i0,i3,i4⟩:=D;have tk:d.begins.take (k+1)=d.begins.take k ++ [d.begins[k]]:=zC hk;obtain⟨x1,x2⟩:=hx _ (Qaa hk);have hqm:q≠p/\q+1≠p:=by have:=S.hp;have:=S.lo;omega
  have hqn:=S.hi;have hlq:=S.lo;have z6l:(eE d.begins[k]).length=([.int .i64 0,.int .i64 0,.str [],.nils,.int .i64 0,.int .i64 0]:List AV).length:=by rw[Jp];rfl
  have S1:=(S.nw [.int .i64 0,.int .i64 0,.str [],.nils,.int .i64 0,.int .i64 0]).wr hqn 0 (eE d.begins[k]);have k1:=(k0.nw om [.int .i64 0,.int .i64 0,.str [],.nils,.int .i64 0,.int .i64 0]).wr (c:=s.nx) (.inr om) 0 (eE d.begins[k]);have C7:=(Cl.new s [.int .i64 0,.int .i64 0,.str [],.nils,.int .i64 0,.int .i64 0]).wr0 z6l;have D3:Cl (wr (nw s [.int .i64 0,.int .i64 0,.str [],.nils,.int .i64 0,.int .i64 0]) s.nx 0 (eE d.begins[k])) q (qt d):=ckX
  have D4:Cl (wr (nw s [.int .i64 0,.int .i64 0,.str [],.nils,.int .i64 0,.int .i64 0]) s.nx 0 (eE d.begins[k])) (q+1) (vaE u):=ckX
  (have zz:=aI C3.r C4.r;repeat' first|apply jb<;>intro _|simp(disch:=try exact j9) only[ja i0,ja i3,ja i4,ja i93,ja hi,ja hn,C3.q,C4.q,C3.r,C4.r,r8,γ,ε])
  have hn1:(wr (nw s [.int .i64 0,.int .i64 0,.str [],.nils,.int .i64 0,.int .i64 0]) s.nx 0 (eE d.begins[k])).nx=s.nx+1:=rfl;generalize wr (nw s [.int .i64 0,.int .i64 0,.str [],.nils,.int .i64 0,.int .i64 0]) s.nx 0 (eE d.begins[k])=t1 at *;refine UX hb V _ x2 (Yy _ x1) u.kind u.enum S1.ck _ _ ?_;have e3:d.begins=d.begins.take k ++ (d.begins[k] :: d.begins.drop (k+1)):=by rw[QbP,QbD]
  have bk1:Js m.vars m.enums v d.begins=Js m.vars m.enums u (d.begins[k] :: d.begins.drop (k+1)):=by
   have e:=congrArg (Js m.vars m.enums v) e3;rw[KV,h1] at e;exact e
  have bk2:Js m.vars m.enums v (d.begins.take (k+1))=Js m.vars m.enums u [d.begins[k]]:=by
   rw[tk,KV,h1]
  unfold w7 at hK;rw[bk1,Js] at hK;rw[Js] at bk2;cases hr:yK m.vars m.enums false d.begins[k] u.kind u.enum with
  |er a b c=>
   rw[hr] at hK;intro s' k2;exact hK _ (k1.keep k2 om).bk
  |ok y=>
   have y1:=jd5 x1 hr;have y2:=Yy _ y1;rw[hr] at hK bk2;dsimp only at hK bk2;intro s' k2 C2;have hs':=k2.nx;have k3:=k1.keep k2 om;have S3:=S1.keep k2 C2;have E3:=k2.cl D3 hqm.1;have E4:=k2.cl D4 hqm.2;have E7:=k2.cl C7 (by have:=S.cp.lt;omega);have F:=jpf hb y y2;clear S1 k1 k2 C2 C7 D3 D4 C3 C4 S k0;cases hf:JS y with
   |some z=>
    rw[show Jm y=(z,true) by unfold Jm;rw[hf]] at F;rw[hf] at hK
    (have zz:=aI E3.r (aI E4.r E7.r);repeat' first|apply jb<;>intro _|simp(disch:=try exact j9) only[ja i0,ja i3,ja i4,F,zS hb,E3.q,E4.q,E7.q,E3.r,E4.r,E7.r,r8,γ,ε])
    exact hK _ (((((k3.nw om _).wr (c:=s'.nx) (.inr om) 0 _).nw nxX _).wr (.inr nxX) 0 _)).bk
   |none=>
    rw[show Jm y=(y,false) by unfold Jm;rw[hf]] at F;rw[hf] at hK bk2;dsimp only at hK bk2;have G:=jhg hb y y1 hf;by_cases hc:Jn y<u.lo\/u.hi<Jn y
    .rw[if_pos hc] at hK
     (have zz:=aI E3.r (aI E4.r E7.r);repeat' first|apply jb<;>intro _|simp(disch:=try exact j9) only[ja i0,ja i3,ja i4,F,G,zS hb,E3.q,E4.q,E7.q,E3.r,E4.r,E7.r,r8,γ,ε])
     all_goals exact hK _ ((((((k3.nw om _).wr (c:=s'.nx) (.inr om) 0 _).nw nxX _).wr (.inr nxX) 0 _).wr (c:=q+1) (.inr om) 5 _).wr (c:=q+1) (.inr om) 6 _).bk
    .rw[if_neg hc] at bk2;have hc1:¬ Jn y<u.lo:=λh=>hc (.inl h);have hc2:¬ u.hi<Jn y:=λh=>hc (.inr h)
     (have zz:=aI E3.r (aI E4.r E7.r);repeat' first|apply jb<;>intro _|simp(disch:=try exact j9) only[ja i0,ja i3,ja i4,ja hi,F,G,hc1,hc2,E3.q,E4.q,E7.q,E3.r,E4.r,E7.r,r8,γ,ε])
     have S5:=((((((S3.nw [.int .i64 0,.int .i64 0,.str [],.nils,.int .i64 0,.int .i64 0]).wr (c:=s'.nx) om 0 (eE y)).nw [.int .i64 0,.int .i64 0,.str [],.nils,.int .i64 0,.int .i64 0]).wr (c:=s'.nx+1) om 0 (eE y)).wr (c:=q+1) om 5 [.bool true]).wr (c:=q+1) om 6 [.int .i64 (Jn y)]);have k5:=((((((k3.nw om [.int .i64 0,.int .i64 0,.str [],.nils,.int .i64 0,.int .i64 0]).wr (c:=s'.nx) (.inr om) 0 (eE y)).nw nxX [.int .i64 0,.int .i64 0,.str [],.nils,.int .i64 0,.int .i64 0]).wr (c:=s'.nx+1) (.inr om) 0 (eE y)).wr (c:=q+1) (.inr om) 5 [.bool true]).wr (c:=q+1) (.inr om) 6 [.int .i64 (Jn y)]);refine⟨⟨⟨{ u with beg:=true,first:=Jn y },?_,S5,k5,nxX,?_,Cl.wr (Cl.wr (?_:Cl _ (q+1) (vaE u)) 5 [.bool true]) 6 [.int .i64 (Jn y)],?_,?_,?_⟩,?_⟩,?_,?_⟩
     .rw[bk2];rfl
     .exact ckX
     .exact ckX
     all_goals exact hsX
 .obtain⟨⟨u,h1,D⟩,i93⟩:=hI;rw[Qak] at h1;unfold w7 at hK;rw[h1] at hK;repeat' first|apply jb<;>intro _|simp(disch:=try exact dzG) only[r8,γ,ε]
  exact js1 hb D hV K Kp hK
theorem jgT (hb:NB base)(enums:List EnumT)(hl:enums.length<=1000000)(d:DeclT){v2:AV}(st:St){q:Nat}(h:Lr st v2 enums.length (fl enE enums))(C:Cl st q (qt d))(K Kp:AV->St->Prop) :
  XB δ base 128 [v2,.fn 129 [.ptr q 0]] st K Kp=K (.int .i64 (JD enums d.ty)) st:=by
 refine(jgS hb enums (by unfold BIG;omega) d).xb (qw (h.lend (zq JT enums)) (qw ?_ Qo)) (λst=>hb.no 128 dc _ _) K Kp;show(Qa st.h [.ptr q 0]).map (AV.fn 129)=_;have:ZR st.h (.ptr q 0)=some (.lptr (qt d) 0):=Yt C (zQ (u6 8 rfl) rfl (zQ (u6 8 rfl) rfl (zQ (u6 8 rfl) rfl (zQ (u6 8 rfl) rfl (zQ (u6 8 rfl) rfl (zQ (u6 8 rfl) rfl (zQ (u6 8 rfl) rfl Wx)))))));simp only[Qa,this];rfl
theorem js0 (hb:NB base){p mb lo:Nat}{m:ModT}{ts:Lb}{st:St}(d:DeclT)(V:VarsOK m.vars m.enums)(hV:m.vars.length<=900000)(hx:∀ x∈d.begins,OkE x)(hbl:d.begins.length<=1000000)(hlo : -100000000<=d.lo/\d.lo<=100000000)(hhi : -100000000<=d.hi/\d.hi<=100000000)(H:MX p mb lo m ts st)(K Kp:AV->St->Prop)(hK:KM p mb lo st (Yo m ts d) K Kp):XB δ base 93 [.ptr p 0,.agg (qt d)] st K Kp:=by
 obtain⟨v1,v2,v3,S⟩:=H;obtain⟨C,M,l1,l2,l3,d12,d13,d23,hp,hm,pm,lo0,hi0⟩:=id S;refine qu x62 haa (hb.at0 93 dc dc _ _) ?_;simp only[y62,jj,ζ,θ,κ,μ];rw[(by unfold z62;simp only[qq];rfl:z62=_)];have hnx:st.bare.nx=st.nx:=rfl;have S0:=S.bare.nw (qt d);have q1:=(Kq.refl:Kq p mb lo st.bare st.bare).nw (χ lo0 hi0) (qt d);have Cb:Cl (nw st.bare (qt d)) st.nx (qt d):=Cl.new st.bare (qt d);unfold Yo Xu at hK;repeat' first|apply jb<;>intro _|simp(disch:=try exact dzG) only[r8,γ,ε]
 refine gj hb S0.cp S0.mp _ _ _ _ _ ?_;by_cases h:d.name∈ts
 .rw[if_pos h] at hK ⊢;exact hK _ q1.bk
 .rw[if_neg h] at hK ⊢
  replace S0:=S0.take (ts ++ [d.name])
  replace q1:=q1.mp (mpl (ts ++ [d.name]))
  have Cb:Cl (Go.Sy.mp (nw st.bare (qt d)) mb (mpl (ts ++ [d.name]))) st.nx (qt d):=by rw[VD om];exact Cb
  have hn1:(Go.Sy.mp (nw st.bare (qt d)) mb (mpl (ts ++ [d.name]))).nx=st.nx+1:=rfl;generalize Go.Sy.mp (nw st.bare (qt d)) mb (mpl (ts ++ [d.name]))=s1 at *;dsimp only at hK;have Cv:=(Cl.new s1 va0).wr0 (c':=vaE ⟨d.name,1,[],d.lo,d.hi,false,0⟩) rfl;have S1:=(S0.nw va0).wr (c:=s1.nx) om 0 (vaE ⟨d.name,1,[],d.lo,d.hi,false,0⟩);have q2:=(q1.nw om va0).wr (c:=s1.nx) (.inr om) 0 (vaE ⟨d.name,1,[],d.lo,d.hi,false,0⟩);have Cd:Cl (wr (nw s1 va0) s1.nx 0 (vaE ⟨d.name,1,[],d.lo,d.hi,false,0⟩)) st.nx (qt d):=ckX
  have FE:=λK Kp=>jgT hb m.enums V.len2 d _ S1.l2.lr Cd K Kp;have C0:=S0.cp;have C1:=S1.cp;have hmp:st.nx≠p/\st.nx+1≠p:=om
  simp only[YO,hn1] at FE;simp only[hn1] at S1 q2 Cv Cd C1;unfold va0 at *;have mk:∀ (v:VarT) (L:Sl) (s:St),MS p mb lo st.nx m (ts ++ [d.name]) v1 v2 v3 s->Kq p mb lo st.bare s->st.nx+2<=s.nx->Cl s st.nx (qt d)->Cl s (st.nx+1) (vaE v)->Has L 0 (.ptr p 0)->Has L 3 (.ptr st.nx 0)->Has L 4 (.ptr (st.nx+1) 0)->KM p mb lo st (w7 m (ts ++ [d.name]) d v) K Kp->xC δ base jbZ L s (dQ st K) (dP st Kp):=λv L s a1 a2 a3 a4 a5 a6 a7 a8 hK=>js2 hb ⟨a1,a2,a3,a4,a5,a6,a7,a8⟩ V hV hx hbl K Kp hK;unfold wR at hK;by_cases h1:d.ty=[98,111,111,108]
  .rw[if_pos h1] at hK;have S2:=(((S1.wr (c:=st.nx+1) om 1 [.int .i64 2]).wr (c:=st.nx+1) om 3 [.int .i64 0]).wr (c:=st.nx+1) om 4 [.int .i64 1]);have q3:=(((q2.wr (c:=st.nx+1) (.inr om) 1 [.int .i64 2]).wr (c:=st.nx+1) (.inr om) 3 [.int .i64 0]).wr (c:=st.nx+1) (.inr om) 4 [.int .i64 1])
   (have zz:=aI @hn1 (aI @Cb.r C0.r);repeat' first|apply jb<;>intro _|simp(disch:=try exact j9) only[FE,h1,hn1,Cb.q,C0.q,hn1,Cb.r,C0.r,r8,γ,ε])
   refine mk ⟨d.name,2,[],0,1,false,0⟩ _ _ S2 q3 nxX (ckX) ?_ ?_ ?_ ?_ hK
   .exact((Cv.wr 1 [.int .i64 2]).wr 3 [.int .i64 0]).wr 4 [.int .i64 1]
   all_goals simp(disch:=decide) only[je,jn]
  rw[if_neg h1] at hK;by_cases h2:0<=JD m.enums d.ty
  .rw[if_pos h2] at hK;have hlt:JD m.enums d.ty<(m.enums.length:Int):=uN;have hi2:(JD m.enums d.ty).toNat<m.enums.length:=om
   have eg:m.enums.getD (JD m.enums d.ty).toNat en0=m.enums[(JD m.enums d.ty).toNat]:=by simp[Qaf,hi2]
   rw[eg] at hK;have Lw:=S0.l2;rcases id Lw with ⟨_,e0,_⟩|⟨b,rfl,b1,b2,Ce,b5,b6⟩
   .omega
   have gl:jV s1.h b=m.enums.length * 4:=by rw[Ce.len,zZ QE]
   have ge:rat s1.h b ((JD m.enums d.ty).toNat * 4+1)=.lst m.enums[(JD m.enums d.ty).toNat].vals.length (m.enums[(JD m.enums d.ty).toNat].vals.map .str):=by
    rw[Ce.cell _ (by rw[zZ QE];omega),v7 QE hi2 dc];rfl
   have hbp:b≠p/\b≠st.nx/\b≠st.nx+1/\b<s1.nx:=om
   have gp:rat s1.h p 1=.slice b 0 m.enums.length m.enums.length 4 false:=C0.cell 1 (by simp only[τ,φ];omega);have gd:rat s1.h st.nx 1=.str d.ty:=(Cb.cell 1 (by rw[XQ];decide)).trans (by rw[jpl];rfl);have hvl:=V.vals _ (Qaa hi2)
   (have zz:=a4 @hn1 @gl @ge (aI @Cb.r C0.r);repeat' first|apply jb<;>intro _|simp(disch:=try exact j9) only[FE,h1,h2,hn1,ge,sm9,Hi,Hh,Cb.q,C0.q,hn1,gl,ge,Cb.r,C0.r,r8,γ,ε])
   refine⟨?_,?_,?_,?_⟩;rotate_right
   .have S2:=((((S1.wr (c:=st.nx+1) om 1 [.int .i64 3]).wr (c:=st.nx+1) om 2 [.str d.ty]).wr (c:=st.nx+1) om 3 [.int .i64 0]).wr (c:=st.nx+1) om 4 [.int .i64 ((m.enums[(JD m.enums d.ty).toNat].vals.length:Int) - 1)]);have q3:=((((q2.wr (c:=st.nx+1) (.inr om) 1 [.int .i64 3]).wr (c:=st.nx+1) (.inr om) 2 [.str d.ty]).wr (c:=st.nx+1) (.inr om) 3 [.int .i64 0]).wr (c:=st.nx+1) (.inr om) 4 [.int .i64 ((m.enums[(JD m.enums d.ty).toNat].vals.length:Int) - 1)]);refine mk ⟨d.name,3,d.ty,0,(m.enums[(JD m.enums d.ty).toNat].vals.length:Int) - 1,false,0⟩ _ _ S2 q3 nxX (ckX) ?_ ?_ ?_ ?_ hK
    .exact(((Cv.wr 1 [.int .i64 3]).wr 2 [.str d.ty]).wr 3 [.int .i64 0]).wr 4 [.int .i64 ((m.enums[(JD m.enums d.ty).toNat].vals.length:Int) - 1)]
    all_goals simp(disch:=decide) only[je,jn]
   all_goals
    repeat' apply aI
    all_goals first
     |exact(Hh (by simp(disch:=omega) only[Xg,XE,gl];omega) (by simp(disch:=omega) only[wb,uk,ge]) rfl).mpr trivial
     |exact(Hi (by simp(disch:=omega) only[Xg,XE,C0.len,τ,φ];omega) (by simp(disch:=omega) only[wb,uk,gp]) rfl).mpr trivial
     |exact(sm9 (by simp(disch:=omega) only[Xg,XE,Cb.len,XQ];omega) (by simp(disch:=omega) only[wb,uk,gd]) rfl).mpr trivial
  rw[if_neg h2] at hK;by_cases h3:d.ty≠[]
  .rw[if_pos h3] at hK
   (have zz:=aI @hn1 (aI @Cb.r C0.r);repeat' first|apply jb<;>intro _|simp(disch:=try exact j9) only[FE,h1,h2,h3,hn1,zS hb,Cb.q,C0.q,hn1,Cb.r,C0.r,r8,γ,ε])
   exact hK _ q2.bk
  rw[if_neg h3] at hK;have h3:(d.ty=[])=True:=eq_true (by simpa using h3);by_cases h4:d.hi<d.lo
  .rw[if_pos h4] at hK
   (have zz:=aI @hn1 (aI @Cb.r C0.r);repeat' first|apply jb<;>intro _|simp(disch:=try exact j9) only[FE,h1,h2,h3,h4,hn1,zS hb,Cb.q,C0.q,hn1,Cb.r,C0.r,r8,γ,ε])
   exact hK _ q2.bk
  rw[if_neg h4] at hK;by_cases h5:1024<=d.hi - d.lo
  .rw[if_pos h5] at hK
   (have zz:=aI @hn1 (aI @Cb.r C0.r);repeat' first|apply jb<;>intro _|simp(disch:=try exact j9) only[FE,h1,h2,h3,h4,h5,hn1,zS hb,Cb.q,C0.q,hn1,Cb.r,C0.r,r8,γ,ε])
   exact hK _ q2.bk
  rw[if_neg h5] at hK
  (have zz:=aI @hn1 (aI @Cb.r C0.r);repeat' first|apply jb<;>intro _|simp(disch:=try exact j9) only[FE,h1,h2,h3,h4,h5,hn1,Cb.q,C0.q,hn1,Cb.r,C0.r,r8,γ,ε])
  refine mk _ _ _ S1 q2 nxX (ckX) Cv ?_ ?_ ?_ hK;all_goals simp(disch:=decide) only[je,jn]
theorem jaG {s:St}:∀ {cs:List AV},cs.all pc=true->lall AV.cell cs=true->XN (fz 9 s.h) cs=cs
 |[],_,_=>Wx
 |v :: l,hp,hc=>by
  rw[QaC,ψ] at hp;have h1:v.cell=true/\lall AV.cell l=true:=by
   have:cond v.cell (lall AV.cell l) false=true:=hc;cases h:v.cell with
   |true=>rw[h] at this;exact⟨rfl,this⟩
   |false=>rw[h] at this;cases this
  exact zQ (u6 8 hp.1) h1.1 (jaG hp.2 h1.2)
theorem jt8 {α:Type}{enc:α->List AV}{z:Nat}(hz:∀ x,(enc x).length=z){xs:List α}{k:IntKind}{i:Nat}(hi:i<=xs.length){st:St}{K:AV->St->Prop}:jk (Zk z (.lst xs.length (fl enc xs)) none (some (.int k (i:Int))) st) K=K (.lst i (fl enc (xs.take i))) st:=by
 have e1:QcC (QcE i z) (jP (fl enc xs))=true:=by
  rw[jO,zZ hz];exact qo (QaA z hi)
 simp only[Zk,optA,Wp,qo hi,qo (Qae i),e1,cond_true,jk,qX,yX];have e2:(fl enc xs).drop (QcE 0 z)=fl enc xs:=by rw[show QcE 0 z=0 from QaV z];rfl
 have e3:QcE (QcF i 0) z=i * z:=rfl;rw[e2,e3,jfa hz];rfl
theorem jpe (hb:NB base)(xs:List AsT)(hl:xs.length<=1000000)(a:AsT)(st:St){q:Nat}(C:Cl st q (asE a))(n:Nat)(hn:n=xs.length)(K Kp:AV->St->Prop) :
  XB δ base 134 [.lst n (fl asE xs),.fn 135 [.ptr q 0]] st K Kp=K (.bool (decide (0<=fi (λx=>decide (x.name=a.name)) xs))) st:=by
 subst hn;refine(jpd hb xs (by unfold BIG;omega) a).xb (yh rfl (qw ?_ Qo)) (λst=>hb.no 134 dc _ _) K Kp;show(Qa st.h [.ptr q 0]).map (AV.fn 135)=_;have:ZR st.h (.ptr q 0)=some (.lptr (asE a) 0):=Yt C (jaG (Q7 a) (GQ a));simp only[Qa,this];rfl
theorem jgb (hb:NB base){p:Nat}{v1 v2 v3 mm:AV}{vars:List VarT}{enums:List EnumT}{fm:Bool}{st:St}(C:Ck p v1 v2 v3 mm vars enums fm st)(hl:vars.length<=1000000)(s:Lc)(K Kp:AV->St->Prop) :
  XB δ base 133 [.ptr p 0,.str s] st K Kp=K (.int .i64 (qr vars s)) st:=by
 obtain⟨r,hr⟩:=C.lend;exact(K7 hb vars (by unfold BIG;omega) s _).xb (qw hr (yh rfl Qo)) (λst=>hb.no 133 dc _ _) K Kp
def mvc:List MoveT->List AV->List AV
 |m :: ms,u :: us=>(eE m.when ++ [u]) ++ mvc ms us
 |_,_=>[]
theorem jeU:∀ {ms:List MoveT} {us:List AV} {m:MoveT} {u:AV},us.length=ms.length->mvc (ms ++ [m]) (us ++ [u])=mvc ms us ++ (eE m.when ++ [u])
 |[],[],m,u,_=>by simp[mvc]
 |m' :: ms,u' :: us,m,u,h=>by
  show(eE m'.when ++ [u']) ++ mvc (ms ++ [m]) (us ++ [u])=((eE m'.when ++ [u']) ++ mvc ms us) ++ (eE m.when ++ [u]);rw[jeU (by simpa using h)];simp only[QaB]
 |[],u' :: us,m,u,h=>by simp at h
 |m' :: ms,[],m,u,h=>by simp at h
def UU (lo hi:Nat)(s:St)(v3:AV):List MoveT->List AV->Prop
 |[],[]=>True
 |m :: ms,u :: us=>(Lv lo hi s u m.acts.length (fl seE m.acts) 7/\Df v3 u)/\UU lo hi s v3 ms us
 |_,_=>False
theorem UU.imp {lo hi lo' hi':Nat}{s s':St}{v3 v3':AV}(f:∀ u n cs,Lv lo hi s u n cs 7/\Df v3 u->Lv lo' hi' s' u n cs 7/\Df v3' u):∀ {ms:List MoveT} {us:List AV},UU lo hi s v3 ms us->UU lo' hi' s' v3' ms us
 |[],[],_=>trivial
 |m :: ms,u :: us,h=>⟨f _ _ _ h.1,UU.imp f h.2⟩
theorem UU.len {lo hi:Nat}{s:St}{v3:AV}:∀ {ms:List MoveT} {us:List AV},UU lo hi s v3 ms us->us.length=ms.length
 |[],[],_=>rfl
 |m :: ms,u :: us,h=>by simp[UU.len h.2]
theorem UU.app {lo hi:Nat}{s:St}{v3:AV}{m:MoveT}{u:AV}(hu:Lv lo hi s u m.acts.length (fl seE m.acts) 7/\Df v3 u):∀ {ms:List MoveT} {us:List AV},UU lo hi s v3 ms us->UU lo hi s v3 (ms ++ [m]) (us ++ [u])
 |[],[],_=>⟨hu,trivial⟩
 |m' :: ms,u' :: us,h=>⟨h.1,UU.app hu h.2⟩
structure MR (p mb lo hi:Nat)(m:ModT)(ts:Lb)(v1 v2 v3:AV)(us:List AV)(s:St):Prop where
 cp:Cl s p [v1,v2,v3,.map mb,.bool false]
 mp:Mp s mb ts
 l1:Lv lo hi s v1 m.vars.length (fl vaE m.vars) 7
 l2:Lv lo hi s v2 m.enums.length (fl enE m.enums) 4
 l3:Lv lo hi s v3 m.moves.length (mvc m.moves us) 7
 uu:UU lo hi s v3 m.moves us
 d13:Df v3 v1
 d23:Df v3 v2
 hp:p<lo
 hm:mb<lo
 pm:p≠mb
 lo:lo<=hi
 hi:hi<=s.nx
def MZ (p mb lo:Nat)(m:ModT)(ts:Lb)(s:St):Prop:=∃ v1 v2 v3 us,MR p mb lo s.nx m ts v1 v2 v3 us s
theorem Df.symm2 {v w:AV}(h:Df v w):Df w v:=by
 unfold Df at *;cases v<;>cases w<;>first|trivial|exact λe=>h e.symm
section
variable {p mb lo hi:Nat} {m:ModT} {ts us:Lb} {v1 v2 v3:AV} {ws:List AV} {s t:St}
theorem MS.mr (S:MS p mb lo hi m ts v1 v2 v3 s)(h:m.moves=[]):MR p mb lo hi m ts v1 v2 v3 [] s:=by
 obtain⟨C,M,l1,l2,l3,d12,d13,d23,hp,hm,pm,h1,h2⟩:=S;refine⟨C,M,l1,l2,?_,?_,Df.symm2 d13,Df.symm2 d23,hp,hm,pm,h1,h2⟩
 .rw[h] at l3 ⊢;exact l3
 .rw[h];trivial
theorem MR.ck (S:MR p mb lo hi m ts v1 v2 v3 ws s):Ck p v1 v2 v3 (.map mb) m.vars m.enums false s:=by
 obtain⟨C,M,l1,l2,l3,uu,d13,d23,hp,hm,pm,h1,h2⟩:=S;refine⟨C,l1.lr,l2.lr,?_,?_⟩
 .intro b k z x e;rcases l1 with ⟨h,_⟩|⟨c,h,h2,_⟩
  .rw[h] at e;cases e
  .rw[h] at e;cases e;omega
 .intro b k z x e;rcases l2 with ⟨h,_⟩|⟨c,h,h2,_⟩
  .rw[h] at e;cases e
  .rw[h] at e;cases e;omega
theorem MR.imp (S:MR p mb lo hi m ts v1 v2 v3 ws s){hi':Nat}(C:Cl t p [v1,v2,v3,.map mb,.bool false])(M:Mp t mb us)(f:∀ v n cs z,Lv lo hi s v n cs z->Lv lo hi' t v n cs z)(h1:hi<=hi')(h2:hi'<=t.nx):MR p mb lo hi' m us v1 v2 v3 ws t:=
 ⟨C,M,f _ _ _ _ S.l1,f _ _ _ _ S.l2,f _ _ _ _ S.l3,S.uu.imp λu n cs h=>⟨f _ _ _ _ h.1,h.2⟩,S.d13,S.d23,S.hp,S.hm,S.pm,χ S.lo h1,h2⟩
theorem MR.nw (S:MR p mb lo hi m ts v1 v2 v3 ws s)(ds:List AV):MR p mb lo hi m ts v1 v2 v3 ws (Go.Sy.nw s ds):=by
 have C:=S.cp;have h1:=S.hp;have h2:=S.hi;have h3:=S.lo;exact S.imp (ckX) (S.mp.nw ds) (λv n cs z h=>ckX) (η _) (by rw[jf];omega)
theorem MR.wr (S:MR p mb lo hi m ts v1 v2 v3 ws s){c:Nat}(hc:hi<=c)(o:Nat)(ds:List AV):MR p mb lo hi m ts v1 v2 v3 ws (Go.Sy.wr s c o ds):=by
 have C:=S.cp;have h1:=S.hp;have h2:=S.hi;have h3:=S.lo;have h4:=S.hm;exact S.imp (ckX) (S.mp.wr om o ds) (λv n cs z h=>ckX) (η _) (by rw[ji];omega)
theorem MR.take (S:MR p mb lo hi m ts v1 v2 v3 ws s)(us:Lb):MR p mb lo hi m us v1 v2 v3 ws (Go.Sy.mp s mb (mpl us)):=
 S.imp (by rw[VD S.pm];exact S.cp) S.mp.put (λv n cs z h=>h.mp S.hm) (η _) S.hi
theorem MR.keep (S:MR p mb lo hi m ts v1 v2 v3 ws s)(k:Keep p s t)(C':Cl t p [v1,v2,v3,.map mb,.bool false]):MR p mb lo hi m ts v1 v2 v3 ws t:=
 S.imp C' (S.mp.keep k.nx (k.get mb S.mp.lt (λe=>S.pm e.symm))) (λv n cs z h=>k.lv h (.inl S.hp)) (η _) (χ S.hi k.nx)
theorem MR.up (S:MR p mb lo hi m ts v1 v2 v3 ws s){hi':Nat}(h:hi<=hi')(h2:hi'<=s.nx):MR p mb lo hi' m ts v1 v2 v3 ws s:=
 S.imp S.cp S.mp (λv n cs z k=>k.up h) h h2
theorem MR.bare (S:MR p mb lo hi m ts v1 v2 v3 ws s):MR p mb lo hi m ts v1 v2 v3 ws s.bare:=
 S.imp S.cp.bar ⟨S.mp.lt,S.mp.get⟩ (λv n cs z h=>by rw[jH];exact h) (η _) S.hi
theorem MR.ofbk {u:St}(S:MR p mb lo hi m ts v1 v2 v3 ws s):MR p mb lo hi m ts v1 v2 v3 ws (bk u s):=by
 have e:∀ b cs,Cl s b cs->Cl (bk u s) b cs:=λb cs h=>⟨h.lt,h.row,h.len,h.cell⟩;exact S.imp (e _ _ S.cp) ⟨S.mp.lt,S.mp.get⟩ (λv n cs z h=>h.imp id λ⟨c,h1,h2,h3,h4,h5,h6⟩=>⟨c,h1,h2,h3,e _ _ h4,h5,h6⟩) (η _) S.hi
theorem MR.aps (S:MR p mb lo hi m ts v1 v2 v3 ws s){lo' hi' n' z':Nat}{v':AV}{cs':List AV}(V:Lv lo' hi' s v' n' cs' z')(h:hi<=lo')(ds:List AV):MR p mb lo hi m ts v1 v2 v3 ws (Go.Sy.aps v' s ds):=by
 have h0:=S.hp;have h1:=S.hm;have h2:=S.lo;have h3:=S.hi;exact S.imp (S.cp.aps V (.inl om)) (S.mp.keep (by rw[jm];omega) (V.get s ds mb (.inl om) S.mp.lt)) (λv n cs z k=>k.aps V (.inl h)) (η _) (by rw[jm];omega)
theorem Lv.low {lo lo' hi n z:Nat}{s:St}{v:AV}{cs:List AV}(h:Lv lo' hi s v n cs z)(h2:lo<=lo'):Lv lo hi s v n cs z:=h.imp id λ⟨c,h1,h3,h4,h5,h6,h7⟩=>⟨c,h1,h3,h4,h5,om,h7⟩
theorem MR.move (S:MR p mb lo hi m ts v1 v2 v3 ws s)(e:MoveT){u:AV}{z:Nat}(V:Lv z s.nx s u e.acts.length (fl seE e.acts) 7)(hz:hi<=z):MR p mb lo (s.nx+1) { m with moves:=m.moves ++ [e] } ts v1 v2 (apv 7 v3 s) (ws ++ [u]) (Go.Sy.wr (Go.Sy.aps v3 s (eE e.when ++ [u])) p 2 [apv 7 v3 s]):=by
 obtain⟨C,M,l1,l2,l3,uu,d13,d23,hp,hm,pm,h1,h2⟩:=S;have h4:=C.lt;have hn:(Go.Sy.wr (Go.Sy.aps v3 s (eE e.when ++ [u])) p 2 [apv 7 v3 s]).nx=s.nx+1:=by rw[ji,jm]
 refine⟨?_,?_,?_,?_,?_,?_,(Df.put l1 h2).1,(Df.put l2 h2).1,hp,hm,pm,om,by rw[hn];exact η _⟩
 .exact(cast (l3.cl s (eE e.when ++ [u]) _ p (.inl hp) h4).symm C:Cl (Go.Sy.aps v3 s (eE e.when ++ [u])) p _).wr 2 [apv 7 v3 s]
 .exact M.keep (by rw[hn];omega) (by rw[qW (λh=>pm h.symm)];exact l3.get s (eE e.when ++ [u]) mb (.inl hm) M.lt)
 .rw[jD (.inl hp)];exact(l1.apsD d13).up om
 .rw[jD (.inl hp)];exact(l2.apsD d23).up om
 .rw[jD (.inl hp),υ,jeU uu.len];exact l3.put (by rw[υ,Jp];rfl) om rfl
 .refine UU.app ?_ (uu.imp λu n cs h=>?_)
  .rw[jD (.inl hp)];refine⟨((V.aps l3 (.inr hz)).up om).low om,?_⟩;have V':Lv lo s.nx s u e.acts.length (fl seE e.acts) 7:=V.low om;exact(Df.put V' (η _)).1
  .rw[jD (.inl hp)];exact⟨(h.1.apsD h.2).up om,(Df.put h.1 h2).1⟩
end
def vz:VarT:=⟨[],0,[],0,0,false,0⟩
def Yd (vars:List VarT)(enums:List EnumT):List SetT->List AsT->List AsT->KR (List SetT)
 |acc,done,[]=>.ok acc
 |acc,done,a :: rest=>if qr vars a.name<0 then .er 161 a.line a.col
  else if 0<=fi (λx=>decide (x.name=a.name)) done then .er 162 a.line a.col
  else match yK vars enums false a.to (vars.getD (qr vars a.name).toNat vz).kind (vars.getD (qr vars a.name).toNat vz).enum with
   |.er x y z=>.er x y z
   |.ok y=>Yd vars enums (acc ++ [⟨qr vars a.name,y⟩]) (done ++ [a]) rest
def ZK (m:ModT)(ts:Lb)(r:RuleT):KR (ModT×Lb):=match yK m.vars m.enums false r.when 2 [] with
 |.er a b c=>.er a b c
 |.ok w=>match Yd m.vars m.enums [] [] r.acts with
  |.er a b c=>.er a b c
  |.ok ss=>.ok ({ m with moves:=m.moves ++ [⟨w,ss⟩] },ts)
def KZ (p mb lo:Nat)(st:St)(r:KR (ModT×Lb))(K Kp:AV->St->Prop):Prop:=match r with
 |.ok y=>∀ s',Kq p mb lo st s'->MZ p mb lo y.1 y.2 s'->K (.tup []) s'
 |.er c l k=>∀ s',Kq p mb lo st s'->Kp (kf c l k) s'
def moL (w:Ex)(vl:AV):List AV:=[.int .i64 w.op,.int .i64 w.num,.str w.name,.lst w.kids.length (fl eE w.kids),.int .i64 w.line,.int .i64 w.col,vl]
theorem jsf (w:Ex)(vl:AV):eE w ++ [vl]=moL w vl:=by rw[qx];rfl
def rQ (st:St)(K:AV->St->Prop):Out->Prop:=Xo δ y64.res λv s=>K v (back st s)
structure RS (p mb lo q z:Nat)(m:ModT)(ts:Lb)(v1 v2 v3:AV)(ws:List AV)(r:RuleT)(w:Ex)(acc:List SetT)(vl:AV)(st:St)(L:Sl)(s:St):Prop where
 S:MR p mb lo q m ts v1 v2 v3 ws s
 k:Kq p mb lo st.bare s
 qz:q<z
 nx:z+1<=s.nx
 c3:Cl s q (ruE r)
 c4:Cl s z (moL w vl)
 lv:Lv (z+1) s.nx s vl acc.length (fl seE acc) 7
 i0:Has L 0 (.ptr p 0)
 i3:Has L 3 (.ptr q 0)
 i4:Has L 4 (.ptr z 0)
theorem RS.push {p mb lo q z:Nat}{m:ModT}{ts:Lb}{v1 v2 v3:AV}{ws:List AV}{r:RuleT}{w:Ex}{acc:List SetT}{vl:AV}{st:St}{L:Sl}{s:St}(D:RS p mb lo q z m ts v1 v2 v3 ws r w acc vl st L s){c:Nat}{v:AV}(h:c≠0/\c≠3/\c≠4):RS p mb lo q z m ts v1 v2 v3 ws r w acc vl st ((c,v) :: L) s:=by
 obtain⟨S,k,qz,nx,c3,c4,lv,i0,i3,i4⟩:=D;exact⟨S,k,qz,nx,c3,c4,lv,by rw[je h.1];exact i0,by rw[je h.2.1];exact i3,by rw[je h.2.2];exact i4⟩
theorem r12:type_of%(a8 @jd @jh @j1 @jg @jc @jo @jp (a4 @jr @jt @jq @rzZ)):=a8 @jd @jh @j1 @jg @jc @jo @jp (a4 @jr @jt @jq @rzZ)
theorem jrX (hb:NB base){p mb lo q z:Nat}{m:ModT}{ts:Lb}{v1 v2 v3:AV}{ws:List AV}{r:RuleT}{w:Ex}{acc:List SetT}{vl:AV}{st:St}{L:Sl}{s:St}(D:RS p mb lo q z m ts v1 v2 v3 ws r w acc vl st L s)(hM:m.moves.length<=1000000)(K Kp:AV->St->Prop)
  (hK:KZ p mb lo st (.ok ({ m with moves:=m.moves ++ [⟨w,acc⟩] },ts)) K Kp):xC δ base jfU L s (rQ st K) (dP st Kp):=by
 obtain⟨S,k,qz,nx,C3,C4,lv,i0,i3,i4⟩:=D;have C:=S.cp;have l3:=S.l3;have hp:=S.hp;have hlo:=S.lo;have hhi:=S.hi;have ve3:=l3.eqs;have vc:∀ l,lall AV.cell (vl :: l)=lall AV.cell l:=λl=>by show cond vl.cell _ false=_;rw[lv.cell];rfl
 have Ap:=λst' bv xc xx K h hv=>@Jt lo q m.moves.length 7 st' v3 (mvc m.moves ws) K 96 bv xc xx h dc om om hv;have hqp:q≠p/\z≠p:=om
 have lv2:Lv (z+1) (nw s (moL w vl)).nx (nw s (moL w vl)) vl acc.length (fl seE acc) 7:=by
  refine Lv.up (hi:=s.nx) ?_ nxX
  exact ckX
 have S3:=(S.nw (moL w vl)).move ⟨w,acc⟩ (u:=vl) lv2 om;rw[jsf] at S3;have q2:=(((k.nw om (moL w vl)).aps l3 nxX (moL w vl)).wr (.inl rfl) 2 [apv 7 v3 (nw s (moL w vl))]).bk;have S2:=(S3.up nxX (η _)).ofbk (u:=st);have gp:rat s.h p 2=v3:=C.cell 2 (by simp only[τ,φ];omega);clear S3 lv2;unfold moL at *;unfold rQ dP y64;rw[(by unfold jfU;simp only[qq];rfl:jfU=_)]
 (have zz:=a8 @vc @l3.ln @l3.rts @jD @jG @jJ @l3 (a4 @jC @jI @jM (aI C3.r (aI C4.r C.r)));repeat' first|apply jb<;>intro _|simp(disch:=try exact j9) only[ja i0,ja i3,ja i4,Ap,l3.at,jC,C3.q,C4.q,C.q,vc,l3.ln,l3.rts,jD,jG,jJ,l3,jC,jI,jM,C3.r,C4.r,C.r,r12,γ,ε])
 exact hK _ q2 ⟨_,_,_,_,S2⟩
theorem jup:Go.Ev.isAgg δ 123=some false:=Qa0
theorem juo:Go.Ev.sizeOf δ 123=some 1:=Qa0
theorem jrO {b o:Nat}{v:AV}{h:T AO}(ho:o<jV h b)(hv:rat h b o=v)(hc:eqs v=true):(jZ δ 123 (.ptr b o) v h=true)=True:=eq_true (JA jup juo ho hv hc)
def zA9:List AV:=[.str [],.int .i64 0,.int .i64 0,.str [],.nils,.int .i64 0,.int .i64 0,.int .i64 0,.int .i64 0]
theorem jcv {vars:List VarT}{enums:List EnumT}{acc:List SetT}{xs:List AsT}{k:Nat}(hk:k<xs.length):Yd vars enums acc (xs.take k) (xs.drop k)=if qr vars xs[k].name<0 then .er 161 xs[k].line xs[k].col
  else if 0<=fi (λx=>decide (x.name=xs[k].name)) (xs.take k) then .er 162 xs[k].line xs[k].col
  else match yK vars enums false xs[k].to (vars.getD (qr vars xs[k].name).toNat vz).kind (vars.getD (qr vars xs[k].name).toNat vz).enum with
   |.er x y z=>.er x y z
   |.ok y=>Yd vars enums (acc ++ [⟨qr vars xs[k].name,y⟩]) (xs.take (k+1)) (xs.drop (k+1)):=by
 have e:xs.drop k=xs[k] :: xs.drop (k+1):=(QbP hk).symm;rw[e,Yd,<-zC hk]<;>rfl
theorem jrY (hb:NB base){p mb lo q z:Nat}{m:ModT}{ts:Lb}{v1 v2 v3:AV}{ws:List AV}{r:RuleT}{w:Ex}{st:St}{L:Sl}{s:St}(D:RS p mb lo q z m ts v1 v2 v3 ws r w [] .nils st L s)(V:VarsOK m.vars m.enums)(hx:∀ a∈r.acts,OkE a.to)(hbl:r.acts.length<=1000000)(hM:m.moves.length<=1000000)(K Kp:AV->St->Prop)
  (hK:KZ p mb lo st (match Yd m.vars m.enums [] [] r.acts with | .er a b c=>.er a b c | .ok ss=>.ok ({ m with moves:=m.moves ++ [⟨w,ss⟩] },ts)) K Kp):xC δ base jfV L s (rQ st K) (dP st Kp):=by
 have i0:=D.i0;have i3:=D.i3;have i4:=D.i4;have C3:=D.c3;rw[(by unfold jfV;simp only[qq];rfl:jfV=_)]
 (have zz:=C3.r;repeat' first|apply jb<;>intro _|simp(disch:=try exact j9) only[ja i0,ja i3,ja i4,C3.q,C3.r,r12,γ,ε])
 refine jU r.acts.length (λk L s=>(∃ acc vl,acc.length=k/\Yd m.vars m.enums [] [] r.acts=Yd m.vars m.enums acc (r.acts.take k) (r.acts.drop k)/\RS p mb lo q z m ts v1 v2 v3 ws r w acc vl st L s)/\Has L 14 (.lst r.acts.length (fl asE r.acts))) ?_ (λk L s hk hI hi hn=>?_) (λL s hI=>?_) (hc:=(λk L s v h=>(by obtain⟨⟨acc,vl,h0,h1,h2⟩,h3⟩:=h;refine⟨⟨acc,vl,h0,h1,h2.push dc⟩,?_⟩;simp(disch:=decide) only[je];assumption))) (hI:=(λk L s v h=>(by obtain⟨⟨acc,vl,h0,h1,h2⟩,h3⟩:=h;refine⟨⟨acc,vl,h0,h1,h2.push dc⟩,?_⟩;simp(disch:=decide) only[je];assumption)))
 .refine⟨⟨[],.nils,rfl,rfl,((D.push dc).push dc).push dc⟩,?_⟩;simp(disch:=decide) only[je,jn]
 .obtain⟨⟨acc,vl,hacc,h1,D⟩,i14⟩:=hI;obtain⟨S,k0,qz,nx,C3,C4,lv,i0,i3,i4⟩:=D;obtain⟨x1,x2⟩:=hx _ (Qaa hk);have hlo:=S.lo;have hhi:=S.hi;have hp:=S.hp;have hqm:q≠p/\z≠p:=om
  have zl9:(asE r.acts[k]).length=zA9.length:=by rw[vb];rfl
  have S1:=(S.nw zA9).wr (c:=s.nx) om 0 (asE r.acts[k]);have k1:=(k0.nw om zA9).wr (c:=s.nx) (.inr om) 0 (asE r.acts[k]);have C6:=(Cl.new s zA9).wr0 zl9;have D3:Cl (wr (nw s zA9) s.nx 0 (asE r.acts[k])) q (ruE r):=ckX
  have D4:Cl (wr (nw s zA9) s.nx 0 (asE r.acts[k])) z (moL w vl):=ckX
  have lv1:Lv (z+1) s.nx (wr (nw s zA9) s.nx 0 (asE r.acts[k])) vl acc.length (fl seE acc) 7:=ckX
  have hn1:(wr (nw s zA9) s.nx 0 (asE r.acts[k])).nx=s.nx+1:=rfl;have VC:=λnm K Kp=>jgb hb S1.ck V.len nm K Kp;have HA:=λK Kp=>jpe hb (r.acts.take k) (by rw[Qas];omega) r.acts[k] _ C6 k (by rw[Qas];omega) K Kp;have SL:=λst K=>@jt8 _ asE 9 vb r.acts .i64 k (Qbo hk) st K;rw[h1,jcv hk] at hK;unfold zA9 at *
  (have zz:=aI C3.r C4.r;repeat' first|apply jb<;>intro _|simp(disch:=try exact j9) only[ja i0,ja i3,ja i4,ja i14,ja hi,ja hn,C3.q,C4.q,C3.r,C4.r,r12,γ,ε])
  generalize wr (nw s [.str [],.int .i64 0,.int .i64 0,.str [],.nils,.int .i64 0,.int .i64 0,.int .i64 0,.int .i64 0]) s.nx 0 (asE r.acts[k])=t1 at *;have C1:=S1.cp;by_cases c1:qr m.vars r.acts[k].name<0
  .rw[if_pos c1] at hK
   (have zz:=aI D3.r (aI D4.r C6.r);repeat' first|apply jb<;>intro _|simp(disch:=try exact j9) only[ja i0,ja i3,ja i4,VC,c1,zS hb,D3.q,D4.q,C6.q,D3.r,D4.r,C6.r,r12,γ,ε])
   exact hK _ k1.bk
  rw[if_neg c1] at hK;by_cases c2:0<=fi (λx=>decide (x.name=r.acts[k].name)) (r.acts.take k)
  .rw[if_pos c2] at hK
   (have zz:=aI D3.r (aI D4.r C6.r);repeat' first|apply jb<;>intro _|simp(disch:=try exact j9) only[ja i0,ja i3,ja i4,VC,c1,HA,SL,c2,zS hb,D3.q,D4.q,C6.q,D3.r,D4.r,C6.r,r12,γ,ε])
   exact hK _ k1.bk
  rw[if_neg c2] at hK;have hlt:qr m.vars r.acts[k].name<(m.vars.length:Int):=uN;have hi2:(qr m.vars r.acts[k].name).toNat<m.vars.length:=om
  have eg:m.vars.getD (qr m.vars r.acts[k].name).toNat vz=m.vars[(qr m.vars r.acts[k].name).toNat]:=by simp[Qaf,hi2]
  rw[eg] at hK;have Lw:=S1.l1;rcases id Lw with ⟨_,e0,_⟩|⟨b,rfl,b1,b2,Ce,b5,b6⟩
  .omega
  have gl:jV t1.h b=m.vars.length * 7:=by rw[Ce.len,zZ Yb]
  have ge1:rat t1.h b ((qr m.vars r.acts[k].name).toNat * 7+1)=.int .i64 m.vars[(qr m.vars r.acts[k].name).toNat].kind:=by
   rw[Ce.cell _ (by rw[zZ Yb];omega),v7 Yb hi2 dc];rfl
  have ge2:rat t1.h b ((qr m.vars r.acts[k].name).toNat * 7+2)=.str m.vars[(qr m.vars r.acts[k].name).toNat].enum:=by
   rw[Ce.cell _ (by rw[zZ Yb];omega),v7 Yb hi2 dc];rfl
  have gp:rat t1.h p 0=.slice b 0 m.vars.length m.vars.length 7 false:=C1.cell 0 (by simp only[τ,φ];omega);unfold moL at D4 C4
  (have zz:=a4 @gl @ge1 @ge2 (a4 C1.r D3.r D4.r C6.r);repeat' first|apply jb<;>intro _|simp(disch:=try exact j9) only[ja i0,ja i3,ja i4,VC,c1,HA,SL,c2,ge1,ge2,Yx,VU,VS (base:=base),C1.q,D3.q,D4.q,C6.q,gl,ge1,ge2,C1.r,D3.r,D4.r,C6.r,r12,γ,ε])
  rw[<-qx];refine UX hb V _ x2 (Yy _ x1) _ _ S1.ck _ _ ?_;cases hr:yK m.vars m.enums false r.acts[k].to m.vars[(qr m.vars r.acts[k].name).toNat].kind m.vars[(qr m.vars r.acts[k].name).toNat].enum with
  |er a b c=>
   rw[hr] at hK;intro s' k2;repeat' first|apply jb<;>intro _|simp(disch:=try exact dzG) only[Yx,VU,VS (base:=base),r12,γ,ε]
   exact hK _ (k1.keep k2 om).bk
  |ok y=>
   rw[hr] at hK;dsimp only at hK;intro s' k2 C2;have hs':=k2.nx;have k3:=k1.keep k2 om;have S3:=S1.keep k2 C2;have E3:=k2.cl D3 hqm.1;have E4:=k2.cl D4 hqm.2;have lv2:=k2.lv lv1 (.inl om);have ve:=lv2.eqs;have gz:rat s'.h z 6=vl:=E4.cell 6 (by simp only[τ,φ];omega);have Ap:=λst' bv xc xx K h hv=>@Jt (z+1) s.nx acc.length 7 st' vl (fl seE acc) K 80 bv xc xx h dc om om hv;have a59:jZ δ 123 (.ptr z 6) vl t1.h=true:=(jrO (by rw[D4.len];simp only[τ,φ];omega) (D4.cell 6 (by simp only[τ,φ];omega)) ve).mpr trivial;clear S1 k1 k2 C2 C6 D3 D4 C3 C4 S k0 VC HA SL ge1 ge2 gl gp Ce Lw C1 lv lv1;have hzp:p≠z:=λe=>hqm.2 e.symm;have lv3:Lv (z+1) (nw s' (seE ⟨qr m.vars r.acts[k].name,y⟩)).nx (nw s' (seE ⟨qr m.vars r.acts[k].name,y⟩)) vl acc.length (fl seE acc) 7:=by
    refine Lv.up (hi:=s.nx) ?_ nxX
    exact ckX
   have S4:=((S3.nw (seE ⟨qr m.vars r.acts[k].name,y⟩)).aps lv3 om (seE ⟨qr m.vars r.acts[k].name,y⟩)).wr (c:=z) om 6 [apv 7 vl (nw s' (seE ⟨qr m.vars r.acts[k].name,y⟩))];have k4:=((k3.nw om (seE ⟨qr m.vars r.acts[k].name,y⟩)).aps (lv3.low (lo:=lo) om) nxX (seE ⟨qr m.vars r.acts[k].name,y⟩)).wr (c:=z) (.inr om) 6 [apv 7 vl (nw s' (seE ⟨qr m.vars r.acts[k].name,y⟩))];have hlz:z+1<=s'.nx:=om
   (have zz:=a8 @lv2.ln @lv2.rts @jD @jG @jJ @lv2 @jC (a4 @jI @jM @ve (aI E3.r E4.r));repeat' first|apply jb<;>intro _|simp(disch:=try exact j9) only[ja i0,ja i3,ja i4,Ap,lv2.at,jrO,ve,jC,E3.q,E4.q,lv2.ln,lv2.rts,jD,jG,jJ,lv2,jC,jI,jM,ve,E3.r,E4.r,r12,γ,ε])
   refine⟨a59,⟨⟨acc ++ [⟨qr m.vars r.acts[k].name,y⟩],_,?_,h1.trans ?_,S4,k4,qz,?_,?_,Cl.wr (?_:Cl _ z (moL w vl)) 6 [apv 7 vl (nw s' (seE ⟨qr m.vars r.acts[k].name,y⟩))],?_,?_,?_,?_⟩,?_⟩,?_,?_⟩
   .rw[υ,hacc];rfl
   .rw[jcv hk,if_neg c1,if_neg c2,eg,hr]
   .rw[ji,jm,jf];omega
   .have:=(E3.nw (seE ⟨qr m.vars r.acts[k].name,y⟩)).aps lv3 (.inl om) (news:=seE ⟨qr m.vars r.acts[k].name,y⟩)
    exact ckX
   .exact(E4.nw (seE ⟨qr m.vars r.acts[k].name,y⟩)).aps lv3 (.inl om)
   .rw[jD (.inl om),υ,Xl,Qc];exact lv3.put (WZ _) nxX nxX
   all_goals exact hsX
 .obtain⟨⟨acc,vl,hacc,h1,D⟩,i14⟩:=hI;rw[Qak,Qce,Yd] at h1;rw[h1] at hK;repeat' first|apply jb<;>intro _|simp(disch:=try exact dzG) only[r12,γ,ε]
  exact jrX hb D hM K Kp hK
def z7:List AV:=[.int .i64 0,.int .i64 0,.str [],.nils,.int .i64 0,.int .i64 0,.nils]
theorem jrW (hb:NB base){p mb lo:Nat}{m:ModT}{ts:Lb}{st:St}(r:RuleT)(V:VarsOK m.vars m.enums)(hw:OkE r.when)(hx:∀ a∈r.acts,OkE a.to)(hbl:r.acts.length<=1000000)(hM:m.moves.length<=1000000)(H:MZ p mb lo m ts st)(K Kp:AV->St->Prop)(hK:KZ p mb lo st (ZK m ts r) K Kp):XB δ base 95 [.ptr p 0,.agg (ruE r)] st K Kp:=by
 obtain⟨v1,v2,v3,ws,S⟩:=H;have hp:=S.hp;have hlo:=S.lo;have hhi:=S.hi;refine qu x64 haa (hb.at0 95 dc dc _ _) ?_;simp only[y64,jj,ζ,θ,κ,μ];rw[(by unfold z64;simp only[qq];rfl:z64=_)];have hnx:st.bare.nx=st.nx:=rfl;have S0:=S.bare.nw (ruE r);have q1:=(Kq.refl:Kq p mb lo st.bare st.bare).nw om (ruE r);have Cb:Cl (nw st.bare (ruE r)) st.nx (ruE r):=Cl.new st.bare (ruE r);unfold ZK at hK
 (have zz:=@Cb.r;repeat' first|apply jb<;>intro _|simp(disch:=try exact j9) only[Cb.q,Cb.r,r12,γ,ε])
 rw[<-qx];have hn0:(nw st.bare (ruE r)).nx=st.nx+1:=rfl;refine UX hb V _ hw.2 (Yy _ hw.1) _ _ S0.ck _ _ ?_;cases hr:yK m.vars m.enums false r.when 2 [] with
 |er a b c=>
  rw[hr] at hK;intro s' k2;exact hK _ (q1.keep k2 om).bk
 |ok y=>
  rw[hr] at hK;dsimp only at hK;intro s' k2 C2;have hs':=k2.nx;have k3:=q1.keep k2 om;have S3:=S0.keep k2 C2;have E3:=k2.cl Cb om;rw[qx];have S4:=(S3.nw z7).wr (c:=s'.nx) om 0 (moL y .nils);have k4:=(k3.nw om z7).wr (c:=s'.nx) (.inr om) 0 (moL y .nils);have C4:=(Cl.new s' z7).wr0 (c':=moL y .nils) rfl;unfold z7 moL at *;repeat' first|apply jb<;>intro _|simp(disch:=try exact dzG) only[r12,γ,ε]
  refine jrY hb ⟨S4,k4,?_,nxX,ckX,C4,Lv.nil,?_,?_,?_⟩ V hx hbl hM K Kp hK
  .omega
  all_goals simp(disch:=decide) only[je,jn]
def fcl (c l k:Int):List AV:=[.int .i64 c,.int .i64 l,.int .i64 k]
theorem jvg (c l k:Int)(st:St)(K:AV->St->Prop):jk (GP δ 71 (kf c l k) st) K=K (.tup [.agg (fcl c l k),.bool true]) st:=by
 have:GP δ 71 (kf c l k) st=.ok (.tup [.agg (fcl c l k),.bool true]) st:=Qa0
 rw[this];rfl
theorem jsO (c l k:Int)(st:St)(K:AV->St->Prop):jk (QB δ .eql 20 true (kf c l k) .nilif st) K=K (.bool false) st:=by
 have:QB δ .eql 20 true (kf c l k) .nilif st=.ok (.bool false) st:=Qa0
 rw[this];rfl
theorem GH {fb:Nat}(st:St)(K:Md->St->Prop):DX δ base 91 [.ptr fb 0] .calm st.bare K=K .calm st.bare:=by
 refine GA (λK hK=>?_) K;refine Z9 jrb haa rfl ?_;simp only[GV,jj,ζ,θ,κ,Xc,XV];rw[(by unfold WK;simp only[qq];rfl:WK=_)];repeat' first|apply jb<;>intro _|simp(disch:=try exact dzG) only[jdr,vF,r12,γ,ε]
 exact hK
theorem jbu {fb:Nat}(c l k:Int)(st:St)(h:jV st.h fb=3)(hn:fb<st.nx)(K:Md->St->Prop) :
  DX δ base 91 [.ptr fb 0] (.pan (kf c l k)) st.bare K=K .done (wr (wr (nw st.bare [.int .i64 0,.int .i64 0,.int .i64 0]) st.nx 0 (fcl c l k)) fb 0 (fcl c l k)):=by
 have C:Cl st.bare fb (rats st.h fb 0 3):=(Cl.of_rats hn h (Qw _ _ _ _) dc rfl).bar;have hcs:(rats st.h fb 0 3).length=3:=Qw _ _ _ _;refine GA (λK hK=>?_) K;refine Z9 jrb haa rfl ?_;simp only[GV,jj,ζ,θ,κ,Xc,XV];rw[(by unfold WK;simp only[qq];rfl:WK=_)];have hl:=C.lt;have l0:=C.len;have hB:st.bare.nx=st.nx:=rfl;have hne:¬ fb=st.bare.nx:=om
 unfold fcl at *;have A:=jvg c l k;unfold fcl at A
 (have zz:=aI @l0 @hcs;repeat' first|apply jb<;>intro _|simp(disch:=try exact j9) only[jsO,jjf,A,vF,l0,hcs,r12,γ,ε])
 exact hK
theorem jwP {n:Nat}(h:0<n)(cs:List AV)(st:St)(K:AV->St->Prop):jk (QB δ .eql 141 true (.lst n cs) .nils st) K=K (.bool false) st:=by
 obtain⟨k,rfl⟩:∃ k,n=k+1:=⟨n - 1,om⟩;have:QB δ .eql 141 true (.lst (k+1) cs) .nils st=.ok (.bool false) st:=Qa0
 rw[this];rfl
theorem jwU {n:Nat}{cs:List AV}(h0:0<n)(hl:cs.length=n)(hn:n<=1000000)(K:AV->St->Prop):jk (JG 1 16 (.slice 0 0 0 0 1 true) (.lst n cs) (nw st0 [])) K=K (.slice 1 0 n n 1 false) (nw (nw st0 []) cs):=by
 have hg:jv (nw st0 []).h 0=some (.row 0 0 [] .e):=Qa0
 have e1:QcE n 1=n:=Qaz n;have e2:QcC n (jP cs)=true:=qo (by rw[jO];omega);have e3:yl cs n=cs:=by rw[qX,<-hl,Qak]
 have e4:QcA (jP cs) n=true:=XT (by rw[jO,hl]);have e5:QcD 0 n=n:=Qaj n;have e6:QcC n 0=false:=jbO h0;have e7:QcC (QcE n 16) 140737488355328=true:=qo (by show n * 16<=_;omega);have e8:QcC n 9223372036854775807=true:=qo om;have e9:QcE 0 1=0:=rfl;have e10:QcC (QcD 0 0) 0=true:=rfl;have e11:jR 0 [] .e 0 0=[]:=rfl;have e12:yN [] cs=cs:=by rw[yu];rfl
 simp only[JG,JJ,firstCells,jF,e1,e2,cond_true,e3,qO,e4,hg,yg,e5,e6,cond_false,e7,e8,e9,e10,e11,e12,St.alloc_eq,jk];conv=>rhs;unfold nw
 rw[hl];rfl
theorem jpp (hb:NB base)(vs:Lb)(hv:0<vs.length)(hl:vs.length<=1000000):Tot base 127 [.lst vs.length (vs.map .str)] (.lst vs.length (vs.map .str)):=by
 refine hb.tot ?_ rfl rfl;have N:=jwP hv (vs.map .str);have A:=λK=>jwU (cs:=vs.map .str) hv hac hl K;refine jB x99 haa (hb.pur 127 1 dc) ?_;simp only[y99,jj,ζ,θ,κ,μ];rw[(by unfold z99;simp only[qq];rfl:z99=_)];repeat' first|apply jb<;>intro _|simp(disch:=try exact dzG) only[N,jgK,A,r12,γ,ε]
 have C:Cl (nw (nw st0 []) (vs.map .str)) 1 (vs.map .str):=Cl.new (nw st0 []) _;refine FzD.slice C.rw_ hac (Qae _) ?_;rw[Qaz,<-Qac (f:=AV.str),Qak];refine FzsD.pc ?_;simp[pc]
def Jh {α β:Type}(f:β->α->KR β):β->List α->KR β
 |b,[]=>.ok b
 |b,x :: xs=>match f b x with
  |.er a c d=>.er a c d
  |.ok b=>Jh f b xs
theorem Vt {α β:Type}{f:β->α->KR β}{b:β}{xs:List α}{k:Nat}(hk:k<xs.length):Jh f b (xs.drop k)=match f b xs[k] with
  |.er a c d=>.er a c d
  |.ok b=>Jh f b (xs.drop (k+1)):=by
 have e:xs.drop k=xs[k] :: xs.drop (k+1):=(QbP hk).symm;rw[e,Jh]
abbrev MT:=ModT×Lb
def wE (b:MT)(p:ProcT):KR MT:=match Xu b.2 p.name p.line p.col with
 |.er a c d=>.er a c d
 |.ok ts=>Jh (λb r=>ZK b.1 b.2 r) (b.1,ts) p.rules
def md0:ModT:=⟨[],[],[]⟩
def Uy (b:MT)(l:List EnumT):KR MT:=Jh (λb e=>uO b.1 b.2 e) b l
def uc (b:MT)(l:List DeclT):KR MT:=Jh (λb e=>Yo b.1 b.2 e) b l
def X5 (b:MT)(l:List ProcT):KR MT:=Jh wE b l
def zW (s:SrcT):KR MT:=match Uy (md0,[]) s.enums with
 |.er a c d=>.er a c d
 |.ok b=>match uc b s.vars with
  |.er a c d=>.er a c d
  |.ok b=>X5 b s.procs
def UY (r:KR MT):AV:=match r with
 |.er c l k=>.tup [.agg (mdE md0),.agg (fcl c l k)]
 |.ok b=>.tup [.agg (mdE b.1),.agg (fcl 0 0 0)]
def mQ (base:Bs)(r:KR MT):Out->Prop:=UA δ base y26.res (XP G0 (.ok (UY r))) (Xy G0 (.ok (UY r)))
def mP (base:Bs)(r:KR MT):AV->Sl->St->Prop:=vO δ base y26.res (XP G0 (.ok (UY r))) (Xy G0 (.ok (UY r)))
structure QS (src:SrcT)(L:Sl)(s:St):Prop where
 c0:Cl s 0 (srE src)
 c1:Cl s 1 [.nils,.nils,.nils]
 c2:Cl s 2 [.int .i64 0,.int .i64 0,.int .i64 0]
 fr:s.fr=[(91,[.ptr 2 0])]
 i1:Has L 1 (.ptr 0 0)
 i2:Has L 2 (.ptr 1 0)
 i3:Has L 3 (.ptr 2 0)
 i4:Has L 4 (.ptr 4 0)
section
variable {src:SrcT} {L:Sl} {s t:St}
theorem QS.push (h:QS src L s){c:Nat}{v:AV}(hc:c≠1/\c≠2/\c≠3/\c≠4):QS src ((c,v) :: L) s:=by
 obtain⟨c0,c1,c2,fr,i1,i2,i3,i4⟩:=h;exact⟨c0,c1,c2,fr,by rw[je hc.1];exact i1,by rw[je hc.2.1];exact i2,by rw[je hc.2.2.1];exact i3,by rw[je hc.2.2.2];exact i4⟩
theorem QS.kq (h:QS src L s)(k:Kq 4 3 5 s t):QS src L t:=
 ⟨k.cl h.c0 dc dc dc,k.cl h.c1 dc dc dc,k.cl h.c2 dc dc dc,k.fr.trans h.fr,h.i1,h.i2,h.i3,h.i4⟩
theorem jiP {m d:Nat}{s:St}:FzD m (d+3) s (.agg [.nils,.nils,.nils]) (.agg (mdE md0)):=FzD.agg (.cons FzD.nils (.cons FzD.nils (.cons FzD.nils .nil)))
theorem r11:type_of%(a8 @jd @jh @j1 @jg @jc @qM @qL (a4 @jo @jp @jr (aI @jt (aI @jq @rzZ)))):=a8 @jd @jh @j1 @jg @jc @qM @qL (a4 @jo @jp @jr (aI @jt (aI @jq @rzZ)))
theorem kC {c l k:Int}(h:QS src L s):mP base (.er c l k) (kf c l k) L s:=by
 obtain⟨c0,c1,c2,fr,i1,i2,i3,i4⟩:=h;have l2:=c2.len;have n2:=c2.lt;unfold mP y26
 (have zz:=aI @c0.r (aI @c1.r @c2.r);repeat' first|apply jb<;>intro _|simp(disch:=try exact j9) only[ja i2,ja i3,Jb (f:=91) (vs:=[.ptr 2 0]),yw (f:=91) (vs:=[.ptr 2 0]),GH,jbu,c0.q,c1.q,c2.q,c0.r,c1.r,c2.r,r11,γ,ε])
 exact FzD.tup (.cons jiP (.cons (.agg (.pc haa)) .nil))
end
theorem jiL {m lo hi d:Nat}{s:St}{v3:AV}(hm:m<=lo):∀ {ms:List MoveT} {us:List AV},UU lo hi s v3 ms us->FzsD m (d+3) s (mvc ms us) (fl moE ms)
 |[],[],_=>.nil
 |e :: ms,u :: us,h=>by
  show FzsD m (d+3) s ((eE e.when ++ [u]) ++ mvc ms us) (moE e ++ fl moE ms);refine FzsD.append ?_ (jiL hm h.2);exact FzsD.append (FzsD.pc (yd _)) (.cons (h.1.1.fz hm (zq wB _)) .nil)
theorem m_d {src:SrcT}{L:Sl}{s:St}(D:QS src L s){m:ModT}{ts:Lb}(H:MZ 4 3 5 m ts s):xC δ base jfY L s (mQ base (.ok (m,ts))) (mP base (.ok (m,ts))):=by
 obtain⟨v1,v2,v3,ws,S⟩:=H;obtain⟨c0,c1,c2,fr,i1,i2,i3,i4⟩:=D;have C4:=S.cp;have l2:=c2.len;have n2:=c2.lt;have vc:∀ l,lall AV.cell (v1 :: v2 :: v3 :: l)=lall AV.cell l:=λl=>by
  show cond v1.cell (cond v2.cell (cond v3.cell _ false) false) false=_;rw[S.l1.cell,S.l2.cell,S.l3.cell];rfl
 unfold mQ mP y26;rw[(by unfold jfY;simp only[qq];rfl:jfY=_)]
 (have zz:=a4 @vc @c0.r @c1.r (aI @c2.r C4.r);repeat' first|apply jb<;>intro _|simp(disch:=try exact j9) only[ja i1,ja i2,ja i3,ja i4,Km i3,YU,Jb (f:=91) (vs:=[.ptr 2 0]),yw (f:=91) (vs:=[.ptr 2 0]),GH,jbu,c0.q,c1.q,c2.q,C4.q,vc,c0.r,c1.r,c2.r,C4.r,r11,γ,ε])
 have f:∀ v n cs z,Lv 5 s.nx s v n cs z->Lv 5 s.nx (wr (wr s 1 0 [v1,v2,v3]) 2 0 [.int .i64 0,.int .i64 0,.int .i64 0]).bare v n cs z:=λv n cs z h=>by
  rw[jH,jD (.inl dc),jD (.inl dc)];exact h
 refine FzD.tup (.cons (FzD.agg (.cons ((f _ _ _ _ S.l1).fz (Qae _) (zq YP _)) (.cons ((f _ _ _ _ S.l2).fz (Qae _) (zq JT _)) (.cons ?_ .nil)))) (.cons (.agg (.pc haa)) .nil))
 .have u3:=S.uu.imp (λu n cs h=>(⟨f _ _ _ _ h.1,h.2⟩:Lv 5 s.nx (wr (wr s 1 0 [v1,v2,v3]) 2 0 [.int .i64 0,.int .i64 0,.int .i64 0]).bare u n cs 7/\Df v3 u));rcases f _ _ _ _ S.l3 with ⟨rfl,h1,h2⟩|⟨b,rfl,h1,h2,C,h3,h4⟩
  .have:m.moves=[]:=Qbi h1;show FzD _ _ _ _ (.lst m.moves.length (fl moE m.moves));rw[this];exact FzD.nils
  .refine FzD.slice C.rw_ (QaY h2.symm) (Qae _) ?_;rw[<-h2,Qak];exact jiL (Qae _) u3
structure ProcOK (p:ProcT):Prop where
 len:p.rules.length<=1000
 rules:∀ r∈p.rules,OkE r.when/\(∀ a∈r.acts,OkE a.to)/\r.acts.length<=1000000
structure DeclOK (d:DeclT):Prop where
 ex:∀ x∈d.begins,OkE x
 len:d.begins.length<=1000000
 lo : -100000000<=d.lo/\d.lo<=100000000
 hi : -100000000<=d.hi/\d.hi<=100000000
structure SrcOK (s:SrcT):Prop where
 ne:s.enums.length<=1000
 nv:s.vars.length<=1000
 np:s.procs.length<=100
 vals:∀ e∈s.enums,0<e.vals.length/\e.vals.length<=1000000
 vars:∀ d∈s.vars,DeclOK d
 procs:∀ p∈s.procs,ProcOK p
theorem Vz {m:ModT}{ts:Lb}{e:EnumT}{b:MT}(h:uO m ts e=.ok b):b.1={ m with enums:=m.enums ++ [e] }:=by
 unfold uO at h;split at h
 .cases h
 .cases h;rfl
theorem jcA {m:ModT}{ts:Lb}{r:RuleT}{b:MT}(h:ZK m ts r=.ok b):∃ e,b.1={ m with moves:=m.moves ++ [e] }:=by
 unfold ZK at h;split at h
 .cases h
 .split at h
  .cases h
  .cases h;exact⟨_,rfl⟩
theorem HQ {vars:List VarT}{enums:List EnumT}:∀ {xs:List Ex} {v u:VarT},Js vars enums v xs=.ok u->u.lo=v.lo/\u.hi=v.hi/\u.kind=v.kind/\u.enum=v.enum/\u.name=v.name
 |[],v,u,h=>by rw[Js] at h;cases h;exact⟨rfl,rfl,rfl,rfl,rfl⟩
 |x :: xs,v,u,h=>by
  rw[Js] at h;split at h
  .cases h
  .split at h
   .cases h
   .split at h
    .cases h
    .have:=HQ h;exact this
theorem jmh {enums:List EnumT}{d:DeclT}{v:VarT}(hv:∀ e∈enums,e.vals.length<=1000000)(hd:DeclOK d)(h:wR enums d=.ok v) : -100000000<=v.lo/\v.lo<=100000000/\-100000000<=v.hi/\v.hi<=100000000:=by
 unfold wR at h;split at h
 .cases h;dsimp only;omega
 .split at h
  .rename_i h2;cases h;dsimp only;have hlt:JD enums d.ty<(enums.length:Int):=uN;have hi2:(JD enums d.ty).toNat<enums.length:=om
   have eg:enums.getD (JD enums d.ty).toNat en0=enums[(JD enums d.ty).toNat]:=by simp[Qaf,hi2]
   rw[eg];have:=hv _ (Qaa hi2);omega
  .split at h
   .cases h
   .split at h
    .cases h
    .split at h
     .cases h
     .cases h;exact⟨hd.lo.1,hd.lo.2,hd.hi.1,hd.hi.2⟩
theorem jdA {m:ModT}{ts:Lb}{d:DeclT}{b:MT}(hv:∀ e∈m.enums,e.vals.length<=1000000)(hd:DeclOK d)(h:Yo m ts d=.ok b):∃ v:VarT,b.1={ m with vars:=m.vars ++ [v] }/\(-100000000<=v.lo/\v.lo<=100000000/\-100000000<=v.hi/\v.hi<=100000000):=by
 unfold Yo at h;split at h
 .cases h
 .split at h
  .cases h
  .rename_i v hk;unfold w7 at h;split at h
   .cases h
   .rename_i u hu;unfold Ks at h;split at h
    .cases h
    .cases h;have hb:=HQ hu;refine⟨u,rfl,?_⟩;rw[hb.1,hb.2.1];exact jmh hv hd hk
section
variable {src:SrcT} {L:Sl} {s t:St} {m:ModT} {ts:Lb}
theorem MX.box (h:MX 4 3 5 m ts s)(z cs:List AV):MX 4 3 5 m ts (Go.Sy.wr (Go.Sy.nw s z) s.nx 0 cs):=by
 obtain⟨v1,v2,v3,S⟩:=h;exact⟨v1,v2,v3,((S.nw z).wr (c:=s.nx) (η _) 0 cs).up (by rw[ji,jf];omega) (η _)⟩
theorem MZ.box (h:MZ 4 3 5 m ts s)(z cs:List AV):MZ 4 3 5 m ts (Go.Sy.wr (Go.Sy.nw s z) s.nx 0 cs):=by
 obtain⟨v1,v2,v3,ws,S⟩:=h;exact⟨v1,v2,v3,ws,((S.nw z).wr (c:=s.nx) (η _) 0 cs).up (by rw[ji,jf];omega) (η _)⟩
theorem MZ.nx5 (h:MZ 4 3 5 m ts s):5<=s.nx:=by obtain⟨v1,v2,v3,ws,S⟩:=h;exact S.lo
theorem MX.nx5 (h:MX 4 3 5 m ts s):5<=s.nx:=by obtain⟨v1,v2,v3,S⟩:=h;exact S.lo
theorem Gb (h:5<=s.nx)(z cs:List AV):Kq 4 3 5 s (wr (nw s z) s.nx 0 cs):=(Kq.refl.nw h z).wr (.inr h) 0 cs
end
theorem MZ.take {m:ModT}{ts:Lb}{s:St}(h:MZ 4 3 5 m ts s)(us:Lb):MZ 4 3 5 m us (Go.Sy.mp s 3 (mpl us)):=by
 obtain⟨v1,v2,v3,ws,S⟩:=h;exact⟨v1,v2,v3,ws,S.take us⟩
def zr7:List AV:=[.int .i64 0,.int .i64 0,.str [],.nils,.int .i64 0,.int .i64 0,.nils]
def zp4:List AV:=[.str [],.nils,.int .i64 0,.int .i64 0]
theorem m_c (hb:NB base){src:SrcT}{L:Sl}{s:St}(D:QS src L s){m:ModT}{ts:Lb}(V:VarsOK m.vars m.enums)(hm:m.moves=[])(O:SrcOK src)(H:MZ 4 3 5 m ts s):xC δ base jfZ L s (mQ base (X5 (m,ts) src.procs)) (mP base (X5 (m,ts) src.procs)):=by
 have c0:=D.c0;have i1:=D.i1;have onp:=O.np;generalize hR:X5 (m,ts) src.procs=R;rw[(by unfold jfZ;simp only[qq];rfl:jfZ=_)]
 (have zz:=@c0.r;repeat' first|apply jb<;>intro _|simp(disch:=try exact j9) only[ja i1,c0.q,c0.r,r11,γ,ε])
 refine jU src.procs.length (λk L s=>(∃ b:MT,X5 b (src.procs.drop k)=R/\b.1.vars=m.vars/\b.1.enums=m.enums/\b.1.moves.length<=1000 * k/\MZ 4 3 5 b.1 b.2 s/\QS src L s)/\Has L 39 (.lst src.procs.length (fl prE src.procs))) ?_ (λk L s hk hI hi hn=>?_) (λL s hI=>?_) (hc:=(λk L s v h=>(by obtain⟨⟨b,h1,h2,h3,h4,h5,h6⟩,h7⟩:=h;refine⟨⟨b,h1,h2,h3,h4,h5,h6.push dc⟩,?_⟩;simp(disch:=decide) only[je];assumption))) (hI:=(λk L s v h=>(by obtain⟨⟨b,h1,h2,h3,h4,h5,h6⟩,h7⟩:=h;refine⟨⟨b,h1,h2,h3,h4,h5,h6.push dc⟩,?_⟩;simp(disch:=decide) only[je];assumption)))
 .refine⟨⟨(m,ts),by rw[Qbl];exact hR,rfl,rfl,by rw[hm];exact Qae _,H,((D.push dc).push dc).push dc⟩,?_⟩;simp(disch:=decide) only[je,jn]
 .clear D c0 i1;obtain⟨⟨b,h1,h2,h3,h4,H,D⟩,i39⟩:=hI;obtain⟨c0,c1,c2,fr,i1,i2,i3,i4⟩:=id D;have hP:=O.procs _ (Qaa hk);have n5:=H.nx5;have H1:=H.box zp4 (prE src.procs[k]);have k1:=Gb n5 zp4 (prE src.procs[k]);have D1:=D.kq k1;have C10:=(Cl.new s zp4).wr0 (c':=prE src.procs[k]) rfl;unfold X5 at h1;rw[Vt hk] at h1;unfold zp4 at *;repeat' first|apply jb<;>intro _|simp(disch:=try exact dzG) only[ja i1,ja i2,ja i3,ja i4,ja i39,ja hi,ja hn,r11,γ,ε]
  obtain⟨v1,v2,v3,ws,S⟩:=id H1;refine gj hb S.cp S.mp _ _ _ _ _ ?_;have S1mp:=S.mp;clear S;by_cases hin:src.procs[k].name∈b.2
  .rw[if_pos hin];have hp:wE b src.procs[k]=.er 162 src.procs[k].line src.procs[k].col:=by unfold wE Xu;rw[if_pos hin]
   rw[hp] at h1;rw[<-h1];exact kC (D1.push dc)
  .rw[if_neg hin];have hp:wE b src.procs[k]=Jh (λb r=>ZK b.1 b.2 r) (b.1,b.2 ++ [src.procs[k].name]) src.procs[k].rules:=by unfold wE Xu;rw[if_neg hin]
   have H2:=H1.take (b.2 ++ [src.procs[k].name]);have D2:=D1.kq ((Kq.refl:Kq 4 3 5 _ _).mp (mpl (b.2 ++ [src.procs[k].name])));have C10:Cl (Go.Sy.mp (wr (nw s [.str [],.nils,.int .i64 0,.int .i64 0]) s.nx 0 (prE src.procs[k])) 3 (mpl (b.2 ++ [src.procs[k].name]))) s.nx (prE src.procs[k]):=by rw[VD om];exact C10
   have hrl:=hP.len;generalize Go.Sy.mp (wr (nw s [.str [],.nils,.int .i64 0,.int .i64 0]) s.nx 0 (prE src.procs[k])) 3 (mpl (b.2 ++ [src.procs[k].name]))=t1 at *;clear D1 H1 k1 S1mp
   (have zz:=C10.r;repeat' first|apply jb<;>intro _|simp(disch:=try exact j9) only[ja i1,ja i2,ja i3,ja i4,ja i39,ja hi,ja hn,C10.q,C10.r,r11,γ,ε])
   refine jU src.procs[k].rules.length (λky L s=>(∃ c:MT,Jh (λb r=>ZK b.1 b.2 r) c (src.procs[k].rules.drop ky)=wE b src.procs[k]/\c.1.vars=m.vars/\c.1.enums=m.enums/\c.1.moves.length<=1000 * k+ky/\MZ 4 3 5 c.1 c.2 s/\QS src L s)/\Has L 54 (.lst src.procs[k].rules.length (fl ruE src.procs[k].rules))/\Has L 39 (.lst src.procs.length (fl prE src.procs))/\Has L 41 (.int .i64 k)/\Has L 40 (.int .i64 src.procs.length)) ?_ (λky Ly sy hky hIy hiy hny=>?_) (λLy sy hIy=>?_) (hc:=(λk L s v h=>(by obtain⟨⟨c,g1,g2,g3,g4,g5,g6⟩,g7,g8,g9,g10⟩:=h;refine⟨⟨c,g1,g2,g3,g4,g5,g6.push dc⟩,?_,?_,?_,?_⟩<;>exact hsX))) (hI:=(λk L s v h=>(by obtain⟨⟨c,g1,g2,g3,g4,g5,g6⟩,g7,g8,g9,g10⟩:=h;refine⟨⟨c,g1,g2,g3,g4,g5,g6.push dc⟩,?_,?_,?_,?_⟩<;>exact hsX)))
   .refine⟨⟨(b.1,b.2 ++ [src.procs[k].name]),by rw[Qbl];exact hp.symm,h2,h3,om,H2,(((D2.push dc).push dc).push dc).push dc⟩,?_⟩;simp(disch:=decide) only[je,jn,true_and];exact⟨i39,hi,hn⟩
   .obtain⟨⟨c,g1,g2,g3,g4,H3,D3⟩,j54,j39,j41,j40⟩:=hIy;obtain⟨c0',c1',c2',fr',i1',i2',i3',i4'⟩:=id D3;have hr:=hP.rules _ (Qaa hky);have n5':=H3.nx5;have H4:=H3.box zr7 (ruE src.procs[k].rules[ky]);have k4:=Gb n5' zr7 (ruE src.procs[k].rules[ky]);have D4:=D3.kq k4;have hlr:(ruE src.procs[k].rules[ky]).length=zr7.length:=by rw[uB];rfl
    have C12:=(Cl.new sy zr7).wr0 hlr;rw[Vt hky] at g1;unfold zr7 at *;repeat' first|apply jb<;>intro _|simp(disch:=try exact dzG) only[ja i1',ja i2',ja i3',ja i4',ja j54,ja hiy,ja hny,r11,γ,ε]
    refine jrW hb _ (by rw[g2,g3];exact V) hr.1 hr.2.1 hr.2.2 om H4 _ _ ?_;cases hk1:ZK c.1 c.2 src.procs[k].rules[ky] with
    |er x y z=>
     rw[hk1] at g1;rw[<-g1] at h1;intro s' k5;rw[<-h1];exact kC ((D4.kq k5).push dc)
    |ok d=>
     rw[hk1] at g1;intro s' k5 H5;obtain⟨e,he⟩:=jcA hk1;repeat' first|apply jb<;>intro _|simp(disch:=try exact dzG) only[r11,γ,ε]
     refine⟨⟨⟨d,g1,by rw[he];exact g2,by rw[he];exact g3,by rw[he];simp only[υ,τ,φ];omega,H5,(D4.kq k5).push dc⟩,?_,?_,?_,?_⟩,?_,?_⟩<;>exact hsX
   .obtain⟨⟨c,g1,g2,g3,g4,H3,D3⟩,j54,j39,j41,j40⟩:=hIy;rw[Qce,Jh] at g1;rw[<-g1] at h1;repeat' first|apply jb<;>intro _|simp(disch:=try exact dzG) only[r11,γ,ε]
    refine⟨⟨⟨c,h1,g2,g3,om,H3,D3⟩,?_⟩,?_,?_⟩<;>assumption
 .obtain⟨⟨b,h1,h2,h3,h4,H,D⟩,i39⟩:=hI;rw[Qce] at h1;unfold X5 at h1;rw[Jh] at h1;rw[<-h1];repeat' first|apply jb<;>intro _|simp(disch:=try exact dzG) only[r11,γ,ε]
  exact m_d D H
theorem MX.mz {m:ModT}{ts:Lb}{s:St}(h:MX 4 3 5 m ts s)(hm:m.moves=[]):MZ 4 3 5 m ts s:=by
 obtain⟨v1,v2,v3,S⟩:=h;exact⟨v1,v2,v3,[],S.mr hm⟩
def zd7:List AV:=[.str [],.str [],.int .i64 0,.int .i64 0,.nils,.int .i64 0,.int .i64 0]
def ze4:List AV:=[.str [],.nils,.int .i64 0,.int .i64 0]
theorem m_b (hb:NB base){src:SrcT}{L:Sl}{s:St}(D:QS src L s){m:ModT}{ts:Lb}(V:VarsOK m.vars m.enums)(hm:m.moves=[])(hv0:m.vars=[])(O:SrcOK src)(H:MX 4 3 5 m ts s)(R:KR MT)(hR:(match uc (m,ts) src.vars with | .er a c d=>.er a c d | .ok b=>X5 b src.procs)=R):xC δ base jf0 L s (mQ base R) (mP base R):=by
 have c0:=D.c0;have i1:=D.i1;have onv:=O.nv;rw[(by unfold jf0;simp only[qq];rfl:jf0=_)]
 (have zz:=@c0.r;repeat' first|apply jb<;>intro _|simp(disch:=try exact j9) only[ja i1,c0.q,c0.r,r11,γ,ε])
 refine jU src.vars.length (λk L s=>(∃ b:MT,(match uc b (src.vars.drop k) with | .er a c d=>.er a c d | .ok b=>X5 b src.procs)=R/\b.1.moves=[]/\b.1.vars.length<=k/\VarsOK b.1.vars b.1.enums/\MX 4 3 5 b.1 b.2 s/\QS src L s)/\Has L 28 (.lst src.vars.length (fl qt src.vars))) ?_ (λk L s hk hI hi hn=>?_) (λL s hI=>?_) (hc:=(λk L s v h=>(by obtain⟨⟨b,h1,h2,h3,h4,h5,h6⟩,h7⟩:=h;refine⟨⟨b,h1,h2,h3,h4,h5,h6.push dc⟩,?_⟩;simp(disch:=decide) only[je];assumption))) (hI:=(λk L s v h=>(by obtain⟨⟨b,h1,h2,h3,h4,h5,h6⟩,h7⟩:=h;refine⟨⟨b,h1,h2,h3,h4,h5,h6.push dc⟩,?_⟩;simp(disch:=decide) only[je];assumption)))
 .refine⟨⟨(m,ts),by rw[Qbl];exact hR,hm,by rw[hv0];exact Qae _,V,H,((D.push dc).push dc).push dc⟩,?_⟩;simp(disch:=decide) only[je,jn]
 .clear D c0 i1 H V hm hv0;obtain⟨⟨b,h1,hm,h3,V,H,D⟩,i28⟩:=hI;obtain⟨c0,c1,c2,fr,i1,i2,i3,i4⟩:=id D;have hd:=O.vars _ (Qaa hk);have n5:=H.nx5;have H1:=H.box zd7 (qt src.vars[k]);have k1:=Gb n5 zd7 (qt src.vars[k]);have D1:=D.kq k1;have C10:=(Cl.new s zd7).wr0 (c':=qt src.vars[k]) rfl;unfold uc at h1;rw[Vt hk] at h1;unfold zd7 at *;repeat' first|apply jb<;>intro _|simp(disch:=try exact dzG) only[ja i1,ja i2,ja i3,ja i4,ja i28,ja hi,ja hn,r11,γ,ε]
  refine js0 hb _ V om hd.ex hd.len hd.lo hd.hi H1 _ _ ?_;cases hk1:Yo b.1 b.2 src.vars[k] with
  |er x y z=>
   rw[hk1] at h1;intro s' k5;rw[<-h1];exact kC ((D1.kq k5).push dc)
  |ok d=>
   rw[hk1] at h1;intro s' k5 H5;obtain⟨v,he,hv⟩:=jdA V.vals hd hk1;repeat' first|apply jb<;>intro _|simp(disch:=try exact dzG) only[r11,γ,ε]
   refine⟨⟨⟨d,h1,by rw[he];exact hm,by rw[he];simp only[υ,τ,φ];omega,?_,H5,(D1.kq k5).push dc⟩,?_⟩,?_,?_⟩
   .rw[he];refine⟨by simp only[υ,τ,φ];omega,V.len2,V.vals,λu hu=>?_⟩;rcases QaH.1 hu with hu|hu
    .exact V.ends u hu
    .simp only[QaL] at hu;rw[hu];exact hv
   all_goals exact hsX
 .obtain⟨⟨b,h1,hm,h3,V,H,D⟩,i28⟩:=hI;rw[Qce] at h1;unfold uc at h1;rw[Jh] at h1;dsimp only at h1;rw[<-h1];repeat' first|apply jb<;>intro _|simp(disch:=try exact dzG) only[r11,γ,ε]
  exact m_c hb D V hm O (H.mz hm)
theorem m_a (hb:NB base){src:SrcT}{L:Sl}{s:St}(D:QS src L s)(O:SrcOK src)(H:MX 4 3 5 md0 [] s):xC δ base jf1 L s (mQ base (zW src)) (mP base (zW src)):=by
 have c0:=D.c0;have i1:=D.i1;have one:=O.ne;generalize hR:zW src=R;unfold zW at hR;rw[(by unfold jf1;simp only[qq];rfl:jf1=_)]
 (have zz:=@c0.r;repeat' first|apply jb<;>intro _|simp(disch:=try exact j9) only[ja i1,c0.q,c0.r,r11,γ,ε])
 refine jU src.enums.length (λk L s=>(∃ b:MT,(match Uy b (src.enums.drop k) with | .er a c d=>.er a c d | .ok b=>(match uc b src.vars with | .er a c d=>.er a c d | .ok b=>X5 b src.procs))=R/\b.1.moves=[]/\b.1.vars=[]/\b.1.enums.length<=k/\(∀ e∈b.1.enums,e.vals.length<=1000000)/\MX 4 3 5 b.1 b.2 s/\QS src L s)/\Has L 17 (.lst src.enums.length (fl enE src.enums))) ?_ (λk L s hk hI hi hn=>?_) (λL s hI=>?_) (hc:=(λk L s v h=>(by obtain⟨⟨b,h1,h2,h3,h4,h4b,h5,h6⟩,h7⟩:=h;refine⟨⟨b,h1,h2,h3,h4,h4b,h5,h6.push dc⟩,?_⟩;simp(disch:=decide) only[je];assumption))) (hI:=(λk L s v h=>(by obtain⟨⟨b,h1,h2,h3,h4,h4b,h5,h6⟩,h7⟩:=h;refine⟨⟨b,h1,h2,h3,h4,h4b,h5,h6.push dc⟩,?_⟩;simp(disch:=decide) only[je];assumption)))
 .refine⟨⟨(md0,[]),by rw[Qbl];exact hR,rfl,rfl,Qae _,(λe he=>by cases he),H,((D.push dc).push dc).push dc⟩,?_⟩;simp(disch:=decide) only[je,jn]
 .clear D c0 i1 H;obtain⟨⟨b,h1,hm,h3,h4,hv,H,D⟩,i17⟩:=hI;obtain⟨c0,c1,c2,fr,i1,i2,i3,i4⟩:=id D;have hd:=O.vals _ (Qaa hk);have n5:=H.nx5;have H1:=H.box ze4 (enE src.enums[k]);have k1:=Gb n5 ze4 (enE src.enums[k]);have D1:=D.kq k1;have C10:=(Cl.new s ze4).wr0 (c':=enE src.enums[k]) rfl;unfold Uy at h1;rw[Vt hk] at h1;unfold ze4 at *;repeat' first|apply jb<;>intro _|simp(disch:=try exact dzG) only[ja i1,ja i2,ja i3,ja i4,ja i17,ja hi,ja hn,r11,γ,ε]
  refine jsS hb (λvs h h2=>jpp hb vs h h2) _ hd.1 hd.2 om H1 _ _ ?_;cases hk1:uO b.1 b.2 src.enums[k] with
  |er x y z=>
   rw[hk1] at h1;intro s' k5;rw[<-h1];exact kC ((D1.kq k5).push dc)
  |ok d=>
   rw[hk1] at h1;intro s' k5 H5;have he:=Vz hk1;repeat' first|apply jb<;>intro _|simp(disch:=try exact dzG) only[r11,γ,ε]
   refine⟨⟨⟨d,h1,by rw[he];exact hm,by rw[he];exact h3,by rw[he];simp only[υ,τ,φ];omega,?_,H5,(D1.kq k5).push dc⟩,?_⟩,?_,?_⟩
   .rw[he];intro u hu;rcases QaH.1 hu with hu|hu
    .exact hv u hu
    .simp only[QaL] at hu;rw[hu];exact hd.2
   all_goals exact hsX
 .obtain⟨⟨b,h1,hm,h3,h4,hv,H,D⟩,i17⟩:=hI;rw[Qce] at h1;unfold Uy at h1;rw[Jh] at h1;dsimp only at h1;repeat' first|apply jb<;>intro _|simp(disch:=try exact dzG) only[r11,γ,ε]
  exact m_b hb D ⟨by rw[h3];exact Qae _,om,hv,λv hv=>by rw[h3] at hv;cases hv⟩ hm h3 O H R h1
theorem joY (hb:NB base)(src:SrcT)(O:SrcOK src):Tot base 66 [.agg (srE src)] (UY (zW src)):=by
 refine hb.tot ?_ (by first|rfl|simp[pa,pc,yd,Q7,W3,JT,Jy,jbr,gn,YP,wB,wL,Je,ZP]) rfl;refine W5 x26 (hb.pur 66 1 dc) ?_;simp only[y26,jj,ζ,θ,κ,μ];rw[(by unfold z26;simp only[qq];rfl:z26=_)];repeat' first|apply jb<;>intro _|simp(disch:=try exact dzG) only[Ya,juY,jud,r11,γ,ε]
 obtain⟨X,hX⟩:∃ X,X=nw (nw (nw st0 (srE src)) [.nils,.nils,.nils]) [.int .i64 0,.int .i64 0,.int .i64 0]:=⟨_,rfl⟩;have X2:Cl X 2 [.int .i64 0,.int .i64 0,.int .i64 0]:=by rw[hX];exact Cl.new _ _
 have X1:Cl X 1 [.nils,.nils,.nils]:=by rw[hX];exact(Cl.new _ _).nw _
 have X0:Cl X 0 (srE src):=by rw[hX];exact((Cl.new _ _).nw _).nw _
 have Xn:X.nx=3:=by rw[hX];rfl
 have Xf:X.fr=[]:=by rw[hX];rfl
 rw[<-hX];have hn4:(nmp (df (91,[.ptr 2 0]) X)).nx=4:=by show X.nx+1=4;omega
 have hc:(AV.nils :: AV.nils :: AV.nils :: upd [AV.nilm,AV.bool false] 0 (AV.map 3).cells)=[.nils,.nils,.nils,.map 3,.bool false]:=rfl;rw[hn4,hc];have Y:∀ c cs,c<3->Cl X c cs->Cl (nw (nmp (df (91,[.ptr 2 0]) X)) [.nils,.nils,.nils,.map 3,.bool false]) c cs:=λc cs h3 h=>by
  refine h.keep ?_ ?_
  .rw[jf,hn4];omega
  .rw[qp om,jjh,if_neg (by show c≠X.nx;omega)];rfl
 have C4:Cl (nw (nmp (df (91,[.ptr 2 0]) X)) [.nils,.nils,.nils,.map 3,.bool false]) 4 [.nils,.nils,.nils,.map 3,.bool false]:=hn4▸Cl.new (nmp (df (91,[.ptr 2 0]) X)) _;have M3:Mp (nw (nmp (df (91,[.ptr 2 0]) X)) [.nils,.nils,.nils,.map 3,.bool false]) 3 []:=by
  have h:Mp (nmp (df (91,[.ptr 2 0]) X)) X.nx []:=Mp.new (df (91,[.ptr 2 0]) X);rw[Xn] at h;exact h.nw _
 have n5:(nw (nmp (df (91,[.ptr 2 0]) X)) [.nils,.nils,.nils,.map 3,.bool false]).nx=5:=by rw[jf,hn4]
 refine m_a hb ⟨Y _ _ dc X0,Y _ _ dc X1,Y _ _ dc X2,?_,?_,?_,?_,?_⟩ O ⟨.nils,.nils,.nils,C4,M3,Lv.nil,Lv.nil,Lv.nil,trivial,trivial,trivial,dc,dc,dc,om,η _⟩
 .show(91,[AV.ptr 2 0]) :: X.fr=_;rw[Xf]
 all_goals simp(disch:=decide) only[je,jn]
def jgf (r:KR Ex):AV:=match r with
 |.er c l k=>.tup [.agg (eE ex0),.agg (fcl c l k)]
 |.ok y=>.tup [.agg (eE y),.agg (fcl 0 0 0)]
theorem jjo (hb:NB base)(m:ModT)(V:VarsOK m.vars m.enums)(x:Ex)(hx:OkE x):PX δ base 68 [.agg (mdE m),.agg (eE x)] (.ok (jgf (yK m.vars m.enums true x 2 []))):=by
 refine W5 x25 (hb.pur 68 1 dc) ?_;simp only[y25,jj,ζ,θ,κ,μ];rw[(by unfold z25;simp only[qq];rfl:z25=_)];have uq:upd [.nils,.nils,.nils,.nilm,.bool false] 0 (mdE m)=[.lst m.vars.length (fl vaE m.vars),.lst m.enums.length (fl enE m.enums),.lst m.moves.length (fl moE m.moves),.nilm,.bool false]:=rfl;repeat' first|apply jb<;>intro _|simp(disch:=try exact dzG) only[Ya,Yx,VU,VS (base:=base),uq,r11,γ,ε]
 obtain⟨X,hX⟩:∃ X,X=nw (nw (nw (nw st0 (mdE m)) (eE x)) [.int .i64 0,.int .i64 0,.str [],.nils,.int .i64 0,.int .i64 0]) [.int .i64 0,.int .i64 0,.int .i64 0]:=⟨_,rfl⟩;rw[<-hX];have X3:Cl X 3 [.int .i64 0,.int .i64 0,.int .i64 0]:=by rw[hX];exact Cl.new _ _
 have X2:Cl X 2 [.int .i64 0,.int .i64 0,.str [],.nils,.int .i64 0,.int .i64 0]:=by rw[hX];exact(Cl.new _ _).nw _
 have X1:Cl X 1 (eE x):=by rw[hX];exact((Cl.new _ _).nw _).nw _
 have Xn:X.nx=4:=by rw[hX];rfl
 have Xf:X.fr=[]:=by rw[hX];rfl
 obtain⟨S,hS⟩:∃ S,S=nw (df (91,[.ptr 3 0]) X) [.lst m.vars.length (fl vaE m.vars),.lst m.enums.length (fl enE m.enums),.lst m.moves.length (fl moE m.moves),.nilm,.bool true]:=⟨_,rfl⟩;rw[<-hS];have hn4:(df (91,[.ptr 3 0]) X).nx=4:=Xn;have Y:∀ c cs,c<4->Cl X c cs->Cl S c cs:=λc cs h3 h=>by
  rw[hS];refine h.keep ?_ ?_
  .rw[jf,hn4];omega
  .rw[qp om];rfl
 have C1:=Y _ _ dc X1;have C2:=Y _ _ dc X2;have C3:=Y _ _ dc X3;have C4:Cl S 4 [.lst m.vars.length (fl vaE m.vars),.lst m.enums.length (fl enE m.enums),.lst m.moves.length (fl moE m.moves),.nilm,.bool true]:=by rw[hS];exact hn4▸Cl.new (df (91,[.ptr 3 0]) X) _
 have Sf:S.fr=[(91,[.ptr 3 0])]:=by
  rw[hS];show(91,[AV.ptr 3 0]) :: X.fr=_;rw[Xf]
 clear hS Y X1 X2 X3 Xn Xf hX uq hn4;refine UX hb V _ hx.2 (Yy _ hx.1) _ _ (fm:=true) (mm:=.nilm) (v3:=.lst m.moves.length (fl moE m.moves)) ⟨C4,.inl rfl,.inl rfl,(λb k z x h=>by cases h),(λb k z x h=>by cases h)⟩ _ _ ?_;cases hr:yK m.vars m.enums true x 2 [] with
 |er a b c=>
  intro s' k2;have E1:=k2.cl C1 dc;have E2:=k2.cl C2 dc;have E3:=k2.cl C3 dc;have l3:=E3.len;have n3:=E3.lt;have hf:s'.fr=[(91,[.ptr 3 0])]:=k2.fr.trans Sf
  (have zz:=a4 @QY C1.r C2.r (a4 C3.r E1.r E2.r E3.r);repeat' first|apply jb<;>intro _|simp(disch:=try exact j9) only[Yx,VU,VS (base:=base),QT,YU,Jb (f:=91) (vs:=[.ptr 3 0]),yw (f:=91) (vs:=[.ptr 3 0]),GH,jbu,C1.q,C2.q,C3.q,E1.q,E2.q,E3.q,QY,C1.r,C2.r,C3.r,E1.r,E2.r,E3.r,r11,γ,ε])
  exact FzD.tup (.cons Yu (.cons (.agg (.pc haa)) .nil))
 |ok y=>
  intro s' k2 D4;have E1:=k2.cl C1 dc;have E2:=k2.cl C2 dc;have E3:=k2.cl C3 dc;have l3:=E3.len;have n3:=E3.lt;have hf:s'.fr=[(91,[.ptr 3 0])]:=k2.fr.trans Sf
  (have zz:=a4 @QY C1.r C2.r (a4 C3.r E1.r E2.r E3.r);repeat' first|apply jb<;>intro _|simp(disch:=try exact j9) only[Yx,VU,VS (base:=base),QT,YU,Jb (f:=91) (vs:=[.ptr 3 0]),yw (f:=91) (vs:=[.ptr 3 0]),GH,jbu,C1.q,C2.q,C3.q,E1.q,E2.q,E3.q,QY,C1.r,C2.r,C3.r,E1.r,E2.r,E3.r,r11,γ,ε])
  exact FzD.tup (.cons (.agg (.pc (yd y))) (.cons (.agg (.pc haa)) .nil))
theorem jjn (hb:NB base)(m:ModT)(V:VarsOK m.vars m.enums)(x:Ex)(hx:OkE x):Tot base 68 [.agg (mdE m),.agg (eE x)] (jgf (yK m.vars m.enums true x 2 [])):=hb.tot (jjo hb m V x hx) (by first|rfl|simp[pa,pc,yd,Q7,W3,JT,Jy,jbr,gn,YP,wB,wL,Je,ZP]) rfl
mutual
theorem jcC:∀ (d:Nat) (x:Ex),zF d x=true->J0 x=true/\ZN x=true
 |0,_,h=>by cases h
 |d+1,.mk op num name ks l c,h=>by
  rw[Kr] at h;simp only[ψ,decide_eq_true_eq] at h;obtain⟨⟨⟨⟨h1,h2⟩,h3⟩,h4⟩,h5⟩:=h;have h3:(ks.length:Int)=if 5<=op/\op<=13 then 1 else if 14<=op/\op<31 then 2 else 0:=h3
  obtain⟨k1,k2⟩:=jaa d ks h5;refine⟨?_,?_⟩
  .rw[J0,ψ,decide_eq_true_eq];refine⟨?_,k1⟩;split at h3
   .omega
   .split at h3<;>omega
  .rw[ZN,ψ,QaE,ψ,decide_eq_true_eq,decide_eq_true_eq,decide_eq_true_eq];refine⟨?_,k2⟩;by_cases ho:op=1
   .right;unfold Vn at h4;rw[if_pos (show Ex.op (.mk op num name ks l c)=1 from ho)] at h4;simp only[ψ,decide_eq_true_eq] at h4;have h6:(0:Int)<=num:=h4.1.1;have h7:num<=1000000:=h4.1.2;omega
   .exact .inl ho
theorem jaa:∀ (d:Nat) (xs:List Ex),xs.all (zF d)=true->JO xs=true/\J9 xs=true
 |_,[],_=>⟨rfl,rfl⟩
 |d,x :: xs,h=>by
  rw[QaC,ψ] at h;obtain⟨a1,a2⟩:=jcC d x h.1;obtain⟨b1,b2⟩:=jaa d xs h.2;rw[JO,J9,ψ,ψ];exact⟨⟨a1,b1⟩,⟨a2,b2⟩⟩
end
theorem uo {ts:List Tk}(W:Wds ts){i j:Nat}{x:Ex}(hi:i<ts.length)(h:yY ts i=.ok x j):OkE x:=jcC 60 x (yJ W hi h).2.2.2
theorem jhL:∀ {ts:List Tk} {n i j:Nat} {vs ws:Lb},vs.length<=32->YN ts n i vs=.ok ws j->vs.length<ws.length/\ws.length<=32
 |ts,0,i,j,vs,ws,hv,h=>by cases h
 |ts,n+1,i,j,vs,ws,hv,h=>by
  rw[YN] at h;split at h
  .split at h
   .cases h
   .split at h
    .have:=jhL hae h;simp at this;omega
    .split at h
     .cases h;simp;omega
     .cases h
  .cases h
theorem jsQ {ts:List Tk}{i j:Nat}{e:EnumT}(h:wU ts i=.ok e j):0<e.vals.length/\e.vals.length<=1000000:=by
 unfold wU at h;split at h
 .split at h
  .split at h
   .rename_i vs k hv;cases h;have:=jhL hac hv;dsimp only;omega
   .cases h
  .cases h
 .cases h
theorem jnK {ts:List Tk}(N:Nbs ts){i j:Nat}{n:Int}(h:YZ ts i=.ok n j) : -100000000<=n/\n<=100000000:=by
 unfold YZ at h;split at h
 .split at h
  .have:=N (i+1);cases h;omega
  .cases h
 .split at h
  .have:=N i;cases h;omega
  .cases h
theorem juf {ts:List Tk}(N:Nbs ts){i j:Nat}{y:Lc×Int×Int}(h:WT ts i=.ok y j):(-100000000<=y.2.1/\y.2.1<=100000000)/\(-100000000<=y.2.2/\y.2.2<=100000000):=by
 unfold WT at h;split at h
 .cases h;dsimp only;omega
 .split at h
  .cases h;dsimp only;omega
  .split at h
   .cases h
   .rename_i lo k h1;split at h
    .split at h
     .cases h
     .rename_i hi k2 h2;cases h;exact⟨jnK N h1,jnK N h2⟩
    .cases h
theorem jvf {ts:List Tk}(W:Wds ts){i j:Nat}{bs:List Ex}(hi:i<ts.length)(h:We ts i=.ok bs j):(∀ x∈bs,OkE x)/\bs.length<=1:=by
 unfold We at h;split at h
 .rename_i c;have hi1:=W.isM hi c;split at h
  .cases h
  .rename_i x k hx;split at h
   .cases h;exact⟨λy hy=>by simp at hy;rw[hy];exact uo W hi1 hx,by simp⟩
   .cases h
 .split at h
  .cases h;exact⟨(λy hy=>by cases hy),by simp⟩
  .cases h
theorem jsY {ts:List Tk}(W:Wds ts)(N:Nbs ts){i j:Nat}{d:DeclT}(hi:i<ts.length)(h:wX ts i=.ok d j):DeclOK d:=by
 unfold wX at h;split at h
 .rename_i k1;have hi1:=W.next i hi om
  split at h
  .rename_i c1;have hi2:=W.isM hi1 c1;split at h
   .cases h
   .rename_i y k hy;have hk:=jic W hi2 hy;split at h
    .cases h
    .rename_i bs k2 hb;cases h;obtain⟨a,b⟩:=juf N hy;obtain⟨c,d⟩:=jvf W hk.2 hb;exact⟨c,by dsimp only;omega,a,b⟩
  .cases h
 .cases h
theorem jj0 {ts:List Tk}(W:Wds ts):∀ {n i j:Nat} {vs ws:List AsT},i<ts.length->(∀ a∈vs,OkE a.to)->vs.length<=32->Yp ts n i vs=.ok ws j->(∀ a∈ws,OkE a.to)/\ws.length<=32
 |0,i,j,vs,ws,hi,hv,hl,h=>by cases h
 |n+1,i,j,vs,ws,hi,hv,hl,h=>by
  rw[Yp] at h;by_cases k1:(tk ts i).kind=1
  .simp only[if_pos k1] at h;have hi1:=W.next i hi om
   by_cases h32:32<=vs.length
   .simp only[if_pos h32] at h;cases h
   simp only[if_neg h32] at h;by_cases c1:isM (tk ts (i+1)) [[58,61]]=true
   .simp only[if_pos c1] at h;have hi2:=W.isM hi1 c1;cases h1:yY ts (i+2) with
    |er t=>rw[h1] at h;cases h
    |ok x k=>
     rw[h1] at h;dsimp only at h;have hj:=yJ W hi2 h1;have hx:=uo W hi2 h1;have hv2:∀ l c nm,∀ a∈vs ++ [(⟨nm,x,l,c⟩:AsT)],OkE a.to:=λl c nm a ha=>by
      rcases QaH.1 ha with ha|ha
      .exact hv a ha
      .simp at ha;rw[ha];exact hx
     by_cases c2:isM (tk ts k) [[44]]=true
     .simp only[if_pos c2] at h;exact jj0 W (W.isM hj.2.1 c2) (hv2 _ _ _) hae h
     .simp only[if_neg c2] at h;split at h
      .cases h;exact⟨hv2 _ _ _,by simp;omega⟩
      .cases h
   .simp only[if_neg c1] at h;cases h
  .simp only[if_neg k1] at h;cases h
theorem jrU {ts:List Tk}(W:Wds ts){i j:Nat}{r:RuleT}(hi:i<ts.length)(h:ZJ ts i=.ok r j):OkE r.when/\(∀ a∈r.acts,OkE a.to)/\r.acts.length<=1000000:=by
 unfold ZJ at h;cases h1:yY ts i with
 |er t=>rw[h1] at h;cases h
 |ok x k=>
  rw[h1] at h;dsimp only at h;have hj:=yJ W hi h1;by_cases c1:isM (tk ts k) [[100,111]]=true
  .simp only[if_pos c1] at h;cases h2:Yp ts ts.length (k+1) [] with
   |er t=>rw[h2] at h;cases h
   |ok vs k2=>
    rw[h2] at h;cases h;have:=jj0 (vs:=[]) W (W.isM hj.2.1 c1) (λa ha=>by cases ha) (Qae _) h2;exact⟨uo W hi h1,this.1,by dsimp only;omega⟩
  .simp only[if_neg c1] at h;cases h
theorem jeD {ts:List Tk}(W:Wds ts):∀ {n i j:Nat} {vs ws:List RuleT},i<ts.length->(∀ r∈vs,OkE r.when/\(∀ a∈r.acts,OkE a.to)/\r.acts.length<=1000000)->vs.length<=32->Xb ts n i vs=.ok ws j->(∀ r∈ws,OkE r.when/\(∀ a∈r.acts,OkE a.to)/\r.acts.length<=1000000)/\ws.length<=32
 |0,i,j,vs,ws,hi,hv,hl,h=>by cases h
 |n+1,i,j,vs,ws,hi,hv,hl,h=>by
  rw[Xb] at h;by_cases c1:isM (tk ts i) [[119,104,101,110]]=true
  .simp only[if_pos c1] at h;have hi1:=W.isM hi c1;by_cases h32:32<=vs.length
   .simp only[if_pos h32] at h;cases h
   simp only[if_neg h32] at h;cases h1:ZJ ts (i+1) with
   |er t=>rw[h1] at h;cases h
   |ok r k=>
    rw[h1] at h;dsimp only at h;refine jeD W (Hl W hi1 h1).2 (λa ha=>?_) hae h;rcases QaH.1 ha with ha|ha
    .exact hv a ha
    .simp at ha;rw[ha];exact jrU W hi1 h1
  .simp only[if_neg c1] at h;split at h
   .cases h;exact⟨hv,hl⟩
   .cases h
theorem jr6 {ts:List Tk}(W:Wds ts){i j:Nat}{p:ProcT}(hi:i<ts.length)(h:wD ts i=.ok p j):ProcOK p:=by
 unfold wD at h;split at h
 .rename_i k1;have hi1:=W.next i hi om
  split at h
  .rename_i c1;have hi2:=W.isM hi1 c1;split at h
   .rename_i vs k hv;cases h;have:=jeD (vs:=[]) W hi2 (λa ha=>by cases ha) (Qae _) hv;exact⟨by dsimp only;omega,this.1⟩
   .cases h
  .cases h
 .cases h
theorem jbg {ts:List Tk}(W:Wds ts)(N:Nbs ts):∀ {n i j:Nat} {m w:SrcT},i<ts.length->SrcOK m->m.enums.length<=32->m.vars.length<=32->m.procs.length<=32->Zj ts n i m=.ok w j->SrcOK w/\w.enums.length<=32/\w.vars.length<=32/\w.procs.length<=32
 |0,i,j,m,w,hi,hm,h1,h2,h3,h=>by cases h
 |n+1,i,j,m,w,hi,hm,h1,h2,h3,h=>by
  rw[Zj] at h;by_cases c:isM (tk ts i) [[101,110,117,109],[118,97,114],[112,114,111,99,101,115,115]]=true
  .simp only[if_pos c] at h;have hi1:=W.isM hi c;by_cases c1:(tk ts i).text=[101,110,117,109]
   .simp only[if_pos c1] at h;by_cases hr:32<=m.enums.length
    .simp only[if_pos hr] at h;cases h
    simp only[if_neg hr] at h;cases he:wU ts (i+1) with
    |er t=>rw[he] at h;cases h
    |ok e k=>
     rw[he] at h;refine jbg (m:={ m with enums:=m.enums ++ [e] }) W N (jfh W hi1 he).2 ⟨by simp;omega,hm.nv,hm.np,λa ha=>?_,hm.vars,hm.procs⟩ hae h2 h3 h;rcases QaH.1 ha with ha|ha
     .exact hm.vals a ha
     .simp at ha;rw[ha];exact jsQ he
   simp only[if_neg c1] at h;by_cases c2:(tk ts i).text=[118,97,114]
   .simp only[if_pos c2] at h;by_cases hr:32<=m.vars.length
    .simp only[if_pos hr] at h;cases h
    simp only[if_neg hr] at h;cases he:wX ts (i+1) with
    |er t=>rw[he] at h;cases h
    |ok e k=>
     rw[he] at h;refine jbg (m:={ m with vars:=m.vars ++ [e] }) W N (jfl W hi1 he).2 ⟨hm.ne,by simp;omega,hm.np,hm.vals,λa ha=>?_,hm.procs⟩ h1 hae h3 h;rcases QaH.1 ha with ha|ha
     .exact hm.vars a ha
     .simp at ha;rw[ha];exact jsY W N hi1 he
   .simp only[if_neg c2] at h;by_cases hr:32<=m.procs.length
    .simp only[if_pos hr] at h;cases h
    simp only[if_neg hr] at h;cases he:wD ts (i+1) with
    |er t=>rw[he] at h;cases h
    |ok e k=>
     rw[he] at h;refine jbg (m:={ m with procs:=m.procs ++ [e] }) W N (jeN W hi1 he).2 ⟨hm.ne,hm.nv,by simp;omega,hm.vals,hm.vars,λa ha=>?_⟩ h1 h2 hae h;rcases QaH.1 ha with ha|ha
     .exact hm.procs a ha
     .simp at ha;rw[ha];exact jr6 W hi1 he
  .simp only[if_neg c] at h;split at h
   .cases h;exact⟨hm,h1,h2,h3⟩
   .cases h
theorem Hg {l:Lc}(h:(zk l).2.1=0):SrcOK (zk l).1:=by
 unfold zk at h ⊢;by_cases c:(qj l).2.1≠0
 .rw[if_pos c] at h;exact absurd h c
 .rw[if_neg c] at h ⊢;have c0:(qj l).2.1=0:=by simpa using c
  obtain⟨W,ne,_⟩:=GE c0;cases hr:Zj (qj l).1 (qj l).1.length 0 V5 with
  |er t=>rw[hr] at h;exact absurd h (λh=>by cases h)
  |ok m j=>exact(jbg W (jjH c0) (QbO.2 ne) ⟨dc,dc,dc,(λa ha=>by cases ha),(λa ha=>by cases ha),(λa ha=>by cases ha)⟩ dc dc dc hr).1
theorem jmt {l:Lc}(h:(yp l).2.1=0):OkE (yp l).1:=by
 unfold yp at h ⊢;by_cases c:(qj l).2.1≠0
 .rw[if_pos c] at h;exact absurd h c
 .rw[if_neg c] at h ⊢;have c0:(qj l).2.1=0:=by simpa using c
  obtain⟨W,ne,_⟩:=GE c0;cases hr:yY (qj l).1 0 with
  |er t=>rw[hr] at h;exact absurd h (λh=>by cases h)
  |ok x j=>
   rw[hr] at h;dsimp only at h ⊢;by_cases k5:(tk (qj l).1 j).kind=5
   .rw[if_pos k5];exact uo W (QbO.2 ne) hr
   .rw[if_neg k5] at h;exact absurd h (λh=>by cases h)
def Bad (c:Int):Prop:=c≠0
theorem jgz {vars:List VarT}{enums:List EnumT}{x:Ex}{c l k:Int}(h:Jl vars enums x=.er c l k):Bad c:=by
 unfold Jl at h;split at h
 .cases h
 .split at h
  .cases h;exact λh=>by cases h
  .cases h
mutual
theorem jaE {vars:List VarT}{enums:List EnumT}:∀ (fm:Bool) (x:Ex) {a b d:Int},zd vars enums fm x=.er a b d->Bad a
 |fm,.mk op num name ks l c,a,b,d,h=>by
  rw[zd] at h;split at h
  .cases h
  .split at h
   .cases h
   .split at h
    .exact jgz h
    .split at h
     .rename_i hr;cases h;exact Gc _ _ hr
     .unfold wj at h;split at h
      .cases h;exact λh=>by cases h
      .split at h
       .cases h
       .split at h
        .cases h;exact λh=>by cases h
        .cases h
theorem Gc {vars:List VarT}{enums:List EnumT}:∀ (fm:Bool) (xs:List Ex) {a b d:Int},qE vars enums fm xs=.er a b d->Bad a
 |fm,[],a,b,d,h=>by rw[qE] at h;cases h
 |fm,x :: xs,a,b,d,h=>by
  rw[qE] at h;cases hx:zd vars enums fm x with
  |er p q r=>rw[hx] at h;cases h;exact jaE fm x hx
  |ok y=>
   rw[hx] at h;cases hr:qE vars enums fm xs with
   |er p q r=>rw[hr] at h;cases h;exact Gc fm xs hr
   |ok r=>rw[hr] at h;cases h
end
theorem Xt {vars:List VarT}{enums:List EnumT}{fm:Bool}{x:Ex}{w:Int}{en:Lc}{a b c:Int}(h:yK vars enums fm x w en=.er a b c):Bad a:=by
 unfold yK at h;split at h
 .rename_i hr;cases h;exact jaE fm x hr
 .split at h
  .cases h;exact λh=>by cases h
  .cases h
theorem VZ {ts:Lb}{n:Lc}{l c a b d:Int}(h:Xu ts n l c=.er a b d):Bad a:=by
 unfold Xu at h;split at h
 .cases h;exact λh=>by cases h
 .cases h
theorem gi {l c:Int}:∀ {ns ts:Lb} {a b d:Int},zi l c ts ns=.er a b d->Bad a
 |[],ts,a,b,d,h=>by cases h
 |n :: ns,ts,a,b,d,h=>by
  rw[zi] at h;split at h
  .rename_i hr;cases h;exact VZ hr
  .exact gi h
theorem jjC {m:ModT}{ts:Lb}{e:EnumT}{a b d:Int}(h:uO m ts e=.er a b d):Bad a:=by
 unfold uO at h;split at h
 .rename_i hr;cases h;exact gi hr
 .cases h
theorem jdN {vars:List VarT}{enums:List EnumT}:∀ {xs:List Ex} {v:VarT} {a b d:Int},Js vars enums v xs=.er a b d->Bad a
 |[],v,a,b,d,h=>by rw[Js] at h;cases h
 |x :: xs,v,a,b,d,h=>by
  rw[Js] at h;split at h
  .rename_i hr;cases h;exact Xt hr
  .split at h
   .cases h;exact λh=>by cases h
   .split at h
    .cases h;exact λh=>by cases h
    .exact jdN h
theorem jjG {m:ModT}{ts:Lb}{e:DeclT}{a b d:Int}(h:Yo m ts e=.er a b d):Bad a:=by
 unfold Yo at h;split at h
 .rename_i hr;cases h;exact VZ hr
 .split at h
  .rename_i hr;cases h;unfold wR at hr;split at hr
   .cases hr
   .split at hr
    .cases hr
    .split at hr
     .cases hr;exact λh=>by cases h
     .split at hr
      .cases hr;exact λh=>by cases h
      .split at hr
       .cases hr;exact λh=>by cases h
       .cases hr
  .unfold w7 at h;split at h
   .rename_i hr;cases h;exact jdN hr
   .unfold Ks at h;split at h
    .cases h;exact λh=>by cases h
    .cases h
theorem H8 {vars:List VarT}{enums:List EnumT}:∀ {xs done:List AsT} {acc:List SetT} {a b d:Int},Yd vars enums acc done xs=.er a b d->Bad a
 |[],done,acc,a,b,d,h=>by rw[Yd] at h;cases h
 |x :: xs,done,acc,a,b,d,h=>by
  rw[Yd] at h;split at h
  .cases h;exact λh=>by cases h
  .split at h
   .cases h;exact λh=>by cases h
   .split at h
    .rename_i hr;cases h;exact Xt hr
    .exact H8 h
theorem jir {m:ModT}{ts:Lb}{e:RuleT}{a b d:Int}(h:ZK m ts e=.er a b d):Bad a:=by
 unfold ZK at h;split at h
 .rename_i hr;cases h;exact Xt hr
 .split at h
  .rename_i hr;cases h;exact H8 hr
  .cases h
theorem Z8 {α β:Type}{f:β->α->KR β}(hf:∀ b x a c d,f b x=.er a c d->Bad a):∀ {xs:List α} {b:β} {a c d:Int},Jh f b xs=.er a c d->Bad a
 |[],b,a,c,d,h=>by rw[Jh] at h;cases h
 |x :: xs,b,a,c,d,h=>by
  rw[Jh] at h;split at h
  .rename_i hr;cases h;exact hf _ _ _ _ _ hr
  .exact Z8 hf h
theorem Vg {s:SrcT}{a b d:Int}(h:zW s=.er a b d):Bad a:=by
 unfold zW at h;split at h
 .rename_i hr;cases h;exact Z8 (λb x a c d h=>jjC h) hr
 .split at h
  .rename_i hr;cases h;exact Z8 (λb x a c d h=>jjG h) hr
  .refine Z8 (λb x a c d h=>?_) h;unfold wE at h;split at h
   .rename_i hr;cases h;exact VZ hr
   .exact Z8 (λb x a c d h=>jir h) h
theorem jur:Go.Ev.isAgg δ 32=some true:=Qa0
theorem juq:Go.Ev.sizeOf δ 32=some 3:=Qa0
theorem jwN {b o:Nat}{cs:List AV}{h:T AO}(ho:o+3<=jV h b)(hv:rats h b o 3=cs)(hc:cs.all eqs=true):(jZ δ 32 (.ptr b o) (.agg cs) h=true)=True:=eq_true (YW jur juq dc ho hv hc)
structure RdT where
 m:ModT
 x:Ex
 c:Int
 l:Int
 k:Int
def zy (l f:Lc):RdT:=
 if(zk l).2.1≠0 then⟨md0,ex0,(zk l).2.1,(zk l).2.2.1,(zk l).2.2.2⟩ else match zW (zk l).1 with
 |.er a b c=>⟨md0,ex0,a,b,c⟩
 |.ok m=>if(yp f).2.1≠0 then⟨md0,ex0,(yp f).2.1,(yp f).2.2.1,(yp f).2.2.2⟩ else match yK m.1.vars m.1.enums true (yp f).1 2 [] with
  |.er a b c=>⟨md0,ex0,a,b,c⟩
  |.ok y=>⟨m.1,y,0,0,0⟩
def gh (r:RdT):AV:=.tup [.agg (mdE r.m),.agg (eE r.x),.agg (fcl r.c r.l r.k)]
theorem jlM {s:St}{r:RdT}{a b c:List AV}(h1:a=mdE r.m)(h2:b=eE r.x)(h3:c=fcl r.c r.l r.k):G0 (gh r) (.tup [.agg a,.agg b,.agg c]) s:=by
 subst h1 h2 h3;exact FzD.tup (.cons (.agg (.pc (Je _))) (.cons (.agg (.pc (yd _))) (.cons (.agg (.pc rfl)) .nil)))
theorem WW {s:St}{r:RdT}{c:List AV}(h1:r.m=md0)(h2:r.x=ex0)(h3:c=fcl r.c r.l r.k):G0 (gh r) (.tup [.agg [.nils,.nils,.nils],.agg [.int .i64 0,.int .i64 0,.str [],.nils,.int .i64 0,.int .i64 0],.agg c]) s:=by
 subst h3;unfold gh;rw[h1,h2];exact FzD.tup (.cons jiP (.cons Yu (.cons (.agg (.pc rfl)) .nil)))
theorem zX {α β:Type}{f:β->α->KR β}{P:Nat->β->Prop}:∀ {xs:List α} {n:Nat} {b b':β},(∀ k b x b',x∈xs->P k b->f b x=.ok b'->P (k+1) b')->P n b->Jh f b xs=.ok b'->P (n+xs.length) b'
 |[],n,b,b',_,h,e=>by rw[Jh] at e;cases e;exact h
 |x :: xs,n,b,b',hs,h,e=>by
  rw[Jh] at e;split at e
  .cases e
  .rename_i c hc;have:=zX (n:=n+1) (λk b y b' hy=>hs k b y b' (by simp[hy])) (hs n b x c hac h hc) e;rw[τ,show n+(xs.length+1)=n+1+xs.length by omega];exact this
theorem Kt {b b':MT}{p:ProcT}(h:wE b p=.ok b'):b'.1.vars=b.1.vars/\b'.1.enums=b.1.enums:=by
 unfold wE at h;split at h
 .cases h
 .rename_i ts _;refine zX (n:=0) (P:=λ_ c=>c.1.vars=b.1.vars/\c.1.enums=b.1.enums) (λk c x c' _ hc hr=>?_) ⟨rfl,rfl⟩ h;obtain⟨e,he⟩:=jcA hr;rw[he];exact hc
theorem jmy {src:SrcT}(O:SrcOK src){b:MT}(h:Uy (md0,[]) src.enums=.ok b):b.1.vars=[]/\b.1.moves=[]/\b.1.enums.length<=1000/\(∀ e∈b.1.enums,e.vals.length<=1000000):=by
 have H:=zX (n:=0) (P:=λk (c:MT)=>c.1.vars=[]/\c.1.moves=[]/\c.1.enums.length<=k/\(∀ e∈c.1.enums,e.vals.length<=1000000)) (λk c x c' hx hc hr=>?_) ⟨rfl,rfl,η _,λe he=>by cases he⟩ h
 .have:=O.ne;exact⟨H.1,H.2.1,by have:=H.2.2.1;omega,H.2.2.2⟩
 .rw[Vz hr];refine⟨hc.1,hc.2.1,by have:=hc.2.2.1;simp;omega,λu hu=>?_⟩;rcases QaH.1 hu with hu|hu
  .exact hc.2.2.2 u hu
  .simp only[QaL] at hu;rw[hu];exact(O.vals x hx).2
theorem jmD {src:SrcT}(O:SrcOK src){b c:MT}(V:VarsOK b.1.vars b.1.enums)(h0:b.1.vars=[])(h:uc b src.vars=.ok c):VarsOK c.1.vars c.1.enums:=by
 have:=zX (n:=0) (P:=λk (c:MT)=>(∀ v∈c.1.vars,-100000000<=v.lo/\v.lo<=100000000/\-100000000<=v.hi/\v.hi<=100000000)/\c.1.enums=b.1.enums/\c.1.vars.length=k) (λk c x c' hx hc hr=>?_) ⟨V.ends,rfl,by rw[h0];rfl⟩ h
 .have hn:=O.nv;exact⟨om,by rw[this.2.1];exact V.len2,by rw[this.2.1];exact V.vals,this.1⟩
 .obtain⟨v,he,hv⟩:=jdA (by rw[hc.2.1];exact V.vals) (O.vars x hx) hr;rw[he];refine⟨λu hu=>?_,hc.2.1,by simp[hc.2.2]⟩;rcases QaH.1 hu with hu|hu
  .exact hc.1 u hu
  .simp only[QaL] at hu;rw[hu];exact hv
theorem jnN {src:SrcT}(O:SrcOK src){m:MT}(h:zW src=.ok m):VarsOK m.1.vars m.1.enums:=by
 unfold zW at h;split at h
 .cases h
 .rename_i b h1;obtain⟨e1,e2,e3,e4⟩:=jmy O h1;split at h
  .cases h
  .rename_i c h2;have V:=jmD O ⟨by rw[e1];exact Qae _,om,e4,λv hv=>by rw[e1] at hv;cases hv⟩ e1 h2;have:=zX (n:=0) (P:=λ_ (d:MT)=>d.1.vars=c.1.vars/\d.1.enums=c.1.enums) (λk d x d' _ hd hr=>?_) ⟨rfl,rfl⟩ h
   .rw[this.1,this.2];exact V
   .have:=Kt hr;rw[this.1,this.2];exact hd
theorem jtC (hb:NB base)(hP:PI base)(l f:Lc)(hl:l.length<=9223372036854775807)(hf:f.length<=9223372036854775807):Tot base 36 [.str l,.str f] (gh (zy l f)):=by
 refine hb.tot ?_ rfl rfl;have hS:=jmR hb hP l hl GE jjH;have hX:=jtM hb hP f hf GE;refine jB x24 haa (hb.pur 36 1 dc) ?_;simp only[y24,jj,ζ,θ,κ,μ];rw[(by unfold z24;simp only[qq];rfl:z24=_)];unfold zy;by_cases h1:(zk l).2.1≠0
 .have h1':¬ ((zk l).2.1:Int)=0:=om
  rw[if_pos h1];have e:zG (zk l).2=[.int .i64 ((zk l).2.1:Int),.int .i64 ((zk l).2.2.1:Int),.int .i64 ((zk l).2.2.2:Int)]:=rfl;rw[e] at hS;repeat' first|apply jb<;>intro _|simp(disch:=try exact dzG) only[hS,h1',YU,QT,uv,r11,γ,ε]
  exact WW rfl rfl rfl
 rw[if_neg h1];have h1z:(zk l).2.1=0:=by simpa using h1
 have O:=Hg h1z;have e0:(zk l).2=(0,0,0):=by
  unfold zk at h1z ⊢;by_cases c:(qj l).2.1≠0
  .rw[if_pos c] at h1z;exact absurd h1z c
  .rw[if_neg c] at h1z ⊢;cases hr:Zj (qj l).1 (qj l).1.length 0 V5 with
   |er t=>rw[hr] at h1z;exact absurd h1z (λh=>by cases h)
   |ok m j=>rfl
 rw[e0] at hS;have e0':zG (0,0,0)=[.int .i64 0,.int .i64 0,.int .i64 0]:=rfl;rw[e0'] at hS;have hM:=joY hb (zk l).1 O;unfold UY at hM;cases hm:zW (zk l).1 with
 |er a b c=>
  have ha:¬ a=0:=Vg hm;rw[hm] at hM;unfold fcl at hM;repeat' first|apply jb<;>intro _|simp(disch:=try exact dzG) only[hS,hM,ha,YU,QT,uv,r11,γ,ε]
  exact WW rfl rfl rfl
 |ok m=>
  rw[hm] at hM;unfold fcl at hM;dsimp only at hM ⊢;have V:=jnN O hm;by_cases h2:(yp f).2.1≠0
  .have h2':¬ ((yp f).2.1:Int)=0:=om
   rw[if_pos h2];have e:zG (yp f).2=[.int .i64 ((yp f).2.1:Int),.int .i64 ((yp f).2.2.1:Int),.int .i64 ((yp f).2.2.2:Int)]:=rfl;rw[e] at hX;repeat' first|apply jb<;>intro _|simp(disch:=try exact dzG) only[hS,hM,hX,h2',YU,QT,uv,r11,γ,ε]
   exact WW rfl rfl rfl
  rw[if_neg h2];have h2z:(yp f).2.1=0:=by simpa using h2
  have OX:=jmt h2z;have e2:(yp f).2=(0,0,0):=by
   unfold yp at h2z ⊢;by_cases c:(qj f).2.1≠0
   .rw[if_pos c] at h2z;exact absurd h2z c
   .rw[if_neg c] at h2z ⊢;cases hr:yY (qj f).1 0 with
    |er t=>rw[hr] at h2z;exact absurd h2z (λh=>by cases h)
    |ok x j=>
     rw[hr] at h2z;dsimp only at h2z ⊢;by_cases k5:(tk (qj f).1 j).kind=5
     .rw[if_pos k5]
     .rw[if_neg k5] at h2z;exact absurd h2z (λh=>by cases h)
  rw[e2,e0'] at hX;have hF:=jjn hb m.1 V (yp f).1 OX;unfold jgf at hF;cases hr:yK m.1.vars m.1.enums true (yp f).1 2 [] with
  |er a b c=>
   have ha:¬ a=0:=Xt hr;rw[hr] at hF;unfold fcl at hF;repeat' first|apply jb<;>intro _|simp(disch:=try exact dzG) only[hS,hM,hX,hF,ha,YU,QT,uv,r11,γ,ε]
   exact WW rfl rfl rfl
  |ok y=>
   rw[hr] at hF;unfold fcl at hF
   (have zz:=aI @QY @jnO;repeat' first|apply jb<;>intro _|simp(disch:=try exact j9) only[hS,hM,hX,hF,YU,QT,jwN,uv,QY,jnO,r11,γ,ε])
   exact jlM rfl rfl rfl
theorem jwS (a b c d e f:Int):(eqF δ 20 71).run (.agg [.int .i64 a,.int .i64 b,.int .i64 c]) (.agg [.int .i64 d,.int .i64 e,.int .i64 f])=some (decide (a=d/\b=e/\c=f)):=by
 have h:(eqF δ 20 71).run (.agg [.int .i64 a,.int .i64 b,.int .i64 c]) (.agg [.int .i64 d,.int .i64 e,.int .i64 f])=cond (eqI a d) (cond (eqI b e) (cond (eqI c f) (some true) (some false)) (some false)) (some false):=Qa0
 rw[h,X9,X9,X9];by_cases h1:a=d<;>by_cases h2:b=e<;>by_cases h3:c=f<;>simp[h1,h2,h3]
theorem fEq (a b c d e f:Int)(st:St)(K:AV->St->Prop):jk (QB δ .eql 71 false (.agg [.int .i64 a,.int .i64 b,.int .i64 c]) (.agg [.int .i64 d,.int .i64 e,.int .i64 f]) st) K=K (.bool (decide (a=d/\b=e/\c=f))) st:=by
 have h:QB δ .eql 71 false (.agg [.int .i64 a,.int .i64 b,.int .i64 c]) (.agg [.int .i64 d,.int .i64 e,.int .i64 f]) st=jN ((eqF δ 20 71).run (.agg [.int .i64 a,.int .i64 b,.int .i64 c]) (.agg [.int .i64 d,.int .i64 e,.int .i64 f])) λb=>.ok (.bool b) st:=Qa0
 rw[h,jwS];simp[jN,jk]
def Zc (vars:List VarT):Prop:=∀ v∈vars,v.kind=2->v.enum=[]
theorem jgG {enums:List EnumT}{d:DeclT}{v:VarT}(h:wR enums d=.ok v):v.kind=2->v.enum=[]:=by
 unfold wR at h;split at h
 .cases h;exact λ_=>rfl
 .split at h
  .cases h;intro h;cases h
  .split at h
   .cases h
   .split at h
    .cases h
    .split at h
     .cases h
     .cases h;intro h;cases h
theorem jhc {m:ModT}{ts:Lb}{d:DeclT}{b:MT}(hm:Zc m.vars)(h:Yo m ts d=.ok b):Zc b.1.vars:=by
 unfold Yo at h;split at h
 .cases h
 .split at h
  .cases h
  .rename_i v hk;unfold w7 at h;split at h
   .cases h
   .rename_i u hu;unfold Ks at h;split at h
    .cases h
    .cases h;have hb:=HQ hu;intro w hw;rcases QaH.1 hw with hw|hw
     .exact hm w hw
     .simp only[QaL] at hw;rw[hw,hb.2.2.1,hb.2.2.2.1];exact jgG hk
theorem jo2 {src:SrcT}{m:MT}(h:zW src=.ok m):Zc m.1.vars:=by
 unfold zW at h;split at h
 .cases h
 .rename_i b h1;have hb:Zc b.1.vars:=zX (n:=0) (P:=λ_ (c:MT)=>Zc c.1.vars) (λk c x c' _ hc hr=>by rw[Vz hr];exact hc) (λv hv=>by cases hv) h1;split at h
  .cases h
  .rename_i c h2;have hc:Zc c.1.vars:=zX (n:=0) (P:=λ_ (c:MT)=>Zc c.1.vars) (λk c x c' _ hc hr=>jhc hc hr) hb h2;exact zX (n:=0) (P:=λ_ (c:MT)=>Zc c.1.vars) (λk c x c' _ hc hr=>by rw[(Kt hr).1];exact hc) hc h
theorem Yz {α:Type}{f:α->Nat}:∀ {l:List α} {x:α},x∈l->f x<=(l.map f).sum
 |y :: l,x,h=>by
  rw[ζ,List.sum_cons];rcases QaT.1 h with rfl|h
  .omega
  .have:=Yz (f:=f) h;omega
theorem YA {α:Type}{f:α->Nat}(hf:∀ x,1<=f x):∀ l:List α,l.length<=(l.map f).sum
 |[]=>Qae _
 |y :: l=>by
  rw[ζ,List.sum_cons,τ];have:=YA hf l;have:=hf y;omega
theorem jlN {xs:List Ex}{x:Ex}(h:x∈xs):szE x<=zj xs:=by rw[<-JV];exact Yz h
theorem jox (xs:List Ex):xs.length<=zj xs:=by rw[<-JV];exact YA Hf xs
theorem jri {m:SrcT}(h:szS m<=1048576):WrS m:=by
 unfold szS at h;have hB:(1048576:Nat)<=BIG:=dc
 have l1:=YA (f:=szN) (λe=>by unfold szN;omega) m.enums;have l2:=YA (f:=szD) (λe=>by unfold szD;omega) m.vars;have l3:=YA (f:=szP) (λe=>by unfold szP;omega) m.procs;refine⟨om,λe he=>?_,om,λd hd=>?_,om,λp hp=>?_⟩
 .have h0:=Yz (f:=szN) he;have e0:szN e=e.name.length+(e.vals.map szV).sum+1:=rfl;have lv:=YA (f:=szV) (λe=>by unfold szV;omega) e.vals;refine⟨om,om,λv hv=>?_⟩;have h1:=Yz (f:=szV) hv;have e1:szV v=v.length+1:=rfl;omega
 .have h0:=Yz (f:=szD) hd;have e0:szD d=d.name.length+d.ty.length+zj d.begins+1:=rfl;have:=jox d.begins;refine⟨om,om,om,λx hx=>?_⟩;have:=jlN hx;omega
 .have h0:=Yz (f:=szP) hp;have e0:szP p=p.name.length+(p.rules.map szR).sum+1:=rfl;have lr:=YA (f:=szR) (λe=>by unfold szR;omega) p.rules;refine⟨om,om,λr hr=>?_⟩;have h1:=Yz (f:=szR) hr;have e1:szR r=szE r.when+(r.acts.map szA).sum+1:=rfl;have la:=YA (f:=szA) (λe=>by unfold szA;omega) r.acts;refine⟨om,om,λa ha=>?_⟩;have h2:=Yz (f:=szA) ha;have e2:szA a=a.name.length+szE a.to+1:=rfl;omega
section
variable {st:St} {K:AV->St->Prop}
theorem jny (a b c:AV):jk (Vw 0 (.tup [a,b,c]) st) K=K a st:=nr rfl
theorem jnx (a b c:AV):jk (Vw 1 (.tup [a,b,c]) st) K=K b st:=nr rfl
theorem jnw (a b c:AV):jk (Vw 2 (.tup [a,b,c]) st) K=K c st:=nr rfl
end
theorem jcG {l f:Lc}(h:(zy l f).c=0):VarsOK (zy l f).m.vars (zy l f).m.enums/\Zc (zy l f).m.vars:=by
 unfold zy at h ⊢;by_cases h1:(zk l).2.1≠0
 .rw[if_pos h1] at h;exact absurd (show((zk l).2.1:Int)=0 from h) om
 .rw[if_neg h1] at h ⊢;have O:=Hg (l:=l) (by simpa using h1);cases hm:zW (zk l).1 with
  |er a b c=>
   rw[hm] at h;exact absurd h (Vg hm)
  |ok m=>
   rw[hm] at h;dsimp only at h ⊢;by_cases h2:(yp f).2.1≠0
   .rw[if_pos h2] at h;exact absurd (show((yp f).2.1:Int)=0 from h) om
   .rw[if_neg h2] at h ⊢;cases hr:yK m.1.vars m.1.enums true (yp f).1 2 [] with
    |er a b c=>
     rw[hr] at h;exact absurd h (Xt hr)
    |ok y=>exact⟨jnN O hm,jo2 hm⟩
end Go.Sy
end
noncomputable section
namespace Go.Sy
open Go.Ev Go.RowKit
variable {s:St}{z lo hi n:Nat}{v:AV}{cs:List AV}
def Lw (lo hi:Nat)(s:St)(v:AV)(n:Nat)(cs:List AV)(z:Nat):Prop:=∃ b ex,v=.slice b 0 n n z ex/\(ex=true->n=0)/\cs.length=n * z/\Cl s b cs/\lo<=b/\b<hi
theorem Lw.new (h1:lo<=s.nx)(h2:s.nx<hi):Lw lo hi (nw s []) (.slice s.nx 0 0 0 z true) 0 [] z:=⟨s.nx,true,rfl,λ_=>rfl,by simp,Cl.new s [],h1,h2⟩
theorem Lw.fz {m d:Nat}(h:Lw lo hi s v n cs z)(hm:m<=lo)(hp:cs.all pc=true):FzD m (d+2) s v (.lst n cs):=by
 obtain⟨b,ex,rfl,_,h3,h4,h5,h6⟩:=h;refine FzD.slice h4.rw_ (QaY h3.symm) om ?_;rw[<-h3,Qak];exact FzsD.pc hp
theorem Lw.nwO (h:Lw lo hi s v n cs z)(ds:List AV):Lw lo hi (nw s ds) v n cs z:=by
 obtain⟨b,ex,h1,h2,h3,h4,h5,h6⟩:=h;exact⟨b,ex,h1,h2,h3,h4.nw ds,h5,h6⟩
structure ApL (lo:Nat)(s s':St):Prop where
 nx:s.nx<=s'.nx
 fr:s'.fr=s.fr
 hp:∀ c,c<lo->c<s.nx->jv s'.h c=jv s.h c
theorem ApL.cl {s':St}(a:ApL lo s s')(c:Nat)(ds:List AV)(hc:c<lo)(C:Cl s c ds):Cl s' c ds:=C.keep a.nx (a.hp c hc C.lt)
theorem Lw.keep {lo2:Nat}{s':St}(h:Lw lo hi s v n cs z)(a:ApL lo2 s s')(hh:hi<=lo2):Lw lo hi s' v n cs z:=by
 obtain⟨b,ex,h1,h2,h3,h4,h5,h6⟩:=h;exact⟨b,ex,h1,h2,h3,a.cl b cs om h4,h5,h6⟩
theorem ApL.nwO (s:St)(ds:List AV):ApL s.nx s (nw s ds):=⟨by rw[jf];omega,by rw[ZT],λc hc h=>qp om⟩
theorem ApL.trans {lo2:Nat}{t u:St}(a:ApL lo s t)(b:ApL lo2 t u)(h:lo<=lo2):ApL lo s u:=⟨χ a.nx b.nx,b.fr.trans a.fr,λc hc h=>(b.hp c om (Qat h a.nx)).trans (a.hp c hc h)⟩
theorem jmM {n2 bytes:Nat}{cs2:List AV}(h:Lw lo hi s v n cs z)(hhi:hi<=s.nx)(hl:cs2.length=n2 * z)(hz:0<z)(hby:(n+n2) * bytes<=140737488355328)(h63:n+n2<=9223372036854775807) :
  ∃ v' s',(∀ K:AV->St->Prop,jk (JG z bytes v (.lst n2 cs2) s) K=K v' s')/\Lw lo s'.nx s' v' (n+n2) (cs ++ cs2) z/\ApL lo s s':=by
 obtain⟨b,ex,rfl,hex,h3,h4,h5,h6⟩:=h;obtain⟨m',zl',zz',ks',hg'⟩:=h4.row;have h4l:=h4.len;rw[yV hg'] at h4l;have e1:QcC (QcE n2 z) (jP cs2)=true:=qo (by rw[jO];exact QaY hl.symm);have e2:yl cs2 (QcE n2 z)=cs2:=by rw[qX];exact(by rw[show QcE n2 z=cs2.length from hl.symm,Qak])
 have e3:QcA (jP cs2) (QcE n2 z)=true:=XT (by rw[jO];exact hl);by_cases h0:n2=0
 .subst h0;have hc:cs2=[]:=List.length_eq_zero_iff.1 om;subst hc;refine⟨_,s,λK=>?_,⟨b,ex,rfl,by simpa using hex,by simpa using h3,by simpa using h4,h5,om⟩,⟨η _,rfl,λ_ _ _=>rfl⟩⟩;have e4:QcC (QcD n 0) n=true:=qo (η _);have e5:QcA 0 0=true:=rfl;simp only[JG,JJ,firstCells,e1,cond_true,e2,qO,e3,hg',yg,jF,e4,e5,jk];rfl
 .have e4:QcC (QcD n n2) n=false:=jbO (by show n<n+n2;omega);have e5:QcC (QcE (QcD n n2) bytes) 140737488355328=true:=qo hby;have e6:QcC (QcD n n2) 9223372036854775807=true:=qo h63;cases ex with
  |true=>
   have hn:=hex rfl;subst hn;have hc:cs=[]:=List.length_eq_zero_iff.1 om;subst hc;have e7:QcC (QcD 0 (QcE 0 z)) m'=true:=qo (by show 0+0 * z<=m';omega);have e8:jR zl' zz' ks' (QcE 0 z) 0=[]:=by rw[qm,show QcE 0 z=0 from QaV z];rfl
   have e9:yN [] cs2=cs2:=by rw[yu];rfl
   refine⟨.slice s.nx 0 (0+n2) (0+n2) z false,nw s cs2,λK=>?_,⟨s.nx,false,rfl,(λh=>by cases h),by rw[Qam,hl,Qaj],Cl.new s _,om,by rw[jf];omega⟩,⟨by rw[jf];omega,by rw[ZT],λc hc h=>qp om⟩⟩;simp only[JG,JJ,firstCells,e1,cond_true,e2,qO,e3,hg',yg,jF,e4,e5,e6,cond_false,e7,e8,e9,St.alloc_eq,jk];conv=>rhs;unfold nw
   rw[show QcE (QcD 0 n2) z=cs2.length by rw[hl];exact congrArg (· * z) (Qaj n2)];rfl
  |false=>
   have e7:QcA z z=true:=XT rfl;have e8:QcA 0 0=true:=rfl;have e9:QcA (QcE n z) m'=true:=XT (by rw[h4l,h3];rfl);have e10:QcE (QcD n n2) z=m'+cs2.length:=by rw[hl,h4l,h3];exact QaJ n n2 z
   have ea:ap s b cs2=⟨s.nx+1,(j2 (jK s.nx)).run (.row (m'+cs2.length) zl' zz' (qk cs2 ks' m')) ((j2 (jK b)).run .dead s.h),min s.dirty b,s.fr⟩:=by
    unfold ap apO;rw[hg']
   have hne:b≠s.nx:=om
   refine⟨.slice s.nx 0 (n+n2) (n+n2) z false,ap s b cs2,λK=>?_,⟨s.nx,false,rfl,(λh=>by cases h),by rw[υ,h3,hl,QaJ],h4.ap cs2,om,by rw[ea];exact QaW _⟩,⟨by rw[ea];exact Qbd _,by rw[ea],λc hc h=>HC om om⟩⟩;simp only[JG,JJ,firstCells,e1,cond_true,e2,qO,e3,hg',yg,jF,e4,e5,e6,cond_false,e7,e8,e9,St.put_eq,St.alloc_eq,jk];rw[e10,ea];rfl
end Go.Sy
end
noncomputable section
set_option maxRecDepth 100000
namespace Go.Sy
variable {n:Int}{w:Nat}
def bt (n:Int)(i:Nat):Bool:=decide (n / 2 ^ i % 2=1)
def Qe (lo hi:Int)(w:Nat):Prop:=-(2 ^ (w - 1))<=lo/\hi<2 ^ (w - 1)
theorem p2 (k:Nat):(0:Int)<2 ^ k:=Int.pow_pos dc
theorem uF (n:Int)(k:Nat):n % 2 ^ (k+1)=n % 2 ^ k+if bt n k then 2 ^ k else 0:=by
 have hq:=p2 k;unfold bt;rw[Qbp];generalize (2:Int) ^ k=q at hq;have h1:=Qcf n q;have h2:=Qcf (n / q) 2;have h3:=Qcg n (show q≠0 by omega);have h4:=Qch n hq;have h7:n=(n % q+q * (n / q % 2))+(q * 2) * (n / q / 2):=by
  rw[Int.mul_assoc,Int.add_assoc,<-Int.mul_add,Int.add_comm (n / q % 2),h2,Int.add_comm];exact h1.symm
 have h8:n / q % 2=0\/n / q % 2=1:=om
 have h9:((n % q+q * (n / q % 2))+(q * 2) * (n / q / 2)) % (q * 2)=n % q+q * (n / q % 2):=by
  rw[Qci];refine Qcj ?_ ?_<;>rcases h8 with e|e<;>rw[e]<;>omega
 rw[<-h7] at h9;rw[h9];rcases h8 with e|e<;>rw[e]<;>simp
theorem wH (n:Int)(k:Nat):0<=n % 2 ^ k/\n % 2 ^ k<2 ^ k:=⟨Qcg _ (by have:=p2 k;omega),Qch _ (p2 k)⟩
theorem WE {i:Nat}(h:Qe n n w)(hi:w - 1<=i):bt n i=decide (n<0):=by
 have hq:=p2 i;have hle:(2:Int) ^ (w - 1)<=2 ^ i:=by
  have:=Qbu (n:=2) dc hi
  exact_mod_cast this
 obtain⟨h1,h2⟩:=h;unfold bt;generalize (2:Int) ^ i=q at hq hle;by_cases h0:0<=n
 .rw[Int.ediv_eq_zero_of_lt h0 om];simp;omega
 .have e:n / q=-1:=by
   have e1:=Qcf n q;have e3:=Qcg n (show q≠0 by omega);have e4:=Qch n hq;have e5:n / q<0:=Int.ediv_neg_of_neg_of_pos om hq;have e6 : -1<=n / q:=by
    rcases Int.lt_or_le (n / q) (-1) with h|h
    .have:q * (n / q)<=q * (-2):=Int.mul_le_mul_of_nonneg_left om om;omega
    .exact h
   omega
  rw[e];simp;omega
theorem Zy (h:Qe n n w)(hw:1<=w):n=n % 2 ^ w - if bt n (w - 1) then 2 ^ w else 0:=by
 obtain⟨k,rfl⟩:∃ k,w=k+1:=⟨w - 1,om⟩;have e:=WE h (η _);obtain⟨h1,h2⟩:=h;rw[QbI] at *;rw[e,Qbp];have hq:=p2 k;generalize (2:Int) ^ k=q at *;by_cases h0:0<=n
 .rw[Qcj h0 om];simp;omega
 .have e2:n % (q * 2)=n+q * 2:=by
   have e:(n+q * 2) % (q * 2)=n % (q * 2):=Int.add_emod_right ..;rw[<-e];exact Qcj om om
  rw[e2];simp;omega
theorem jfc {a b:Int}{v:Nat}(h:Qe a b v)(h1:a<=n)(h2:n<=b)(hw:v<=w):Qe n n w:=by
 have:(2:Int) ^ (v - 1)<=2 ^ (w - 1):=by
  have:=Qbu (n:=2) dc (Nat.sub_le_sub_right hw 1)
  exact_mod_cast this
 exact⟨by have:=h.1;omega,by have:=h.2;omega⟩
theorem jfu {m:Int}(hw:1<=w)(h:Qe n n w)(k:Qe m m w):((ω w).all λi=>bt n i == bt m i)=decide (n=m):=by
 by_cases e:n=m
 .subst e;simp
 .rw[decide_eq_false e,Qcd];intro ha;rw[Qah] at ha;have hb:∀ i,i<w->bt n i=bt m i:=λi hi=>by simpa using ha i (QaZ.2 hi)
  have key:∀ j,j<=w->n % 2 ^ j=m % 2 ^ j:=by
   intro j;induction j with
   |zero=>intro _;simp[Int.emod_one]
   |succ j ih=>intro hj;rw[uF,uF,ih om,hb j om]
  refine e ?_;rw[Zy h hw,Zy k hw,key w (η _),hb (w - 1) om]
def Yk (p q:Nat->Bool):Nat->Bool
 |0=>false
 |k+1=>if p k=q k then Yk p q k else q k
theorem jaw (n m:Int):∀ k,Yk (bt n) (bt m) k=decide (n % 2 ^ k<m % 2 ^ k)
 |0=>by simp[Yk,Int.emod_one]
 |k+1=>by
  have h1:=wH n k;have h2:=wH m k;rw[Yk,jaw n m k,uF,uF];generalize (2:Int) ^ k=q at *;cases bt n k<;>cases bt m k<;>simp<;>omega
theorem Kb {p q p' q':Nat->Bool}:∀ {k:Nat},(∀ i,i<k->p i=p' i/\q i=q' i)->Yk p q k=Yk p' q' k
 |0,_=>rfl
 |k+1,h=>by
  rw[Yk,Yk,(h k om).1,(h k om).2,Kb λi hi=>h i om]
def swp (w:Nat)(p q:Nat->Bool)(i:Nat):Bool:=if i=w - 1 then q i else p i
theorem jo5 {m:Int}(hw:1<=w)(h:Qe n n w)(k:Qe m m w):Yk (swp w (bt n) (bt m)) (swp w (bt m) (bt n)) w=decide (n<m):=by
 obtain⟨j,rfl⟩:∃ j,w=j+1:=⟨w - 1,om⟩;have e1:=Zy h hw;have e2:=Zy k hw;have s1:=WE h (η _);have s2:=WE k (η _);have b1:=wH n j;have b2:=wH m j;rw[Yk,Kb (p':=bt n) (q':=bt m) λi hi=>by
  unfold swp;rw[if_neg om,if_neg om];exact⟨rfl,rfl⟩,jaw]
 unfold swp;rw[QbI] at *;rw[uF,Qbp] at e1 e2;rw[if_pos rfl,if_pos rfl,s1,s2];rw[s1] at e1;rw[s2] at e2;generalize (2:Int) ^ j=q at *;by_cases n0:n<0<;>by_cases m0:m<0<;>simp[n0,m0] at e1 e2 ⊢<;>omega
def wd (lo hi:Int):Nat:=match (ω 32).find? λk=>decide (-(2 ^ k:Int)<=lo/\hi<2 ^ k) with
 |some k=>k+1
 |none=>0
theorem Qr {lo hi:Int}(h1 : -100000000<=lo)(h2:hi<=100000000):1<=wd lo hi/\wd lo hi<=32/\Qe lo hi (wd lo hi)/\∀ j,j<wd lo hi - 1->¬ (-(2 ^ j:Int)<=lo/\hi<2 ^ j):=by
 unfold wd;cases e:(ω 32).find? λk=>decide (-(2 ^ k:Int)<=lo/\hi<2 ^ k) with
 |none=>
  rw[List.find?_eq_none] at e;have:=e 27 dc;simp at this;omega
 |some k=>
  obtain⟨h3,aZ,bs,h4,h5⟩:=List.find?_eq_some_iff_append.1 e;have hk:k∈ω 32:=by rw[h4];simp
  have hk:=QaZ.1 hk;refine⟨by simp,by simp;omega,by simpa[Qe] using h3,λj hj=>?_⟩;have hl:aZ.length=k:=by
   have:(ω 32)[aZ.length]? = some k:=by rw[h4];simp
   rw[Qcb (by have:=congrArg List.length h4;simp at this;omega)] at this;simpa using this
  have:aZ[j]? = some j:=by
   have e2:(ω 32)[j]? = aZ[j]?:=by rw[h4,Qbt (by simp at hj;omega)]
   rw[<-e2,Qcb (by simp at hj;omega)]
  exact of_decide_eq_false (by simpa only[QaO] using h5 j (List.mem_of_getElem? this))
theorem jnf {lo hi:Int}(h1 : -100000000<=lo)(h2:hi<=100000000)(h3:lo<=n)(h4:n<=hi):wd n n<=wd lo hi:=by
 obtain⟨a1,a2,a3,a4⟩:=Qr (lo:=lo) (hi:=hi) h1 h2;obtain⟨b1,b2,b3,b4⟩:=Qr (lo:=n) (hi:=n) om om;rcases Qaq (wd lo hi) (wd n n) with h|h
 .exact absurd ⟨by have:=a3.1;omega,by have:=a3.2;omega⟩ (b4 (wd lo hi - 1) om)
 .exact h
open Go.Ev Go.RowKit
def bE (l:List AV):List AV:=[.lst l.length l]
def InB (s:St)(lo hi b0:Nat):List AV->List (List AV)->Prop
 |[],[]=>True
 |x :: xs,l :: ls=>(∃ c ex,x=.slice c 0 l.length l.length 1 ex/\Cl s c l/\lo<=c/\c<hi/\c≠b0/\l.all pc=true)/\InB s lo hi b0 xs ls
 |_,_=>False
section
variable {s s':St} {lo hi b0:Nat}
theorem InB.keep {hi' b1:Nat}(a:∀ c ds,lo<=c->c<hi->c≠b0->Cl s c ds->Cl s' c ds/\c<hi'/\c≠b1):∀ {xs:List AV} {ls:List (List AV)},InB s lo hi b0 xs ls->InB s' lo hi' b1 xs ls
 |[],[],_=>trivial
 |x :: xs,l :: ls,⟨⟨c,ex,h1,h2,h3,h4,h5,h6⟩,h7⟩=>have k:=a c l h3 h4 h5 h2;⟨⟨c,ex,h1,k.1,h3,k.2.1,k.2.2,h6⟩,InB.keep a h7⟩
 |[],_ :: _,h=>h.elim
 |_ :: _,[],h=>h.elim
theorem InB.app {x:AV}{l:List AV}(h:∃ c ex,x=.slice c 0 l.length l.length 1 ex/\Cl s c l/\lo<=c/\c<hi/\c≠b0/\l.all pc=true):∀ {xs:List AV} {ls:List (List AV)},InB s lo hi b0 xs ls->InB s lo hi b0 (xs ++ [x]) (ls ++ [l])
 |[],[],_=>⟨h,trivial⟩
 |y :: xs,k :: ls,q=>⟨q.1,InB.app h q.2⟩
 |[],_ :: _,q=>q.elim
 |_ :: _,[],q=>q.elim
theorem InB.fz {m d:Nat}(hm:m<=lo):∀ {xs:List AV} {ls:List (List AV)},InB s lo hi b0 xs ls->FzsD m (d+2) s xs (fl bE ls)
 |[],[],_=>FzsD.nil
 |x :: xs,l :: ls,⟨⟨c,ex,h1,C,h3,h4,_,h5⟩,h6⟩=>by
  subst h1;refine FzsD.cons (FzD.slice C.rw_ om om ?_) (InB.fz hm h6);rw[Qaz,Qak];exact FzsD.pc h5
 |[],_ :: _,h=>h.elim
 |_ :: _,[],h=>h.elim
theorem InB.len:∀ {xs:List AV} {ls:List (List AV)},InB s lo hi b0 xs ls->xs.length=ls.length
 |[],[],_=>rfl
 |x :: xs,l :: ls,h=>by rw[τ,τ,InB.len h.2]
 |[],_ :: _,h=>h.elim
 |_ :: _,[],h=>h.elim
def LB (lo hi:Nat)(s:St)(v:AV)(ls:List (List AV)):Prop:=(v=.nils/\ls=[])\/∃ b cs,v=.slice b 0 ls.length ls.length 1 false/\0<ls.length/\Cl s b cs/\lo<=b/\b<hi/\InB s lo hi b cs ls
variable {v:AV} {ls:List (List AV)}
theorem LB.keep {lo2 hi':Nat}(h:LB lo hi s v ls)(a:ApL lo2 s s')(hh:hi<=lo2)(h2:hi<=hi'):LB lo hi' s' v ls:=h.imp id λ⟨b,cs,h1,h0,C,h3,h4,I⟩=>⟨b,cs,h1,h0,a.cl _ _ om C,h3,om,I.keep λc ds _ k k2 D=>⟨a.cl c ds om D,om,k2⟩⟩
theorem LB.fz {m d:Nat}(h:LB lo hi s v ls)(hm:m<=lo):FzD m (d+3) s v (.lst ls.length (fl bE ls)):=by
 rcases h with ⟨rfl,rfl⟩|⟨b,cs,rfl,h0,C,h3,h4,I⟩
 .exact FzD.nils
 .have hl:=I.len;refine FzD.slice C.rw_ om om ?_;rw[Qaz,<-hl,Qak];exact I.fz hm
theorem LB.app {bytes bv xc c:Nat}{xx ex:Bool}{l:List AV}(h:LB lo hi s v ls)(C:Cl s bv [.slice c 0 l.length l.length 1 ex])(D:Cl s c l)(hp:l.all pc=true)(hcb:hi<=c)(hhi:lo<=hi)(hby:(ls.length+1) * bytes<=140737488355328)(h63:ls.length+1<=9223372036854775807) :
  ∃ v' s',(∀ K:AV->St->Prop,jk (JG 1 bytes v (.slice bv 0 1 xc 1 xx) s) K=K v' s')/\LB lo s'.nx s' v' (ls ++ [l])/\s.nx<=s'.nx/\s'.fr=s.fr/\∀ b,(b<lo\/hi<=b)->b<s.nx->jv s'.h b=jv s.h b:=by
 have hn:=D.lt;have hr:rats s.h bv 0 1=[.slice c 0 l.length l.length 1 ex]:=by have:=C.ratsP 1 0 hac;simpa using this
 have V:∃ cs,Lv lo hi s v ls.length cs 1/\cs.length=ls.length/\∀ s':St,(∀ c ds,lo<=c->c<hi->(∀ b n m x,v=.slice b 0 n m 1 x->c≠b)->Cl s c ds->Cl s' c ds)->InB s' lo (s.nx+1) s.nx cs ls:=by
  rcases h with ⟨rfl,rfl⟩|⟨b,cs,rfl,h0,C,h3,h4,I⟩
  .exact⟨[],Lv.nil,rfl,λ_ _=>trivial⟩
  .exact⟨cs,.inr ⟨b,rfl,h0,by have:=I.len;omega,C,h3,h4⟩,I.len,λs' a=>I.keep λc ds k1 k2 k3 E=>⟨a c ds k1 k2 (λb n m x e=>by injection e with e1;exact e1▸k3) E,om,om⟩⟩
 obtain⟨cs,V,hl,I⟩:=V;refine⟨_,_,λK=>Jt V dc hby h63 (by rw[C.len];exact η 1),?_,by rw[jm];omega,QM _ _ _,λb hb hn=>V.get s _ b hb hn⟩;rw[hr,jm];have W:=V.app (news:=[.slice c 0 l.length l.length 1 ex]) rfl om;rcases W with ⟨_,e,_⟩|⟨b,e,h0,h1,E,h3,h4⟩
 .exact absurd e (Nat.succ_ne_zero _)
 .have eb:b=s.nx:=by
   unfold apv at e;split at e<;>(injection e with e1;exact e1.symm)
  subst eb;refine .inr ⟨_,_,by rw[υ];exact e,by rw[υ];omega,E,om,om,InB.app ⟨c,ex,rfl,D.aps V (.inr hcb),om,om,om,hp⟩ (I _ λd ds k1 k2 k3 F=>?_)⟩;unfold Go.Sy.aps;split
  .rcases V with ⟨e,_⟩|⟨b',e,_⟩
   .cases e
   .have h1:=k3 _ _ _ _ e;injection e with e1
    exact F.apO om
  .exact F.nw _
end
end Go.Sy
end
noncomputable section
set_option maxRecDepth 100000
namespace Go.Sy
open Go.Ev Go.Proofs
variable {f:Nat->Bool}{w:Nat}{K:AV->St->Prop}{s:St}{vars:List VarT}
def zw9:XC:=(ou [IV 1 0,Ib 2 [.nils,.nils,.nils],OA 3] (Oy [o7 10 3 1,OG 11 37 10,oy 9 11,O8 12 9,O9 13 9,TR 12,oz 5 13] [oy 14 5,ON 15 .neq 14 oB,oy 16 15,Oh 17 16 4,Iu 18 16 (.lenS 17),Tr 19 16 .gtr 18 5000,On 20 16 Oi 19] 20 [IG 21 [.nils,.nils,.nils] [],o9 3 2 21,OA 3] (oX [oy 23 4,OL 24 36 23 (o4 [116,114,117,101]),oy 22 24,O8 25 22,O9 26 22,Ia 27 22 2,Ib 6 [.nils,.nils,.nils],ol 7 (.alloc (Tf oB oB oJ oB oB)),Ib 8 [oB,oB,oB],o9 3 6 25,o9 6 7 26,o9 3 8 27] (.dops [Tc 28 3 6 6 32 [],Tc 29 3 8 8 71 [],IJ (IG 30 [oB,oB,oB] []),IJ (ol 31 (.gen .eql 71 false 29 30)),To 32 31,IM (Iv 33 32 (.ldA 3 6)) 6 32 [],(IB (O7 34 (32,true) 33 [] [33]) 0 [(5,32)],I6),IJ (Iv 35 32 (o8 .leq 34 1000)),IJ (II 36 32 35 OI),T6 3 2 28 [],IJ (oz 3 36)]) .ret)))
def yw9:XF:=⟨[0],zw9,[(.cA 2 3),(.t 3)]⟩
theorem xw9:jx δ 9=some yw9:=Qa0
def jkN:XC:=(ou [IV 2 0,Tw] (IZ [OU 7,IU 8 7,OZ 9 2,oF 10 9,IU 11 10,IW 12 .eql 8 11,oz 5 12] (IY [IO 6] 0 (.seq (oM [oy 13 5,oy 14 13,Os 15 14 6,Os 16 14 1,Iv 17 14 (.len 16),Iv 18 14 (.bin .lss 15 17),On 19 14 18 OI] 19 .skip (.exit 0)) (IK 1 (.cops [Iw (OZ 22 2),O5 23 22,OE 24 6,Iw (Ih 25 7 23 24),Iw (TB 26 25),O5 27 26,OE 28 1,OE 29 6,Iw (TK 30 28 29),O5 31 30,Iw (IW 32 .leq 27 31),OE 33 32,Iw (Os 34 33 1),Iw (Os 35 33 6),Iw (Iv 36 33 (.idxS 1 34 35)),Iw (Td 37 33 36),Iw (Tv 38 33 0 2),Iw (Td 39 33 38),Iw (Os 40 33 6),Iw (Iv 41 33 (.idxS 7 39 40)),Iw (Tv 42 33 4 41),Iw (Td 43 33 42),Iw (Iv 44 33 (.bin .leq 37 43)),Iw (II 45 33 44 OI),Iw (oz 5 45)]) (TA 20 6 (IQ 21 20 1) 6 21)))) (OW 46 5 4 46)))
def jqq:XF:=⟨[0,1],jkN,[(.t 4)]⟩
theorem jvZ:jx δ 10=some jqq:=Qa0
def jkM:XC:=(OK [oK 0 .nilp] [ol 1 (.mkS 2 8 [Ox,Ox] Tb Tb),ol 2 .mkMap,IG 3 [.nils,.nils,.nilm] [((0,1),1),((2,1),2)],ol 4 (.box 3),oz 0 4])
def jqp:XF:=⟨[],jkM,[(.t 0)]⟩
theorem jvY:jx δ 11=some jqp:=Qa0
def jbV:XC:=(Oy [IV 2 0,Oz 4,IO 5] [o7 11 3 2,OU 12,OL 13 38 11 12,TH 14 13] 14 [Oz 4,Oq 5 191] (Ty [Oz 6] [OZ 15 2,Ot 16 15,IP 17 16,IO 18] 0 19 18 17 19 0 1 [oy 20 18,Ih 21 7 16 18,o7 22 7 21,Ib 8 [oJ,oB,oJ,oB,oB,oW,oB],oz 7 20,o9 7 8 22] (Oy [OU 24,oy 25 7,TK 26 24 25,oF 27 26,OG 28 39 27,oy 23 28,O8 29 23,O9 30 23,oz 9 29,oz 10 30] (T5 31 10 (Tt 32 31)) 32 [Oz 4,Oq 5 191] (.seq (ou [oy 34 9,TB 35 8,oF 36 35,oD 37 4 8,oF 38 37,OL 39 41 36 38,OL 40 40 34 39,oy 33 40,O8 41 33,O9 42 33,oz 9 41,oz 10 42] (ID (T5 43 10 (Tt 44 43)) 44 [Oz 4,Oq 5 191])) (.ops [oy 45 6,oy 46 9,TG 47 1 .nils [((0,1),46)],OT 48 1 24 45 47,oz 6 48]))) 49 18 1 18 49 (Tz 50 6 (TR 50) (IO 5))))
def jlw:XF:=⟨[0,1],jbV,[(.t 4),(.t 5)]⟩
theorem jra:jx δ 12=some jlw:=Qa0
def jkL:XC:=(ou [T8 6,Ib 7 [oB]] (Oy [o6 (.defer (oQ 42 []) [7])] [OU 10,IU 11 10,oy 12 2,IU 13 12,IA 14 .neq 11 13] 14 [T8 6,TV 7 (IR 191)] (IZ [oK 8 (Iy 1)] (Og [OU 15,IP 16 15,IO 17] 0 (Tx 18 17 16) 18 0 1 (oX (OW 19 17 9 19) (.seq (.cops [OE 20 1,OE 21 9,Iw (TK 22 20 21),O5 23 22,Iw (IU 24 23),OE 25 2,OE 26 9,Iw (TK 27 25 26),O5 28 27,Iw (IU 29 28),Iw (IA 30 .neq 24 29)]) (TC 30 [T8 6,TV 7 (IR 191)] .skip)) (.cops [Tp 31,OE 32 8,Tp 33,OE 34 1,OE 35 9,Iw (TK 36 34 35),O5 37 36,OE 38 2,OE 39 9,Iw (TK 40 38 39),O5 41 40,(Ig 42 45 [33,37,41],I6),Iw (O8 43 42),Iw (O9 44 42),(OL 45 43 43 44,I6),Iw (TG 46 2 Ox [((0,1),32),((1,1),45)]),(OL 47 44 31 46,I6),Iw (O8 48 47),Iw (O9 49 47),(OL 50 43 48 49,I6),Iw (oz 8 50)])) 51 17 1 17 51) (Tz 52 8 (oz 6 52) (TV 7 OM)))))
def jqo:XF:=⟨[0,1,2],jkL,[(.t 6),(.c1 7)]⟩
theorem jvX:jx δ 13=some jqo:=Qa0
def jkK:XC:=(ou [IV 4 1,T8 6,Ib 7 [oB]] (OK [o6 (.defer (oQ 42 []) [7])] [Iz 8,o7 9 3 4,IG 10 [.nilp,.nils,.nils,.nils] [((0,1),8),((1,3),9)],ol 11 (.box 10),oy 12 2,OL 13 46 11 12,oz 6 13,TV 7 OM]))
def jqn:XF:=⟨[0,1,2],jkK,[(.t 6),(.c1 7)]⟩
theorem jvW:jx δ 14=some jqn:=Qa0
def jkJ:XC:=(ou [OA 8,OA 9] (IZ [Iz 13,OU 14,oy 15 2,TG 16 1 Ox [((0,1),15)],Ig 17 47 [13,14,16],oy 12 17,O8 18 12,O9 19 12,oz 10 18,oz 11 19] (ID [oy 20 3,ON 21 .neq 20 oB,oy 22 21,Oh 23 22 11,Iu 24 22 (oH .neq 23 oB),T7 25 22 24,oy 26 25,Oh 27 26 10,TT 28 26 27,Tr 29 26 .neq 28 1,On 30 26 Oi 29] 30 [OA 8,OA 9]) [oy 31 10,TK 32 31 OM,oF 33 32,oz 8 33,oK 9 Io]))
def jqm:XF:=⟨[0,1,2,3],jkJ,[(.t 8),(.t 9)]⟩
theorem jvV:jx δ 15=some jqm:=Qa0
def jkI:XC:=(ou [Oz 6,IO 7] (Ty [Oz 8] [oz 13 2,IP 14 13,IO 15] 0 16 15 14 16 0 1 [TK 17 13 15,oF 18 17,oz 10 18] (Oy [Iz 20,OU 21,oy 22 10,Ig 23 48 [20,21,22],oy 19 23,O8 24 19,O9 25 19,oz 11 24,oz 12 25] (T5 26 12 (Tt 27 26)) 27 [Oz 6,Oq 7 191] (.ops [oy 28 8,oy 29 11,TG 30 1 oB [((0,1),29)],OT 31 1 8 28 30,oz 8 31])) 32 15 1 15 32 (Tz 33 8 (oz 6 33) (IO 7))))
def jql:XF:=⟨[0,1,2],jkI,[(.t 6),(.t 7)]⟩
theorem jvU:jx δ 16=some jql:=Qa0
def jkH:XC:=(Oy [Tw] [Iz 6,IU 7 6,OU 8,IU 9 8,IA 10 .neq 7 9] 10 [Tw] (Tq (Og [Iz 11,IP 12 11,IO 13] 0 (Tx 14 13 12) 14 0 1 (oX (OW 15 13 5 15) (.cops [Tp 16,OE 17 5,Iw (TK 18 16 17),O5 19 18,OE 20 1,OE 21 5,Iw (TK 22 20 21),O5 23 22,Iw (IA 24 .neq 19 23)]) (TC 24 [Tw] .skip)) 25 13 1 13 25) [oK 4 Io]))
def jqk:XF:=⟨[0,1],jkH,[(.t 4)]⟩
theorem jvT:jx δ 17=some jqk:=Qa0
def jkB:XC:=(Oy [IV 2 0,Tw] [OU 7,IU 8 7,OZ 9 2,oF 10 9,IU 11 10,IA 12 .neq 8 11] 12 [Tw] (Tq (Og [OZ 13 2,Ot 14 13,IP 15 14,IO 16] 0 (Tx 17 16 15) 17 0 1 (oX [oy 18 16,Ih 19 7 14 16,o7 20 7 19,Ib 6 [oJ,oB,oJ,oB,oB,oW,oB],oz 5 18,o9 7 6 20] (.cops [OE 21 1,OE 22 5,Iw (TK 23 21 22),O5 24 23,Iw (TB 25 6),O5 26 25,Iw (IW 27 .lss 24 26),OE 28 27,Iw (Oh 29 28 1),Iw (Oh 30 28 5),Iw (Iu 31 28 (.idxS 1 29 30)),Iw (OS 32 28 31),Iw (OV 33 28 4 6),Iw (OS 34 28 33),Iw (Iu 35 28 (.bin .gtr 32 34)),Iw (On 36 28 Oi 35)]) (TC 36 [Tw] .skip)) 37 16 1 16 37) [oK 4 Io]))
def jqe:XF:=⟨[0,1],jkB,[(.t 4)]⟩
theorem jvN:jx δ 38=some jqe:=Qa0
def jkA:XC:=(ou [Oz 2,IO 3] (Oy [Iz 7,Iz 8,OL 9 41 7 8,TR 9] (T5 10 4 (Ti 11 .eql 10)) 11 [Oz 2,Oq 3 111] (Ty (TA 12 4 (ol 13 (.mkS 1 4 [Ox] 12 12)) 5 13) (Tz 14 5 (IP 15 14) (IO 16)) 0 17 16 15 17 0 1 (OW 18 16 6 18) (.ops [oy 19 5,oy 20 6,Iz 21,oy 22 6,ol 23 (.shf .shr 21 22),Ii 24 .and 23 1,ol 25 (.cvt .u32 24),TK 26 19 20,TV 26 25]) 27 16 1 16 27 (Tz 28 5 (Tl 28) (IO 3)))))
def jqd:XF:=⟨[0],jkA,[(.t 2),(.t 3)]⟩
theorem jvM:jx δ 39=some jqd:=Qa0
def jkz:XC:=(Oy [Oz 4,IO 5] [Iz 7,TG 8 1 .nils [((0,1),7)],OG 9 73 8,ol 10 (I8 9),oy 11 10,Oh 12 11 1,Oh 13 11 0,TT 14 11 13,Iu 15 11 (.bin .lss 12 14),T7 16 11 15,oy 17 16,Oh 18 17 1,Tr 19 17 .gtr 18 32,On 20 17 Oi 19] 20 [Oz 4,Oq 5 111] (IZ [Iz 21,OG 22 74 21,oz 6 22] (Ie 0 (.seq (oM [oy 23 6,IU 24 23,OU 25,I5 26 24 25] 26 .skip (.exit 0)) (.block 1 (.ops [oy 27 6,Iz 28,Iz 29,IU 30 29,Ii 31 .sub 30 1,TK 32 28 31,oF 33 32,TG 34 1 Ox [((0,1),33)],OT 35 1 4 27 34,oz 6 35])))) (Tz 36 6 (TR 36) (IO 5))))
def jqc:XF:=⟨[0,1],jkz,[(.t 4),(.t 5)]⟩
theorem jvL:jx δ 40=some jqc:=Qa0
def jky:XC:=(Oy [IO 4] [Iz 7,OU 8,IA 9 .gtr 7 8] 9 [IO 4] (Tq (IY [Oq 5 1] 0 (.seq (oM (T5 10 5 (Th 11 .leq 10 32)) 11 .skip (.exit 0)) (IK 1 (ou [oy 14 5,Ii 15 .sub 14 1,ol 16 (.shf .shl Tb 15),oz 6 16] (ID [Iz 17,oy 18 6,ol 19 (.un .neg 18),IW 20 .geq 17 19,oy 21 20,Os 22 21 1,Os 23 21 6,Iv 24 21 (.bin .lss 22 23),On 25 21 24 OI] 25 (OW 26 5 4 26))) (TA 12 5 (IQ 13 12 1) 5 13)))) [IO 4]))
def jqb:XF:=⟨[0,1],jky,[(.t 4)]⟩
theorem jvK:jx δ 41=some jqb:=Qa0
def jkx:XC:=(IZ [T8 4] (Oo [OU 5,Tt 6 5] 6 [OU 7,ol 8 (.iface 40 7),o6 (.pan 8)]) (I4 (Iz 9) 4 9))
def jqa:XF:=⟨[0,1],jkx,[(.t 4)]⟩
theorem jvJ:jx δ 43=some jqa:=Qa0
def jkw:XC:=(Oy [T8 4,IO 5] [Iz 11,OU 12,OL 13 75 11 12,TH 14 13] 14 [T8 4,Oq 5 101] (Ty [oK 6 (Iy 1)] [oz 15 1,IP 16 15,IO 17] 0 18 17 16 18 0 1 [TK 19 15 17,oF 20 19,oz 8 20] (Oy [Iz 22,oy 23 6,oy 24 8,Ig 25 76 [22,23,24],oy 21 25,O8 26 21,O9 27 21,oz 9 26,oz 10 27] (T5 28 10 (Tt 29 28)) 29 (TA 30 10 (T8 4) 5 30) (.ops (OW 31 9 6 31))) 32 17 1 17 32 (Tz 33 6 (TR 33) (IO 5))))
def jp9:XF:=⟨[0,1],jkw,[(.t 4),(.t 5)]⟩
theorem jvI:jx δ 44=some jp9:=Qa0
def jkv:XC:=(ou [T8 6,IO 7] (Oy [Iz 16,OU 17,oy 18 2,Ig 19 77 [16,17,18,OM],oy 15 19,O8 20 15,O9 21 15,Ia 22 15 2,oz 8 20,oz 9 21,oz 10 22] (T5 23 10 (Tt 24 23)) 24 (TA 25 10 (T8 6) 7 25) (IZ [oy 26 8,IU 27 26,ol 28 (.mkS 1 4 [Ox] OM 27),oz 11 28] (Og (Tz 29 8 (IP 30 29) (IO 31)) 0 (Tx 32 31 30) 32 0 1 (oX (OW 33 31 12 33) (.cops [Tp 35,OE 36 8,OE 37 12,Iw (TK 38 36 37),O5 39 38,OE 40 9,OE 41 12,Iw (TK 42 40 41),O5 43 42,(Ig 44 78 [35,39,43],I6),OE 34 44,Iw (O8 45 34),Iw (O9 46 34),Iw (oz 13 45),Iw (oz 14 46)]) (.seq (ID (T5 47 14 (Tt 48 47)) 48 (TA 49 14 (T8 6) 7 49)) (.ops [oy 50 11,oy 51 13,TG 52 1 Ox [((0,1),51)],OT 53 1 4 50 52,oz 11 53]))) 54 31 1 31 54) [Iz 55,oy 56 11,OL 57 44 55 56,O8 58 57,O9 59 57,oz 6 58,oz 7 59])))
def jp8:XF:=⟨[0,1,2],jkv,[(.t 6),(.t 7)]⟩
theorem jvH:jx δ 45=some jp8:=Qa0
def jku:XC:=(oX [T8 4] (Oo [OU 8,IU 9 8,Iz 10,Ix 11 10,Tu 12 11,OZ 13 12,oF 14 13,IU 15 14,IA 16 .neq 9 15] 16 [ol 17 (.iface 40 (IR 191)),o6 (.pan 17)]) (Ty [oK 5 (Iy 1)] [Iz 18,Ix 19 18,Tu 20 19,OZ 21 20,Ot 22 21,IP 23 22,IO 24] 0 25 24 23 25 0 1 [oy 26 24,Ih 27 7 22 24,o7 28 7 27,Ib 7 [oJ,oB,oJ,oB,oB,oW,oB],oz 6 26,o9 7 7 28] (.dops [TO 29,IJ (Ix 30 29),IT 31 0 30,Tj 32 31 31 36,To 33 5,TO 34,IJ (OU 35),To 36 6,IJ (TK 37 35 36),Tj 38 37 37 58,IT 39 3 7,Tj 40 39 39 2,IT 41 4 7,Tj 42 41 41 2,(IB (Ig 43 79 [34,38,40,42]) 0 [(10,36)],I6),IJ (TG 44 2 Ox [((0,1),33),((1,1),43)]),(IB (OL 45 44 32 44) 0 [],I6),IJ (O8 46 45),IJ (O9 47 45),(IB (OL 48 43 46 47) 0 [],I6),IJ (oz 5 48)]) 49 24 1 24 49 (OW 50 5 4 50)))
def jp7:XF:=⟨[0,1],jku,[(.t 4)]⟩
theorem jvG:jx δ 46=some jp7:=Qa0
def jkt:XC:=(Oy [Oz 6,IO 7] [Iz 17,oy 18 2,OL 19 75 17 18,TH 20 19] 20 [Oz 6,Oq 7 101] (oX [Iz 21,Ix 22 21,OZ 23 22,oF 24 23,IU 25 24,ol 26 (.mkS 1 1 [oW] 25 25),Ib 8 [.nils],TV 8 26] (TN [Iz 27,Ix 28 27,Tu 29 28,Ot 30 29,IP 31 30,IO 32] 0 33 32 31 33 0 1 [oy 34 32,TK 35 30 32,oF 36 35,oz 9 34,oz 10 36] (.cops [O5 37 8,OE 38 10,Iw (ON 39 .quo 38 (Iy 2)),OE 40 9,OE 41 1,Iw (IU 42 41),Iw (IW 43 .lss 40 42),OE 44 43,Iw (Os 45 44 1),Iw (Os 46 44 9),Iw (Iv 47 44 (.idxS 1 45 46)),Iw (Td 48 44 47),Iw (II 49 44 48 OI),Iw (TK 50 37 39),Iw (TV 50 49)]) 51 32 1 32 51) (oX (I4 (ol 52 (.fn 80 [8])) 11 52) (TN [Iz 53,Ix 54 53,OZ 55 54,Ot 56 55,IP 57 56,IO 58] 2 59 58 57 59 2 3 [oy 60 58,Ih 61 2 56 58,o7 62 2 61,Ib 13 [Ox,Ox],oz 12 60,o9 2 13 62] (Id [o7 63 2 13,IG 64 [Ox,Ox] [],ow 65 (.gen .neq 166 false 63 64)] 65 (.dops [Tj 66 8 8 60,To 67 12,To 68 11,IJ (OO 69 2 1 13 OM),Tj 70 69 69 44,(IB (oS 71 none 68 [70]) 0 [(4,60)],I6),To 72 71,IJ (Os 73 72 11),IJ (Iv 74 72 (.idxA 2 1 13 Tb)),IM (Td 75 72 74) 74 44 [],(IB (oS 76 (some (72,true)) 73 [75]) 0 [(9,60)],I6),IJ (II 77 72 76 OI),IJ (TK 78 66 67),T6 1 78 77 []])) 79 58 1 58 79) (Ty [oy 80 2,IU 81 80,ol 82 (.mkS 1 1 [oW] OM 81),oz 14 82] [oz 83 2,IP 84 83,IO 85] 4 86 85 84 86 4 5 [TK 87 83 85,oF 88 87,oz 16 88] (.ops [oy 89 14,oy 90 11,oy 91 16,oS 92 none 90 [91],TG 93 1 oW [((0,1),92)],OT 94 1 1 89 93,oz 14 94]) 95 85 1 85 95 (Tz 96 14 (oz 6 96) (IO 7))))))
def jp6:XF:=⟨[0,1,2],jkt,[(.t 6),(.t 7)]⟩
theorem jvF:jx δ 47=some jp6:=Qa0
def jks:XC:=(Oy [IO 6,IO 7] [oy 13 2,TG 14 1 .nils [((0,1),13)],OG 15 73 14,TH 16 15] 16 [IO 6,Oq 7 111] (Oy [Iz 18,OU 19,oy 20 2,Ig 21 47 [18,19,20],oy 17 21,O8 22 17,O9 23 17,oz 8 22,oz 9 23] (T5 24 9 (Tt 25 24)) 25 (TA 26 9 (IO 6) 7 26) (oX [IO 10] (TN [oz 27 8,IP 28 27,IO 29] 0 30 29 28 30 0 1 [oy 31 29,TK 32 27 29,oF 33 32,oz 11 31,oz 12 33] (Oo [oz 34 12] 34 [oy 35 10,oy 36 11,ol 37 (.shf .shl Tb 36),IW 38 .add 35 37,oz 10 38]) 39 29 1 29 39) (Tq (Oo [oy 40 8,oy 41 8,IU 42 41,Ii 43 .sub 42 1,TK 44 40 43,Ot 45 44] 45 [oy 46 10,oy 47 8,IU 48 47,ol 49 (.shf .shl Tb 48),IW 50 .sub 46 49,oz 10 50]) (Tz 51 10 (oz 6 51) (IO 7))))))
def jp5:XF:=⟨[0,1,2],jks,[(.t 6),(.t 7)]⟩
theorem jvE:jx δ 48=some jp5:=Qa0
def jkn:XC:=(IZ [Oz 4] (Oo [OU 5,Tt 6 5] 6 [OU 7,ol 8 (.iface 40 7),o6 (.pan 8)]) (I4 (Iz 9) 4 9))
def jp0:XF:=⟨[0,1],jkn,[(.t 4)]⟩
theorem jvz:jx δ 53=some jp0:=Qa0
def jkm:XC:=(ou [T8 4,IO 5] (oX [OU 11,IU 12 11,ol 13 (.mkS 1 4 [Ox] OM 12),oz 6 13] (TN [oz 14 1,IP 15 14,IO 16] 0 17 16 15 17 0 1 [TK 18 14 16,oF 19 18,oz 8 19] (.ops [oy 20 6,oy 21 8,ON 22 .xor 21 (Iy 1),TG 23 1 Ox [((0,1),22)],OT 24 1 4 20 23,oz 6 24]) 25 16 1 16 25) (IZ [Iz 27,oy 28 6,OL 29 44 27 28,oy 26 29,O8 30 26,O9 31 26,oz 9 30,oz 10 31] (ID (T5 32 10 (Tt 33 32)) 33 (TA 34 10 (T8 4) 5 34)) [oy 35 9,ON 36 .xor 35 (Iy 1),TR 36,IO 5])))
def jpZ:XF:=⟨[0,1],jkm,[(.t 4),(.t 5)]⟩
theorem jvy:jx δ 61=some jpZ:=Qa0
def jkl:XC:=(OK [TU] [Iz 3,OL 4 106 3 (oQ 107 []),ol 5 (I8 4),Tl 5])
def jpY:XF:=⟨[0],jkl,[(.t 2)]⟩
theorem jvx:jx δ 73=some jpY:=Qa0
def jkk:XC:=(IZ [Oz 2] (ID [Iz 3,ow 4 (.gen .eql 58 true 3 (.c .nils))] 4 [Oz 2]) [TG 5 0 Ox [],Iz 6,OT 7 1 4 5 6,Tl 7])
def jpX:XF:=⟨[0],jkk,[(.t 2)]⟩
theorem jvw:jx δ 74=some jpX:=Qa0
def jkj:XC:=(OK [IV 2 0,Tw] [OU 5,ol 6 (.fn 109 [2]),OL 7 108 5 6,ol 8 (I8 7),TR 8])
def jpW:XF:=⟨[0,1],jkj,[(.t 4)]⟩
theorem jvv:jx δ 75=some jpW:=Qa0
def jki:XC:=(ou [T8 6,IO 7] (oX [OU 13,oy 14 2,ol 15 (.bi .min #[44,44] [13,14]),OU 16,oy 17 2,ol 18 (.bi .max #[44,44] [16,17]),oz 1 15,Tl 18] (.block 0 (.seq (oM [OU 20,ON 21 .eql 20 Ox,oz 19 21] 19 .skip (.ops [OU 22,ON 23 .xor 22 (Iy 1),oy 24 2,IW 25 .eql 23 24,oz 19 25])) (TC 19 [T8 6,IO 7] (.seq (oM [OU 27,ON 28 .eql 27 (Iy 1),oz 26 28] 26 .skip (.ops [OU 29,oy 30 2,IW 31 .eql 29 30,oz 26 31])) (TC 26 (Tz 32 2 (oz 6 32) (IO 7)) .skip))))) (oX [OU 33,oy 34 2,IG 35 [Ox,Ox] [((0,1),33),((1,1),34)],Ib 8 [Ox,Ox],o9 2 8 35] (.seq (.cops [Tp 37,La 38 37,Iw (oD 39 2 38),O5 40 39,Iw (o7 41 2 8),Iw (ol 42 (.look 91 40 41 true)),OE 36 42,Iw (O8 43 36),Iw (O9 44 36),Iw (oz 9 43),Iw (oz 10 44)]) (ID [oz 45 10] 45 (Tz 46 9 (oz 6 46) (IO 7)))) (IZ [Iz 48,o7 49 2 8,OL 50 110 48 49,oy 47 50,O8 51 47,O9 52 47,oz 11 51,oz 12 52] (Id (T5 53 12 (Ti 54 .eql 53)) 54 (.cops [Tp 55,La 56 55,Iw (oD 57 2 56),O5 58 57,Iw (o7 59 2 8),OE 60 11,Iw (o6 (.i (.upd 91 58 59 60)))])) [oy 61 11,oy 62 12,oz 6 61,oz 7 62]))))
def jpV:XF:=⟨[0,1,2],jki,[(.t 6),(.t 7)]⟩
theorem jvu:jx δ 76=some jpV:=Qa0
def jkh:XC:=(ou [Oz 8,Oz 9,IO 10] (Oy [OU 17,IU 18 17,oy 19 2,IU 20 19,ol 21 (.bi .max #[3,3] [18,20]),oy 22 3,IW 23 .add 21 22,oz 11 23] [OU 24,oy 25 2,TG 26 2 .nils [((0,1),24),((1,1),25)],OG 27 73 26,ol 28 (I8 27),oy 29 28,Oh 30 29 11,Tr 31 29 .gtr 30 32,On 32 29 Oi 31] 32 [Oz 8,Oz 9,Oq 10 111] (.seq (ou [Iz 33,OU 34,oy 35 2,TG 36 2 .nils [((0,1),34),((1,1),35)],OL 37 111 33 36,oz 12 37] (ID (T5 38 12 (Tt 39 38)) 39 [oy 40 12,Oz 8,Oz 9,oz 10 40])) (ou [OU 42,oy 43 11,OL 44 40 42 43,oy 41 44,O8 45 41,O9 46 41,oz 13 45,oy 14 46] (OK [oy 48 2,oy 49 11,OL 50 40 48 49,oy 47 50,O8 51 47,O9 52 47,oz 15 51,oy 16 52] [oy 53 13,oy 54 15,oz 8 53,oz 9 54,IO 10])))))
def jpU:XF:=⟨[0,1,2,3],jkh,[(.t 8),(.t 9),(.t 10)]⟩
theorem jvt:jx δ 77=some jpU:=Qa0
def jkg:XC:=(IZ [T8 6,IO 7] (ID [Iz 8,oy 9 2,TG 10 1 Ox [((0,1),9)],OL 11 75 8 10,TH 12 11] 12 [T8 6,Oq 7 101]) [Iz 13,OU 14,oy 15 2,oy 16 2,ON 17 .xor 16 (Iy 1),Ig 18 112 [13,14,15,17],O8 19 18,O9 20 18,oz 6 19,oz 7 20])
def jpT:XF:=⟨[0,1,2],jkg,[(.t 6),(.t 7)]⟩
theorem jvs:jx δ 78=some jpT:=Qa0
def jkf:XC:=(oX [T8 8] (.dops [TO 11,IJ (Ix 12 11),IT 13 0 12,Tj 14 13 13 36,IJ (OU 15),To 16 2,(Ts 17 39 16 0 [(2,36)],I6),IJ (O8 18 17),IJ (O9 19 17),(IB (OL 20 53 18 19) 0 [(5,36)],I6),(IB (Ig 21 113 [14,15,20]) 0 [],I6),IJ (O8 22 21),IJ (O9 23 21),(IB (OL 24 43 22 23) 0 [],I6),IJ (oz 9 24)]) (OQ [TO 25,IJ (Ix 26 25),IT 27 0 26,Tj 28 27 27 36,To 29 3,(Ts 30 39 29 0 [(1,36)],some [TM 30,TM 31,TM 32,TM 33,Om 34 1 0,TM 35,TM 36,TM 37,TM 38,Ic (oK 10 IH) 0]),IJ (O8 31 30),IJ (O9 32 30),(IB (OL 33 53 31 32) 0 [(4,36)],some [TM 33,Om 34 1 0,TM 35,TM 36,TM 37,TM 38,Ic (oK 10 IH) 0]),IJ (OU 34),(IB (Ig 35 113 [28,33,34]) 0 [],I6),IJ (O8 36 35),IJ (O9 37 35),(IB (OL 38 43 36 37) 0 [],I6),IJ (oz 10 38)] (o3 [Iz 39,Ix 40 39,OZ 41 40,oF 42 41,oy 43 9,ON 44 .xor 43 (Iy 1),oy 45 10,ON 46 .xor 45 (Iy 1),TG 47 2 Ox [((0,1),44),((1,1),46)],OL 48 44 42 47,O8 49 48,O9 50 48,OL 51 43 49 50,oz 8 51])))
def jpS:XF:=⟨[0,1,2,3],jkf,[(.t 8)]⟩
theorem jvr:jx δ 79=some jpS:=Qa0
def jke:XC:=(OK [OA 3] [oF 4 1,Iz 5,ON 6 .quo 5 (Iy 2),TK 7 4 6,oF 8 7,Iz 9,ON 10 .rem 9 (Iy 2),ON 11 .eql 10 (Iy 1),ol 12 (.gen .neq 4 false 8 11),oz 3 12])
def jpR:XF:=⟨[0,1],jke,[(.t 3)]⟩
theorem jvq:jx δ 80=some jpR:=Qa0
def jfN:XC:=(OK [Tw] [Iz 5,OU 6,OL 7 143 5 6,ON 8 .geq 7 oB,TR 8])
def jm9:XF:=⟨[0,1],jfN,[(.t 4)]⟩
theorem jt4:jx δ 106=some jm9:=Qa0
def jfM:XC:=(OK [TU] [Iz 3,IU 4 3,Ii 5 .lss 4 1,oy 6 5,Oh 7 6 0,TT 8 6 7,Tr 9 6 .gtr 8 32,T7 10 6 9,Tl 10])
def jm8:XF:=⟨[0],jfM,[(.t 2)]⟩
theorem jt3:jx δ 107=some jm8:=Qa0
def jfL:XC:=(OK [Tw] [Iz 5,OU 6,OL 7 144 5 6,ON 8 .geq 7 oB,TR 8])
def jm7:XF:=⟨[0,1],jfL,[(.t 4)]⟩
theorem jt2:jx δ 108=some jm7:=Qa0
def jfK:XC:=(OK [OA 3] [Iz 4,ON 5 .quo 4 (Iy 2),ol 6 (.cvt .i64 5),oF 7 1,Ix 8 7,OZ 9 8,oF 10 9,IU 11 10,IW 12 .geq 6 11,oz 3 12])
def jm6:XF:=⟨[0,1],jfK,[(.t 3)]⟩
theorem jt1:jx δ 109=some jm6:=Qa0
def jfI:XC:=(Ty [IO 4] [OU 7,oE 8 true none (oQ 145 []) [7],IP 9 8,IO 10] 0 11 10 9 11 0 1 [TK 12 8 10,oF 13 12,oz 6 13] (ID [oy 14 6,ON 15 .quo 14 (Iy 2),ol 16 (.cvt .i64 15),Iz 17,OG 18 146 17,IA 19 .geq 16 18] 19 [Oq 4 101]) 20 10 1 10 20 [IO 4])
def jm4:XF:=⟨[0,1],jfI,[(.t 4)]⟩
theorem jtZ:jx δ 111=some jm4:=Qa0
def jfH:XC:=(Oy [T8 8,IO 9] [Iz 13,OU 14,oy 15 2,oy 16 3,TG 17 3 Ox [((0,1),14),((1,1),15),((2,1),16)],OL 18 75 13 17,TH 19 18] 19 [T8 8,Oq 9 101] (Oy [Iz 21,OU 22,oy 23 2,TG 24 2 Ox [((0,1),22),((1,1),23)],OL 25 44 21 24,oy 20 25,O8 26 20,O9 27 20,oz 10 26,oz 11 27] (T5 28 11 (Tt 29 28)) 29 (TA 30 11 (T8 8) 9 30) (IZ [Iz 32,OU 33,ON 34 .xor 33 (Iy 1),oy 35 3,TG 36 2 Ox [((0,1),34),((1,1),35)],OL 37 44 32 36,oy 31 37,O8 38 31,O9 39 31,oz 12 38,oz 11 39] (ID (T5 40 11 (Tt 41 40)) 41 (TA 42 11 (T8 8) 9 42)) [Iz 43,oy 44 10,oy 45 12,TG 46 2 Ox [((0,1),44),((1,1),45)],OL 47 61 43 46,O8 48 47,O9 49 47,oz 8 48,oz 9 49])))
def jm3:XF:=⟨[0,1,2,3],jfH,[(.t 8),(.t 9)]⟩
theorem jtY:jx δ 112=some jm3:=Qa0
def jfG:XC:=(ou [T8 6,IO 7] (Oy [Iz 17,OU 18,oy 19 2,Ig 20 77 [17,18,19,OM],oy 16 20,O8 21 16,O9 22 16,Ia 23 16 2,oz 8 21,oz 9 22,oz 10 23] (T5 24 10 (Tt 25 24)) 25 (TA 26 10 (T8 6) 7 26) (oX [oy 27 8,IU 28 27,Ii 29 .sub 28 1,T8 11,oz 12 29] (.cops [OE 30 8,OE 31 12,OE 32 9,OE 33 12,OE 34 9,OE 35 12,Iw (TK 36 34 35),O5 37 36,OE 38 8,OE 39 12,Iw (TK 40 38 39),O5 41 40,Iw (TK 42 30 31),Iw (TV 42 37),Iw (TK 43 32 33),Iw (TV 43 41)]) (Tq (Og (Tz 44 8 (IP 45 44) (IO 46)) 0 (Tx 47 46 45) 47 0 1 (oX (OW 48 46 13 48) (.cops [Tp 50,OE 51 8,OE 52 13,Iw (TK 53 51 52),O5 54 53,OE 55 9,OE 56 13,Iw (TK 57 55 56),O5 58 57,(Ig 59 78 [50,54,58],I6),OE 49 59,Iw (O8 60 49),Iw (O9 61 49),Iw (oz 14 60),Iw (oz 15 61)]) (.seq (ID (T5 62 15 (Tt 63 62)) 63 (TA 64 15 (T8 6) 7 64)) (ou [Iz 66,oy 67 14,oy 68 11,oy 69 9,oy 70 13,TK 71 69 70,oF 72 71,Ig 73 112 [66,67,68,72],oy 65 73,O8 74 65,O9 75 65,oz 11 74,oz 15 75] (ID (T5 76 15 (Tt 77 76)) 77 (TA 78 15 (T8 6) 7 78))))) 79 46 1 46 79) (Tz 80 11 (oz 6 80) (IO 7))))))
def jm2:XF:=⟨[0,1,2],jfG,[(.t 6),(.t 7)]⟩
theorem jtX:jx δ 113=some jm2:=Qa0
def jtQ:XC:=(Ty [IO 4] [Iz 6,IP 7 6,IO 8] 0 9 8 7 9 0 1 (OW 10 8 5 10) (ID [OU 11,Iz 12,oy 13 5,TK 14 12 13,oF 15 14,oE 16 true none 11 [15]] 16 (OW 17 5 4 17)) 18 8 1 8 18 [Oq 4 (-(0+1))])
def jtR:XF:=⟨[0,1],jtQ,[(.t 4)]⟩
theorem jtW:jx δ 143=some jtR:=Qa0
def jfF:XC:=(Ty [IO 4] [Iz 6,IP 7 6,IO 8] 0 9 8 7 9 0 1 (OW 10 8 5 10) (ID [OU 11,Iz 12,oy 13 5,TK 14 12 13,oF 15 14,oE 16 true none 11 [15]] 16 (OW 17 5 4 17)) 18 8 1 8 18 [Oq 4 (-(0+1))])
def K1:XF:=⟨[0,1],jfF,[(.t 4)]⟩
theorem jtV:jx δ 144=some K1:=Qa0
def jfE:XC:=(ou [Oz 2] (oX [IO 3] (TN [oz 9 0,IP 10 9,IO 11] 0 12 11 10 12 0 1 [TK 13 9 11,oF 14 13,oz 5 14] (ou [oy 15 3,oy 16 5,IU 17 16,IW 18 .add 15 17,oz 3 18] (Oo (T5 19 3 (Ti 20 .lss 19)) 20 [ol 21 (.iface 9 (o4 [108,101,110,32,111,117,116,32,111,102,32,114,97,110,103,101])),o6 (.pan 21)])) 22 11 1 11 22) (Ty (TA 23 3 (OL 24 178 (.c .nils) 23) 6 24) [oz 25 0,IP 26 25,IO 27] 2 28 27 26 28 2 3 [TK 29 25 27,oF 30 29,oz 8 30] (.ops [oy 31 6,oy 32 8,OT 33 1 4 31 32,oz 6 33]) 34 27 1 27 34 (OW 35 6 2 35))))
def jm1:XF:=⟨[0],jfE,[(.t 2)]⟩
theorem jtU:jx δ 145=some jm1:=Qa0
def jfD:XC:=(OK [IO 2] [Iz 3,Ix 4 3,OZ 5 4,oF 6 5,IU 7 6,Tl 7])
def jm0:XF:=⟨[0],jfD,[(.t 2)]⟩
theorem jtT:jx δ 146=some jm0:=Qa0
def jfC:XC:=(oX [Oz 4] (Oo [OU 5,Ti 6 .lss 5] 6 [ol 7 (.iface 9 (o4 [99,97,110,110,111,116,32,98,101,32,110,101,103,97,116,105,118,101])),o6 (.pan 7)]) (Tq (ou [OU 8,Iz 9,ol 10 (.bi .cap #[58] [9]),Iz 11,IU 12 11,IW 13 .sub 10 12,IW 14 .sub 8 13,oz 1 14] (Oo [OU 15,Ti 16 .gtr 15] 16 [Iz 17,Iz 18,ol 19 (.bi .cap #[58] [18]),ol 20 (.slS 1 17 none (some 19)),OU 21,ol 22 (.bi .append #[58,3] [20,21]),Iz 23,IU 24 23,ol 25 (.slS 1 22 none (some 24)),oz 0 25])) (I4 (Iz 26) 4 26)))
def jmZ:XF:=⟨[0,1],jfC,[(.t 4)]⟩
theorem jtS:jx δ 178=some jmZ:=Qa0
def jkG:XC:=(ou [IV 3 1,Oz 4,IO 5] (Ty [Oz 6] [OZ 11 3,Ot 12 11,IP 13 12,IO 14] 0 15 14 13 15 0 1 [Ih 16 7 12 14,o7 17 7 16,Ib 8 [oJ,oB,oJ,oB,oB,oW,oB],o9 7 8 17] (Oy [Iz 19,TB 20 8,oF 21 20,oD 22 4 8,oF 23 22,OL 24 41 21 23,OL 25 49 19 24,oy 18 25,O8 26 18,O9 27 18,oz 9 26,oz 10 27] (T5 28 10 (Tt 29 28)) 29 [Oz 4,Oq 5 191] (.ops [oy 30 6,oy 31 9,TG 32 1 .nils [((0,1),31)],OT 33 1 24 30 32,oz 6 33])) 34 14 1 14 34 (Tz 35 6 (TR 35) (IO 5))))
def jqj:XF:=⟨[0,1],jkG,[(.t 4),(.t 5)]⟩
theorem jvS:jx δ 18=some jqj:=Qa0
def jkF:XC:=(ou [IV 1 0,Oz 2] (Ty (I4 (TG 6 0 oB []) 3 6) [OZ 7 1,Ot 8 7,IP 9 8,IO 10] 0 11 10 9 11 0 1 [Ih 12 7 8 10,o7 13 7 12,Ib 5 [oJ,oB,oJ,oB,oB,oW,oB],o9 7 5 13] (.ops [oy 14 3,TB 15 5,oF 16 15,oD 17 4 5,oF 18 17,OL 19 50 16 18,TG 20 1 oB [((0,1),19)],OT 21 1 8 14 20,oz 3 21]) 22 10 1 10 22 (OW 23 3 2 23)))
def jqi:XF:=⟨[0],jkF,[(.t 2)]⟩
theorem jvR:jx δ 19=some jqi:=Qa0
def jkE:XC:=(ou [IV 2 0,Oz 4] (Ty (I4 (TG 9 0 oB []) 5 9) [o7 10 3 2,oE 11 true none (oQ 19 []) [10],IP 12 11,IO 13] 0 14 13 12 14 0 1 [oy 15 13,TK 16 11 13,oF 17 16,oz 6 15,oz 7 17] (oX [IO 8] (Oo [oy 18 6,OU 19,IU 20 19,I5 21 18 20] 21 [OU 22,oy 23 6,TK 24 22 23,oF 25 24,oy 26 7,OL 27 51 25 26,oz 8 27]) (.ops [oy 28 5,oy 29 8,TG 30 1 oB [((0,1),29)],OT 31 1 8 28 30,oz 5 31])) 32 13 1 13 32 (OW 33 5 4 33)))
def jqh:XF:=⟨[0,1],jkE,[(.t 4)]⟩
theorem jvQ:jx δ 20=some jqh:=Qa0
def jkD:XC:=(ou [IV 2 0,Oz 4] (Ty (I4 (TG 8 0 oW []) 5 8) [o7 9 3 2,oE 10 true none (oQ 19 []) [9],IP 11 10,IO 12] 0 13 12 11 13 0 1 [oy 14 12,TK 15 10 12,oF 16 15,oz 6 14,oz 7 16] (.ops [oy 17 5,OU 18,oy 19 6,TK 20 18 19,oF 21 20,oy 22 7,OL 23 52 21 22,OT 24 1 1 17 23,oz 5 24]) 25 12 1 12 25 (OW 26 5 4 26)))
def jqg:XF:=⟨[0,1],jkD,[(.t 4)]⟩
theorem jvP:jx δ 21=some jqg:=Qa0
def jkC:XC:=(ou [IV 4 1,T8 6,Ib 7 [oB]] (Te [o6 (.defer (oQ 42 []) [7])] [Iz 12,o7 13 3 4,IG 14 [.nilp,.nils,.nils,.nils] [((0,1),12),((1,3),13)],ol 15 (.box 14),oz 8 15] (Ty [oy 16 8,oy 17 2,OL 18 46 16 17,oz 9 18] [OZ 19 4,Ot 20 19,IP 21 20,IO 22] 0 23 22 21 23 0 1 [oy 24 22,Ih 25 7 20 22,o7 26 7 25,Ib 11 [oJ,oB,oJ,oB,oB,oW,oB],oz 10 24,o9 7 11 26] (Id [oD 27 5 11,Ot 28 27] 28 (.dops [TO 29,To 30 9,TO 31,To 32 2,To 33 10,IJ (TK 34 32 33),Tj 35 34 34 58,IT 36 6 11,Tj 37 36 36 2,(Ts 38 39 37 0 [(2,58)],I6),IJ (O8 39 38),IJ (O9 40 38),(IB (OL 41 53 39 40) 0 [(5,58)],I6),(IB (Ig 42 45 [31,35,41]) 0 [],I6),IJ (O8 43 42),IJ (O9 44 42),(IB (OL 45 43 43 44) 0 [],I6),IJ (TG 46 2 Ox [((0,1),30),((1,1),45)]),(IB (OL 47 44 29 46) 0 [],I6),IJ (O8 48 47),IJ (O9 49 47),(IB (OL 50 43 48 49) 0 [],I6),IJ (oz 9 50)])) 51 22 1 22 51 (Tz 52 9 (oz 6 52) (TV 7 OM)))))
def jqf:XF:=⟨[0,1,2],jkC,[(.t 6),(.c1 7)]⟩
theorem jvO:jx δ 22=some jqf:=Qa0
def jbU:XC:=(Oy [IV 2 0,Tw] [o7 7 3 2,OU 8,OL 9 10 7 8,TH 10 9] 10 [Tw] (Tq (Og [OZ 11 2,Ot 12 11,IP 13 12,IO 14] 0 (Tx 15 14 13) 15 0 1 (oX [oy 16 14,Ih 17 7 12 14,o7 18 7 17,Ib 6 [oJ,oB,oJ,oB,oB,oW,oB],oz 5 16,o9 7 6 18] (.cops [Iw (oD 19 5 6),O5 20 19,OE 21 20,Iw (Tv 22 21 6 6),Iw (Td 23 21 22),Iw (Os 24 21 1),Iw (Os 25 21 5),Iw (Iv 26 21 (.idxS 1 24 25)),Iw (Td 27 21 26),Iw (Iv 28 21 (.bin .neq 23 27)),Iw (On 29 21 28 OI)]) (TC 29 [Tw] .skip)) 30 14 1 14 30) [oK 4 Io]))
def jlv:XF:=⟨[0,1],jbU,[(.t 4)]⟩
theorem jq9:jx δ 23=some jlv:=Qa0
def jkr:XC:=(Oy [Oz 4,IO 5] [OU 10,Ii 11 .lss 10 1,oy 12 11,Oh 13 12 1,Tr 14 12 .gtr 13 32,On 15 12 Oi 14] 15 [Oz 4,Oq 5 111] (Ty [OU 16,ol 17 (.mkS 1 4 [Ox] 16 16),oz 6 17] (Tz 18 6 (IP 19 18) (IO 20)) 0 21 20 19 21 0 1 (OW 22 20 7 22) (Oy [Iz 24,OG 25 81 24,oy 23 25,O8 26 23,O9 27 23,oz 8 26,oz 9 27] (T5 28 9 (Tt 29 28)) 29 (TA 30 9 (Oz 4) 5 30) (.ops [oy 31 6,oy 32 7,oy 33 8,TK 34 31 32,TV 34 33])) 35 20 1 20 35 (Tz 36 6 (TR 36) (IO 5))))
def jp4:XF:=⟨[0,1],jkr,[(.t 4),(.t 5)]⟩
theorem jvD:jx δ 49=some jp4:=Qa0
def jkq:XC:=(Oy [IO 4] [Iz 6,OU 7,IA 8 .gtr 6 7] 8 [IO 4] (Tq (IY [Oq 5 1] 0 (.seq (oM (T5 9 5 (Th 10 .leq 9 32)) 10 .skip (.exit 0)) (IK 1 (ID [Iz 13,oy 14 5,Ii 15 .sub 14 1,OG 16 82 15,ol 17 (.un .neg 16),IW 18 .geq 13 17,oy 19 18,Os 20 19 1,Os 21 19 5,Iv 22 19 (o8 .sub 21 1),O7 23 (19,true) 82 [] [22],Iv 24 19 (o8 .sub 23 1),Iv 25 19 (.bin .leq 20 24),On 26 19 25 OI] 26 (OW 27 5 4 27)) (TA 11 5 (IQ 12 11 1) 5 12)))) [IO 4]))
def jp3:XF:=⟨[0,1],jkq,[(.t 4)]⟩
theorem jvC:jx δ 50=some jp3:=Qa0
def jkp:XC:=(ou [IO 4] (oX [Iz 6,OU 7,OG 8 82 7,IW 9 .rem 6 8,oz 5 9] (Oo (T5 10 5 (Ti 11 .lss 10)) 11 [oy 12 5,OU 13,OG 14 82 13,IW 15 .add 12 14,oz 5 15]) (Tq (Oo [oy 16 5,OU 17,Ii 18 .sub 17 1,OG 19 82 18,IA 20 .geq 16 19] 20 [oy 21 5,OU 22,OG 23 82 22,IW 24 .sub 21 23,oz 5 24]) (OW 25 5 4 25))))
def jp2:XF:=⟨[0,1],jkp,[(.t 4)]⟩
theorem jvB:jx δ 51=some jp2:=Qa0
def jko:XC:=(Te [Oz 4] (I4 (TG 8 0 oW []) 5 8) (oX [Iz 9,OU 10,OG 11 82 10,IW 12 .rem 9 11,oz 6 12] (Oo (T5 13 6 (Ti 14 .lss 13)) 14 [oy 15 6,OU 16,OG 17 82 16,IW 18 .add 15 17,oz 6 18]) (Tq (IY [IO 7] 0 (.seq (oM (Tz 19 7 (OU 20) (I5 21 19 20)) 21 .skip (.exit 0)) (IK 1 (ou [oy 24 5,oy 25 6,Ii 26 .rem 25 2,OP 27 26 1,TG 28 1 oW [((0,1),27)],OT 29 1 1 24 28,oz 5 29] (.ops (TA 30 6 (Ii 31 .quo 30 2) 6 31))) (TA 22 7 (IQ 23 22 1) 7 23)))) (OW 32 5 4 32))))
def jp1:XF:=⟨[0,1],jko,[(.t 4)]⟩
theorem jvA:jx δ 52=some jp1:=Qa0
def jkd:XC:=(ou [T8 2,IO 3] (IZ [Iz 7,IG 8 [Ox,Ox] [],OL 9 110 7 8,oy 6 9,O8 10 6,O9 11 6,TR 10,oz 5 11] (Oo (T5 12 5 (Ti 13 .eql 12)) 13 [Iz 14,Iz 15,Ix 16 15,Tu 17 16,oF 18 17,oy 19 4,TG 20 1 Ox [((0,1),19)],OT 21 1 4 18 20,Ix 22 14,Tu 23 22,TV 23 21]) [oy 24 4,oy 25 5,Tl 24,oz 3 25]))
def jpQ:XF:=⟨[0],jkd,[(.t 2),(.t 3)]⟩
theorem jvp:jx δ 81=some jpQ:=Qa0
def jkc:XC:=(ou [IO 2] (IZ [Oq 3 1] (Ie 0 (.seq (oM [Iz 4,Ti 5 .gtr 4] 5 .skip (.exit 0)) (IK 1 (.ops (TA 8 3 (IW 9 .mul (IR 2) 8) 3 9)) [Iz 6,Ii 7 .sub 6 1,oz 0 7]))) (OW 10 3 2 10)))
def jpP:XF:=⟨[0],jkc,[(.t 2)]⟩
theorem jvo:jx δ 82=some jpP:=Qa0
def jfJ:XC:=(Oy [IV 3 1,T8 4,IO 5] [Iz 6,Ix 7 6,OZ 8 7,oF 9 8,IU 10 9,Th 11 .geq 10 1048576] 11 [T8 4,Oq 5 101] (Tq (.cops [Tp 12,Tp 13,La 14 13,Iw (OZ 15 14),O5 16 15,Iw (o7 17 2 3),Iw (Ip 18 1 2 [Ox,Ox] [((0,2),17)]),Iw (OT 19 2 8 16 18),La 20 12,Iw (OZ 21 20),Iw (TV 21 19)]) [Iz 22,Ix 23 22,OZ 24 23,oF 25 24,IU 26 25,IW 27 .mul (IR 2) 26,Ii 28 .sub 27 2,ol 29 (.cvt .u32 28),TR 29,IO 5]))
def jm5:XF:=⟨[0,1],jfJ,[(.t 4),(.t 5)]⟩
theorem jt0:jx δ 110=some jm5:=Qa0
def jfO:XC:=(.block 0 (oM [ow 7 (.gen .eql 20 true 5 (.c .nilif))] 7 (.ops [oy 2 5]) (oM [ol 8 (.assert 5 40),ow 9 (.ext 8 1),ow 10 (.ext 8 0)] 9 (ou [oy 3 10] (.ops [Iz 11,Ix 12 11,TV 12 (IR 191)])) (ou [TR 5] (.ops (T5 6 4 (o6 (.pan 6))))))))
def jna:XH:=⟨[0],(some 5),true,[],jfO,[]⟩
theorem jt5:gX δ 42=some jna:=Qa0
variable {base:Bs}
def bi (b:Bool):Int:=if b=true then 1 else 0
abbrev eb (b:Bool):AV:=.int .u32 (bi b)
def bs (f:Nat->Bool)(w:Nat):List AV:=(ω w).map λi=>eb (f i)
theorem uj (f:Nat->Bool)(w:Nat):(bs f w).length=w:=by simp[bs]
theorem jvd (f:Nat->Bool)(w:Nat):(bs f w).all pc=true:=by simp[bs,pc,eb]
def bv (f:Nat->Bool)(w:Nat):AV:=.lst w (bs f w)
theorem joc {k:Nat}(h:k<w):(bs f w).getD k .bad=eb (f k):=by
 rw[Qab,bs,Qbf,Qcb h];rfl
theorem U9 (k:Nat):((2 ^ k:Nat):Int)=2 ^ k:=by simp
theorem HT (hb:NB base){lo hi:Int}(h1 : -100000000<=lo)(h2:hi<=100000000)(h:lo<=hi):Tot base 41 [.int .i64 lo,.int .i64 hi] (.int .i64 (wd lo hi:Int)):=by
 refine hb.tot ?_ rfl rfl;obtain⟨w1,w2,w3,w4⟩:=Qr h1 h2;unfold Qe at w3;generalize wd lo hi=w at *;have hlt:¬ hi<lo:=om
 refine jB jvK haa (hb.pur 41 1 dc) ?_;simp only[jqb,jj,ζ,θ,κ,μ];rw[(by unfold jky;simp only[qq];rfl:jky=_)];repeat' first|apply jb<;>intro _|simp(disch:=try exact dzA) only[hlt,rzZ,γ,ε]
 refine ye (λmm L s=>∃ k:Nat,1<=k/\k<=w/\mm=w - k/\Has L 0 (.int .i64 lo)/\Has L 1 (.int .i64 hi)/\Has L 5 (.int .i64 (k:Int))) ?_ (w - 1) ?_
 .rintro mm L s ⟨k,hk1,hk2,rfl,i0,i1,i5⟩;unfold um;have hk3:(k:Int)<=32:=om
  have eL:∀ (st:St) (K:AV->St->Prop),jk (WY .shl (.int .i64 1) (.int .i64 ((k:Int) - 1)) st) K=K (.int .i64 (2 ^ (k - 1))) st:=λst K=>by
   rw[show(k:Int) - 1=((k - 1:Nat):Int) by omega,jcl om,U9]
  have hq0:=p2 (k - 1);have hq:(2:Int) ^ (k - 1)<=4294967296:=by
   have:=Qbu (n:=2) dc (show k - 1<=32 by omega);rw[<-U9];omega
  by_cases e:k=w
  .rw[<-e] at w3;generalize (2:Int) ^ (k - 1)=q at *;have f1:=w3.1;have f2:=w3.2;repeat' first|apply jb<;>intro _|simp(disch:=try exact dzA) only[ja i0,ja i1,ja i5,eL,rzZ,γ,ε]
   exact G0.v (by rw[e]) rfl
  .have hn:=w4 (k - 1) om;generalize (2:Int) ^ (k - 1)=q at *;repeat' first|apply jb<;>intro _|simp(disch:=try exact dzA) only[ja i0,ja i1,ja i5,eL,rzZ,γ,ε]
   all_goals
    refine⟨w - (k+1),om,k+1,om,om,rfl,?_⟩;rw[show((k+1:Nat):Int)=(k:Int)+1 by omega];simp(disch:=decide) only[h12,i0,i1]
 .refine⟨1,om,w1,rfl,?_⟩;rw[show((1:Nat):Int)=1 from rfl];simp(disch:=decide) only[h12]
theorem jaY (a:Int):Za .and .i64 a 1=some ((a % 2).toNat:Int):=by
 have h1:(BitVec.ofInt 64 a &&& BitVec.ofInt 64 1).toNat=(a % 2).toNat:=by
  rw[BitVec.toNat_and,BitVec.toNat_ofInt,BitVec.toNat_ofInt];have:((1:Int) % ((2 ^ 64:Nat):Int)).toNat=1:=dc
  rw[this,Nat.and_one_is_mod];omega
 have h2:(a % 2).toNat<=1:=om
 show some (IntKind.i64.wrap ((BitVec.ofInt 64 a &&& BitVec.ofInt 64 1).toNat:Int))=_;rw[h1,IntWalk.i64_in _ ⟨om,om⟩]
theorem jrw {st:St}(a:Int):jk (yE .and (.int .i64 a) (.int .i64 1) st) K=K (.int .i64 ((a % 2).toNat:Int)) st:=by
 refine jbP ?_;show(KU .and .i64 a 1).map (AV.int .i64)=_;have:KU .and .i64 a 1=some ((a % 2).toNat:Int):=by
  cases a with
  |ofNat m=>
   show cond (QcC m (yW .i64)) (cond (QcC 1 (yW .i64)) (some (Qar (Nat.land m 1))) (Za .and .i64 (Qar m) 1)) (Za .and .i64 (Qar m) 1)=_;cases hb:QcC m (yW .i64)
   .exact jaY _
   .have e:QcC 1 (yW .i64)=true:=dc
    rw[e,cond_true,cond_true];have e2:Nat.land m 1=m % 2:=Nat.and_one_is_mod m;rw[e2]
    congr 1
  |negSucc m=>exact jaY _
 rw[this];rfl
theorem Made.cl {s':St}{n:Nat}{f:Nat->AV}{cs:List AV}(h:Made s s' n f)(hl:cs.length=n)(hc:∀ i,i<n->f i=cs.getD i .bad):Cl s' s.nx cs:=⟨by rw[h.nx];exact QaW _,h.row,h.len.trans hl.symm,λi hi=>(h.cell i om).trans (hc i om)⟩
theorem Made.apl {s':St}{n:Nat}{f:Nat->AV}(h:Made s s' n f):ApL s.nx s s':=⟨by rw[h.nx];omega,h.fr,λc hc _=>h.keep c om⟩
theorem jnJ (hw:w<=1000000)(hk:∀ s',Cl s' s.nx (bs (λ_=>false) w)->ApL s.nx s s'->s'.nx=s.nx+1->K (.slice s.nx 0 w w 1 true) s'):jk (jgA 1 4 [.int .u32 0] (.int .i64 (w:Int)) (.int .i64 (w:Int)) s) K:=
 ki (η _) om om λs' m=>hk s' (m.cl (by rw[uj,Qaz]) λi hi=>by rw[joc om,Nat.mod_one];rfl) m.apl m.nx
theorem jmF {g:Nat->Bool}(h:∀ i,i<w->f i=g i):bs f w=bs g w:=QaR λi hi=>by rw[h i (QaZ.1 hi)]
theorem jvc {b m d:Nat}{x:Bool}(C:Cl s b (bs f w))(hm:m<=b):FzD m (d+2) s (.slice b 0 w w 1 x) (bv f w):=by
 refine FzD.slice C.rw_ (by rw[uj];omega) hm ?_;rw[Qbb (by rw[uj];omega)];exact FzsD.pc (jvd f w)
theorem vh {v:AV}:∀ {l:List AV} {k:Nat},upd l k [v]=l.set k v
 |[],_=>rfl
 |c :: cs,0=>by cases cs<;>rfl
 |c :: cs,k+1=>by
  have:=vh (v:=v) (l:=cs) (k:=k);rw[List.set_cons_succ,<-this];rfl
theorem jtk {g:Nat->Bool}{k:Nat}{b:Bool}(hk:k<w)(h:∀ i,i<w->g i=if i=k then b else f i):upd (bs f w) k [eb b]=bs g w:=by
 rw[vh];refine Qbg (by simp[bs]) λi h1 h2=>?_;have hi:i<w:=by simpa[bs] using h2
 rw[List.getElem_set];have:=h i hi;by_cases e:k=i
 .rw[if_pos e];rw[if_pos e.symm] at this;simp[bs,this]
 .rw[if_neg e];rw[if_neg (λh=>e h.symm)] at this;simp[bs,this]
theorem jpM (hb:NB base){n:Int}(h1 : -100000000<=n)(h2:n<=100000000):Tot base 39 [.int .i64 n] (.tup [bv (bt n) (wd n n),.int .i64 0]):=by
 refine hb.tot ?_ rfl rfl;obtain⟨w1,w2,w3,w4⟩:=Qr h1 h2;have E:=HT hb h1 h2 (Int.le_refl n);generalize wd n n=w at *;have w0:¬ (w:Int)=0:=om
 refine jB jvM haa (hb.pur 39 1 dc) ?_;simp only[jqd,jj,ζ,θ,κ,μ];rw[(by unfold jkA;simp only[qq];rfl:jkA=_)];repeat' first|apply jb<;>intro _|simp(disch:=try exact dzA) only[E,w0,Vr,rzZ,γ,ε]
 refine jnJ om λs1 C1 a1 n1=>?_;have C1:Cl s1 0 (bs (λ_=>false) w):=C1;have n1:s1.nx=1:=n1;repeat' first|apply jb<;>intro _|simp(disch:=try exact dzA) only[rzZ,γ,ε]
 refine jU w (λk L s=>Cl s 0 (bs (λi=>decide (i<k) && bt n i) w)/\1<=s.nx/\Has L 0 (.int .i64 n)/\Has L 5 (.slice 0 0 w w 1 true)) ?_ (λk L s hk hI hi hn=>?_) (λL s hI=>?_)
 .refine⟨by simpa using C1,om,?_,?_⟩<;>exact hsX
 .obtain⟨C,n2,i0,i5⟩:=hI;have hl:jV s.h 0=w:=by rw[C.len,uj]
  have eB:∀ (st:St) (K:AV->St->Prop),jk (WY .shr (.int .i64 n) (.int .i64 (k:Int)) st) K=K (.int .i64 (n / 2 ^ k)) st:=λst K=>by
   rw[juc om,Int.fdiv_eq_ediv_of_nonneg _ (Int.le_of_lt (p2 k))]
  have eA:∀ (st:St) (K:AV->St->Prop),jk (yE .and (.int .i64 (n / 2 ^ k)) (.int .i64 1) st) K=K (.int .i64 (bi (bt n k))) st:=λst K=>by
   rw[jrw];unfold bt;have:n / 2 ^ k % 2=0\/n / 2 ^ k % 2=1:=om
   rcases this with e|e<;>rw[e]<;>rfl
  have eC:∀ (st:St) (K:AV->St->Prop),jk (UF .u32 (.int .i64 (bi (bt n k))) st) K=K (eb (bt n k)) st:=λst K=>by
   cases bt n k<;>rfl
  repeat' first|apply jb<;>intro _|simp(disch:=try exact dzA) only[ja i0,ja i5,ja hi,ja hn,eB,eA,eC,hl,rzZ,γ,ε]
  refine⟨⟨?_,n2,?_,?_⟩,?_,?_⟩
  .rw[<-jtk (f:=λi=>decide (i<k) && bt n i) (b:=bt n k) hk λi hi=>?_]
   .exact C.wr k _
   .by_cases e:i=k
    .subst e;simp
    .have:(i<k+1)=(i<k):=by rw[eq_iff_iff];omega
     simp[e,this]
  all_goals exact hsX
 .obtain⟨C,n2,i0,i5⟩:=hI;repeat' first|apply jb<;>intro _|simp(disch:=try exact dzA) only[ja i5,rzZ,γ,ε]
  refine FzD.tup (.cons (jvc (f:=bt n) ?_ (Qae _)) (.cons (.pc rfl) .nil));rw[jmF (g:=bt n) λi hi=>by simp[hi]] at C;simp only[jz];exact C
def yL (vars:List VarT)(s:Ld):Bool:=decide (s.length=vars.length) && (ω vars.length).all λi=>decide ((vars.getD i ⟨[],0,[],0,0,false,0⟩).lo<=s.getD i 0) && decide (s.getD i 0<=(vars.getD i ⟨[],0,[],0,0,false,0⟩).hi)
def svV (s:Ld):AV:=.lst s.length (s.map (.int .i64))
abbrev SvT:=Ld
theorem zU {s:Ld}:yL vars s=true↔s.length=vars.length/\∀ i (h1:i<vars.length) (h2:i<s.length),vars[i].lo<=s[i]/\s[i]<=vars[i].hi:=by
 unfold yL;rw[ψ,decide_eq_true_eq,Qah];refine⟨λ⟨a,b⟩=>⟨a,λi h1 h2=>?_⟩,λ⟨a,b⟩=>⟨a,λi hi=>?_⟩⟩
 .have:=b i (QaZ.2 h1);rw[Qab,Qad h1,Qab,Qad h2] at this;simpa using this
 .have h1:=QaZ.1 hi;have:=b i h1 om;rw[Qab,Qad h1,Qab,Qad (show i<s.length by omega)];simpa using this
theorem Z2 {s:Ld}(h:¬ (s.length=vars.length/\∀ i (h1:i<vars.length) (h2:i<s.length),vars[i].lo<=s[i]/\s[i]<=vars[i].hi)):yL vars s=false:=by
 rw[Qcd];exact λk=>h (zU.1 k)
theorem jcy (hb:NB base)(m:ModT)(sv:Ld)(hm:m.vars.length<=1000000)(hs:sv.length<=1099511627776):PL δ base 38 [.agg (mdE m),svV sv] (.ok (.bool (yL m.vars sv))):=by
 unfold svV;have hl:((sv.length:Int)=(m.vars.length:Int))=(sv.length=m.vars.length):=by rw[eq_iff_iff];omega
 refine yb jvN haa (hb.pur 38 5 dc) rfl ?_;simp only[jqe,jj,ζ,θ,κ,μ];rw[(by unfold jkB;simp only[qq];rfl:jkB=_)];repeat' first|apply jb<;>intro _|simp(disch:=try exact dzG) only[hl,r8,γ,ε]
 .rename_i h;exact G0.v (congrArg AV.bool (Z2 λk=>h k.1).symm) rfl
 .rename_i h;have h:sv.length=m.vars.length:=by simpa using h
  refine jU m.vars.length (λk L st=>(∀ j (h1:j<m.vars.length) (h2:j<sv.length),j<k->m.vars[j].lo<=sv[j]/\sv[j]<=m.vars[j].hi)/\1<=st.nx/\Has L 1 (.lst sv.length (sv.map (.int .i64)))/\Has L 14 (.lst m.vars.length (fl vaE m.vars))) ?_ (λk L s hk hI hi hn=>?_) (λL s hI=>?_)
  .refine⟨λj h1 h2 hj=>absurd hj (QaI _),nxX,?_,?_⟩<;>exact hsX
  .obtain⟨h0,n1,i1,i14⟩:=hI;have hks:k<sv.length:=om
   repeat' first|apply jb<;>intro _|simp(disch:=try exact dzG) only[ja i1,ja i14,ja hi,ja hn,Q8,r8,γ,ε]
   .rename_i h3;refine G0.v (congrArg AV.bool (Z2 λw=>?_).symm) rfl;have:=(w.2 k hk hks).1;omega
   .rename_i h3 h4;refine G0.v (congrArg AV.bool (Z2 λw=>?_).symm) rfl;have:=(w.2 k hk hks).2;omega
   .rename_i h3 h4;refine⟨⟨λj h1 h2 hj=>?_,om,?_,?_⟩,?_,?_⟩
    .by_cases e:j=k
     .subst e;omega
     .exact h0 j h1 h2 om
    all_goals exact hsX
  .obtain⟨h0,n1,i1,i14⟩:=hI;repeat' first|apply jb<;>intro _|simp(disch:=try exact dzG) only[r8,γ,ε]
   exact G0.v (congrArg AV.bool (zU.2 ⟨h,λi h1 h2=>h0 i h1 h2 h1⟩).symm) rfl
theorem jph (hb:NB base)(a b:Ld)(ha:a.length<=1099511627776)(hb2:b.length<=1099511627776):PX δ base 17 [svV a,svV b] (.ok (.bool (decide (a=b)))):=by
 unfold svV;have hl:((a.length:Int)=(b.length:Int))=(a.length=b.length):=by rw[eq_iff_iff];omega
 refine jB jvT haa (hb.pur 17 1 dc) ?_;simp only[jqk,jj,ζ,θ,κ,μ];rw[(by unfold jkH;simp only[qq];rfl:jkH=_)];repeat' first|apply jb<;>intro _|simp(disch:=try exact dzG) only[hl,r8,γ,ε]
 .rename_i h;exact G0.v (congrArg AV.bool (decide_eq_false λk=>h (by rw[k])).symm) rfl
 .rename_i h;have h:a.length=b.length:=by simpa using h
  refine jU a.length (λk L st=>(∀ j (h1:j<a.length) (h2:j<b.length),j<k->a[j]=b[j])/\Has L 0 (.lst a.length (a.map (.int .i64)))/\Has L 1 (.lst b.length (b.map (.int .i64)))) ?_ (λk L s hk hI hi hn=>?_) (λL s hI=>?_)
  .refine⟨λj h1 h2 hj=>absurd hj (QaI _),?_,?_⟩<;>exact hsX
  .obtain⟨h0,i0,i1⟩:=hI;have hks:k<b.length:=om
   repeat' first|apply jb<;>intro _|simp(disch:=try exact dzG) only[ja i0,ja i1,ja hi,ja hn,Q8,r8,γ,ε]
   .rename_i h3;exact G0.v (congrArg AV.bool (decide_eq_false λw=>h3 (by subst w;rfl)).symm) rfl
   .rename_i h3;refine⟨⟨λj h1 h2 hj=>?_,?_,?_⟩,?_,?_⟩
    .by_cases e:j=k
     .subst e;simpa using h3
     .exact h0 j h1 h2 om
    all_goals exact hsX
  .obtain⟨h0,i0,i1⟩:=hI;repeat' first|apply jb<;>intro _|simp(disch:=try exact dzG) only[r8,γ,ε]
   exact G0.v (congrArg AV.bool (decide_eq_true (Qbg h λi h1 h2=>h0 i h1 h2 h1)).symm) rfl
theorem jn7 (hb:NB base)(a b:Ld)(ha:a.length<=1099511627776)(hb2:b.length<=1099511627776):Tot base 17 [svV a,svV b] (.bool (decide (a=b))):=hb.tot (jph hb a b ha hb2) rfl rfl
theorem UO (hb:NB base)(m:ModT)(sv:SvT)(hm:m.vars.length<=1000000)(hs:sv.length<=1099511627776):Tot base 10 [.agg (mdE m),svV sv] (.bool (yL m.vars sv)):=by
 refine hb.tot ?_ (by unfold svV;simp[pa,pc,Je,Wv]) rfl;unfold svV;have hl:((sv.length:Int)=(m.vars.length:Int))=(sv.length=m.vars.length):=by rw[eq_iff_iff];omega
 refine jB jvZ haa (hb.pur 10 1 dc) ?_;simp only[jqq,jj,ζ,θ,κ,μ];rw[(by unfold jkN;simp only[qq];rfl:jkN=_)];repeat' first|apply jb<;>intro _|simp(disch:=try exact dzG) only[hl,r8,γ,ε]
 refine ye (λmm L s=>∃ (k:Nat) (q:Bool),k<=sv.length/\mm=sv.length - k/\(0<k->sv.length=m.vars.length)/\(q=true↔sv.length=m.vars.length/\∀ j (h1:j<m.vars.length) (h2:j<sv.length),j<k->m.vars[j].lo<=sv[j]/\sv[j]<=m.vars[j].hi)/\1<=s.nx/\Cl s 0 (mdE m)/\Has L 1 (.lst sv.length (sv.map (.int .i64)))/\Has L 2 (.ptr 0 0)/\Has L 5 (.bool q)/\Has L 6 (.int .i64 (k:Int))) ?_ sv.length ?_
 .rintro mm L s ⟨k,q,hk,rfl,h1,h2,n1,C0,i1,i2,i5,i6⟩;unfold um;by_cases hlt:k<sv.length
  .have hlt':(k:Int)<(sv.length:Int):=om
   have e1:((k+1:Nat):Int)=(k:Int)+1:=om
   cases q with
   |false=>
    (have zz:=C0.r;repeat' first|apply jb<;>intro _|simp(disch:=try exact j9) only[ja i1,ja i2,ja i5,ja i6,hlt',C0.q,C0.r,r8,γ,ε])
    refine G0.v (congrArg AV.bool (Z2 λw=>?_).symm) rfl;exact absurd (h2.2 ⟨w.1,λj a b _=>w.2 j a b⟩) dc
   |true=>
    have hq:=h2.1 rfl;have hkv:k<m.vars.length:=om
    (have zz:=C0.r;repeat' first|apply jb<;>intro _|simp(disch:=try exact j9) only[ja i1,ja i2,ja i5,ja i6,hlt',Q8,C0.q,C0.r,r8,γ,ε])
    .rename_i h3;refine⟨sv.length - (k+1),om,k+1,decide (sv[k]<=m.vars[k].hi),om,rfl,λ_=>hq.1,?_,n1,C0,?_,?_,?_,?_⟩
     .rw[decide_eq_true_eq];refine⟨λh=>⟨hq.1,λj a b hj=>?_⟩,λh=>(h.2 k hkv hlt om).2⟩;by_cases e:j=k
      .subst e;exact⟨h3,h⟩
      .exact hq.2 j a b om
     all_goals first
      |(rw[e1];simp(disch:=decide) only[je,jn];done)
      |(simp(disch:=decide) only[je,jn];done)
      |(simp(disch:=decide) only[je];assumption)
    .rename_i h3;refine⟨sv.length - (k+1),om,k+1,false,om,rfl,λ_=>hq.1,?_,n1,C0,?_,?_,?_,?_⟩
     .exact⟨(λh=>by cases h),λh=>absurd (h.2 k hkv hlt om).1 h3⟩
     all_goals first
      |(rw[e1];simp(disch:=decide) only[je,jn];done)
      |(simp(disch:=decide) only[je,jn];done)
      |(simp(disch:=decide) only[je];assumption)
  .have hlt':¬ (k:Int)<(sv.length:Int):=om
   have hke:k=sv.length:=om
   have hqr:yL m.vars sv=q:=by
    cases q with
    |true=>exact zU.2 ⟨(h2.1 rfl).1,λj a b=>(h2.1 rfl).2 j a b om⟩
    |false=>exact Z2 λw=>absurd (h2.2 ⟨w.1,λj a b _=>w.2 j a b⟩) dc
   rw[hqr]
   (have zz:=C0.r;repeat' first|apply jb<;>intro _|simp(disch:=try exact j9) only[ja i1,ja i2,ja i5,ja i6,hlt',C0.q,C0.r,r8,γ,ε])
   all_goals exact G0.v rfl rfl
 .refine⟨0,decide (sv.length=m.vars.length),om,rfl,λh=>absurd h (Qba _),?_,nxX,by(try exact cyG),?_,?_,?_,?_⟩
  .rw[decide_eq_true_eq];exact⟨λh=>⟨h,λj a b hj=>absurd hj (QaI _)⟩,λh=>h.1⟩
  all_goals first
   |(simp(disch:=decide) only[je,jn];done)
   |(rw[show((0:Nat):Int)=0 from rfl];simp only[jn])
end Go.Sy
end
noncomputable section
set_option maxRecDepth 100000
namespace Go.Sy
open Go.Ev
variable {p:Nat×Nat}{a b g n bytes bv xc k lo d:Nat}{v:Nat->Bool}{s st t:St}{O O':Nat->Prop}{kn:List ((Nat×Nat)×Nat)}{K:AV->St->Prop}{cs cells ls:List AV}{xx:Bool}
structure Gr where
 parts:List (Nat×Nat)
 ins:Lc
 kn:List ((Nat×Nat)×Nat)
def ed (v:Nat->Bool)(a:Nat):Bool:=v (a / 2) != decide (a % 2=1)
def Gr.has (G:Gr)(a:Nat):Prop:=a / 2<G.parts.length
def Gr.Ok (G:Gr)(v:Nat->Bool):Prop:=v 0=false/\∀ i a b,G.parts[i]? = some (a,b)->(a,b)≠(0,0)->v i=(ed v a && ed v b)
structure Gr.WF (G:Gr):Prop where
 z:G.parts[0]? = some (0,0)
 most:G.parts.length<=1048576
 down:∀ i a b,G.parts[i]? = some (a,b)->(a,b)≠(0,0)->a / 2<i/\b / 2<i
 ins:∀ a∈G.ins,a % 2=0/\0<a / 2/\G.parts[a / 2]? = some (0,0)
 nd:G.ins.Nodup
 kn:∀ x∈G.kn,x.2 % 2=0/\G.parts[x.2 / 2]? = some x.1/\x.1≠(0,0)
def Gr.Le (G H:Gr):Prop:=∃ l,H.parts=G.parts ++ l
theorem Gr.Le.refl (G:Gr):G.Le G:=⟨[],by simp⟩
theorem Gr.Le.trans {A B C:Gr}(h:A.Le B)(k:B.Le C):A.Le C:=by
 obtain⟨l,h⟩:=h;obtain⟨m,k⟩:=k;exact⟨l ++ m,by rw[k,h,QaB]⟩
theorem Gr.Le.at {G H:Gr}(h:G.Le H){i:Nat}(e:G.parts[i]? = some p):H.parts[i]? = some p:=by
 obtain⟨l,h⟩:=h;obtain⟨hi,_⟩:=Qbk.1 e;rw[h,Qbt hi];exact e
theorem Gr.Le.has {G H:Gr}(h:G.Le H)(k:G.has a):H.has a:=by
 obtain⟨l,h⟩:=h;unfold Gr.has at *;rw[h,υ];omega
theorem Gr.Le.ok {G H:Gr}(h:G.Le H)(k:H.Ok v):G.Ok v:=⟨k.1,λi a b e hn=>k.2 i a b (h.at e) hn⟩
def Gr.Is (G:Gr)(a:Nat)(p:(Nat->Bool)->Bool):Prop:=G.has a/\∀ v,G.Ok v->ed v a=p v
theorem Gr.Is.up {G H:Gr}{p:(Nat->Bool)->Bool}(k:G.Is a p)(h:G.Le H):H.Is a p:=⟨h.has k.1,λv o=>k.2 v (h.ok o)⟩
theorem Gr.Is.of {G:Gr}{p q:(Nat->Bool)->Bool}(k:G.Is a p)(h:∀ v,G.Ok v->p v=q v):G.Is a q:=⟨k.1,λv o=>(k.2 v o).trans (h v o)⟩
theorem Gr.has.is {G:Gr}(h:G.has a):G.Is a λv=>ed v a:=⟨h,λ_ _=>rfl⟩
theorem jsU (h:v 0=false):ed v 0=false:=by unfold ed;simp[h]
theorem jsT (h:v 0=false):ed v 1=true:=by unfold ed;simp[h]
theorem Gr.WF.len {G:Gr}(h:G.WF):0<G.parts.length:=(Qbk.1 h.z).1
theorem Gr.WF.is0 {G:Gr}(h:G.WF):G.Is 0 λ_=>false:=⟨h.len,λv o=>jsU o.1⟩
theorem Gr.WF.is1 {G:Gr}(h:G.WF):G.Is 1 λ_=>true:=⟨h.len,λv o=>jsT o.1⟩
theorem ZY (a:Nat):(a ^^^ 1) / 2=a / 2:=by
 have:=Nat.xor_div_two (a:=a) (b:=1);simpa using this
theorem jlB (a:Nat):(a ^^^ 1) % 2≠a % 2:=by
 have h:(a ^^^ 1) % 2 ^ 1=a % 2 ^ 1 ^^^ 1 % 2 ^ 1:=Nat.xor_mod_two_pow;have e:a % 2=0\/a % 2=1:=om
 rw[Nat.pow_one] at h;rcases e with e|e<;>rw[h,e]<;>decide
theorem ub (v:Nat->Bool)(a:Nat):ed v (a ^^^ 1) = !ed v a:=by
 unfold ed;rw[ZY];have:=jlB a;have:a % 2=0/\(a ^^^ 1) % 2=1\/a % 2=1/\(a ^^^ 1) % 2=0:=om
 rcases this with ⟨h1,h2⟩|⟨h1,h2⟩<;>rw[h1,h2]<;>cases v (a / 2)<;>rfl
theorem Gr.Is.not {G:Gr}{p:(Nat->Bool)->Bool}(k:G.Is a p):G.Is (a ^^^ 1) λv=>!p v:=⟨by unfold Gr.has;rw[ZY];exact k.1,λv o=>by rw[ub,k.2 v o]⟩
theorem Gr.WF.push {G:Gr}(h:G.WF)(hl:G.parts.length<1048576)(hp:(a,b)≠(0,0)->a / 2<G.parts.length/\b / 2<G.parts.length):Gr.WF ⟨G.parts ++ [(a,b)],G.ins,G.kn⟩:=by
 have L:G.Le ⟨G.parts ++ [(a,b)],G.ins,G.kn⟩:=⟨[(a,b)],rfl⟩;refine⟨L.at h.z,by simp;omega,λi c d e hn=>?_,λc hc=>?_,h.nd,λx hx=>?_⟩
 .rcases Qaq i G.parts.length with hi|hi
  .exact h.down i c d (by rw[Qbt hi] at e;exact e) hn
  .have hlt:=(Qbk.1 e).1;simp only[υ,List.length_singleton] at hlt;have:i=G.parts.length:=om
   subst this;rw[QbK (η _)] at e;simp at e;obtain⟨rfl,rfl⟩:=e;exact hp hn
 .obtain⟨h1,h2,h3⟩:=h.ins c hc;exact⟨h1,h2,L.at h3⟩
 .obtain⟨h1,h2,h3⟩:=h.kn x hx;exact⟨h1,L.at h2,h3⟩
open Go.Ev Go.Proofs
variable {base:Bs}
abbrev eu (a:Nat):AV:=.int .u32 (a:Int)
def pE (p:Nat×Nat):List AV:=[eu p.1,eu p.2]
theorem jl4 (p:Nat×Nat):(pE p).length=2:=rfl
def zu (p:Nat×Nat):AV:=.agg (pE p)
def Y4 (x:(Nat×Nat)×Nat):AV×AV:=(zu x.1,eu x.2)
def QW (q:Nat)(l:Lc):AV:=if l=[] then .nils else .slice q 0 l.length l.length 1 false
structure GB (st:St)(g p q r:Nat)(x:Bool)(G:Gr):Prop where
 C:Cl st g [.slice p 0 G.parts.length G.parts.length 2 x,QW q G.ins,.map r]
 P:Cl st p (fl pE G.parts)
 Q:G.ins≠[]->Cl st q (G.ins.map eu)/\q≠g/\q≠p/\q≠r
 M:jv st.h r=some (.map (G.kn.map Y4))
 rl:r<st.nx
 gp:g≠p
 gr:g≠r
 pr:p≠r
def Ho (g p q r:Nat)(G:Gr)(c:Nat):Prop:=c=g\/c=p\/c=r\/(G.ins≠[]/\c=q)
def GM (st:St)(g:Nat)(O:Nat->Prop)(G:Gr):Prop:=∃ p q r x,O=Ho g p q r G/\GB st g p q r x G
structure Fr2 (O O':Nat->Prop)(s s':St):Prop where
 nx:s.nx<=s'.nx
 fr:s'.fr=s.fr
 keep:∀ c,c<s.nx->¬ O c->jv s'.h c=jv s.h c
 own:∀ c,O' c->O c\/s.nx<=c
section
variable {O O' O'':Nat->Prop} {s t u:St}
theorem Fr2.refl:Fr2 O O s s:=⟨η _,rfl,λ_ _ _=>rfl,λ_ h=>.inl h⟩
theorem Fr2.trans (h:Fr2 O O' s t)(k:Fr2 O' O'' t u):Fr2 O O'' s u:=
 ⟨χ h.nx k.nx,k.fr.trans h.fr,λx hx ho=>(k.keep x (Qat hx h.nx) λh2=>(h.own x h2).elim ho λh3=>by omega).trans (h.keep x hx ho),
  λx hx=>(k.own x hx).elim (λh2=>h.own x h2) λh2=>.inr (χ h.nx h2)⟩
theorem Fr2.cl (h:Fr2 O O' s t){b:Nat}{cs:List AV}(C:Cl s b cs)(hb:¬ O b):Cl t b cs/\¬ O' b:=⟨C.keep h.nx (h.keep b C.lt hb),λk=>(h.own b k).elim hb λk=>by have:=C.lt;omega⟩
theorem Fr2.of {lo:Nat}(a:ApL lo s t)(hl:s.nx<=lo):Fr2 O O s t:=⟨a.nx,a.fr,λc hc _=>a.hp c om hc,λ_ h=>.inl h⟩
theorem GB.lt {g p q r:Nat}{x:Bool}{G:Gr}(h:GB s g p q r x G){c:Nat}(hc:Ho g p q r G c):c<s.nx:=by
 rcases hc with rfl|rfl|rfl|⟨h1,rfl⟩
 .exact h.C.lt
 .exact h.P.lt
 .exact h.rl
 .exact(h.Q h1).1.lt
theorem GM.lt {g:Nat}{G:Gr}(h:GM s g O G){c:Nat}(hc:O c):c<s.nx:=by
 obtain⟨p,q,r,x,rfl,B⟩:=h;exact B.lt hc
theorem GM.keep {g:Nat}{G:Gr}(h:GM s g O G)(hn:s.nx<=t.nx)(hk:∀ c,O c->jv t.h c=jv s.h c):GM t g O G:=by
 obtain⟨p,q,r,x,rfl,B⟩:=h;exact⟨p,q,r,x,rfl,B.C.keep hn (hk _ (.inl rfl)),B.P.keep hn (hk _ (.inr (.inl rfl))),λh1=>⟨(B.Q h1).1.keep hn (hk _ (.inr (.inr (.inr ⟨h1,rfl⟩)))),(B.Q h1).2⟩,(hk _ (.inr (.inr (.inl rfl)))).trans B.M,Qat B.rl hn,B.gp,B.gr,B.pr⟩
theorem GM.nw {g:Nat}{G:Gr}(h:GM s g O G)(ds:List AV):GM (Go.Sy.nw s ds) g O G:=h.keep (Qbd _) λc hc=>qp (QaD (h.lt hc))
theorem GM.wr {g:Nat}{G:Gr}(h:GM s g O G){b:Nat}(hb:¬ O b)(o:Nat)(vs:List AV):GM (Go.Sy.wr s b o vs) g O G:=h.keep (η _) λc hc=>qW λe=>hb (e▸hc)
theorem GM.apl {g lo:Nat}{G:Gr}(h:GM s g O G)(a:ApL lo s t)(hl:s.nx<=lo):GM t g O G:=h.keep a.nx λc hc=>a.hp c (by have:=h.lt hc;omega) (h.lt hc)
theorem GM.bar {g:Nat}{G:Gr}(h:GM s g O G):GM s.bare g O G:=h.keep (η _) λ_ _=>rfl
end
structure Aft (g:Nat)(O:Nat->Prop)(G:Gr)(k:Nat)(s:St)(O':Nat->Prop)(G':Gr)(s':St):Prop where
 gm:GM s' g O' G'
 wf:G'.WF
 le:G.Le G'
 len:G'.parts.length<=G.parts.length+k
 ins:G'.ins=G.ins
 fr:Fr2 O O' s s'
section
variable {g k j:Nat} {O O' O'':Nat->Prop} {G G' G'':Gr} {s t u:St}
theorem Aft.refl (h:GM s g O G)(w:G.WF):Aft g O G 0 s O G s:=⟨h,w,Gr.Le.refl G,η _,rfl,Fr2.refl⟩
theorem Aft.trans (h:Aft g O G k s O' G' t)(h2:Aft g O' G' j t O'' G'' u){m:Nat}(hm:k+j<=m):Aft g O G m s O'' G'' u:=⟨h2.gm,h2.wf,h.le.trans h2.le,by have:=h.len;have:=h2.len;omega,h2.ins.trans h.ins,h.fr.trans h2.fr⟩
theorem Aft.weak (h:Aft g O G k s O' G' t){m:Nat}(hm:k<=m):Aft g O G m s O' G' t:=⟨h.gm,h.wf,h.le,by have:=h.len;omega,h.ins,h.fr⟩
theorem Aft.apl {lo:Nat}(h:Aft g O G k s O' G' t)(a:ApL lo t u)(hl:t.nx<=lo):Aft g O G k s O' G' u:=⟨h.gm.apl a hl,h.wf,h.le,h.len,h.ins,h.fr.trans (Fr2.of a hl)⟩
theorem Aft.nw (h:Aft g O G k s O' G' t)(ds:List AV):Aft g O G k s O' G' (Go.Sy.nw t ds):=h.apl (ApL.nwO t ds) (η _)
theorem Aft.bak (h:Aft g O G k s.bare O' G' t):Aft g O G k s O' G' (back s t):=⟨h.gm.keep (η _) λ_ _=>rfl,h.wf,h.le,h.len,h.ins,⟨h.fr.nx,rfl,h.fr.keep,h.fr.own⟩⟩
end
def gL (G:Gr):AV:=.lptr [.lst G.parts.length (fl pE G.parts),.lst G.ins.length (G.ins.map eu)] 0
theorem UV (l:Lc):(l.map eu).all pc=true:=by simp[pc]
theorem GM.lend {G:Gr}(h:GM s g O G):lend s.h (.ptr g 0)=some (gL G):=by
 obtain⟨p,q,r,x,rfl,B⟩:=h;refine Yt B.C (zQ ⟨_,Zx (d:=7) B.P (by rw[zZ jl4]) (zq (λ_=>rfl) _)⟩ rfl (zQ (u:=.lst G.ins.length (G.ins.map eu)) ?_ rfl (jjk 8 r [])));unfold QW;by_cases h:G.ins=[]
 .rw[if_pos h,h];exact⟨[],rfl⟩
 .rw[if_neg h];exact⟨_,Zx (d:=7) (B.Q h).1 hac (UV _)⟩
section
variable {P:Program} {base:Bs} {st:St} {K:AV->St->Prop} {e:En}
def uH (P:Program)(t:TypeId)(m k:AV)(ok:Bool)(st:St):ER:=(JM P t (Go.Sy.O m) (Go.Sy.O k) ok).run E0 st
theorem je2 (t:TypeId)(m k:A)(ok:Bool):wK P base (.i (.look t m k ok)) e st K=on1 e m λv=>on1 e k λu=>jk (uH P t v u ok st) K:=k_2 (V:=λv u st=>uH P t v u ok st) rfl (λ_=>rfl) K
def jlJ (P:Program)(t:TypeId)(m k v:AV)(st:St):ER:=(zn P t (Go.Sy.O m) (Go.Sy.O k) (Go.Sy.O v)).run E0 st
theorem jst (t:TypeId)(m k x:A):wK P base (.i (.upd t m k x)) e st K=on1 e m λv=>on1 e k λu=>on1 e x λw=>jk (jlJ P t v u w st) K:=k_3 rfl (λ_=>rfl) K
theorem kQ (a b:Nat):eqI (a:Int) (b:Int)=decide (a=b):=by
 show QcA a b=_;by_cases h:a=b
 .rw[XT h,decide_eq_true h]
 .rw[jhn h,decide_eq_false h]
theorem VX {a:Nat}(h:a<=4294967295):jk (yE .xor (.int .u32 (a:Int)) (.int .u32 1) st) K=K (.int .u32 ((a ^^^ 1:Nat):Int)) st:=by
 refine jbP ?_;have e1:QcC a (yW .u32)=true:=qo h;have e2:QcC 1 (yW .u32)=true:=dc
 show(cond (QcC a (yW .u32)) (cond (QcC 1 (yW .u32)) (some (Qar (Nat.xor a 1))) (Za .xor .u32 (Qar a) 1)) (Za .xor .u32 (Qar a) 1)).map (AV.int .u32)=_;rw[e1,e2];rfl
end
theorem eqP (p q:Nat×Nat):(eqF δ 20 166).run (zu p) (zu q)=some (decide (p=q)):=by
 have h:(eqF δ 20 166).run (zu p) (zu q)=cond (eqI (p.1:Int) (q.1:Int)) (cond (eqI (p.2:Int) (q.2:Int)) (some true) (some false)) (some false):=Qa0
 rw[h,kQ,kQ];obtain⟨a,b⟩:=p;obtain⟨c,d⟩:=q;by_cases h1:a=c<;>by_cases h2:b=d<;>simp[h1,h2]
def QC (kn:List ((Nat×Nat)×Nat))(p:Nat×Nat):Option Nat:=(kn.find? λx=>decide (p=x.1)).map (·.2)
theorem KI (p:Nat×Nat):∀ kn:List ((Nat×Nat)×Nat),ZU (eqF δ 20 166) (zu p) (kn.map Y4)=some ((QC kn p).map λx=>.int .u32 (x:Int))
 |[]=>rfl
 |x :: kn=>by
  have ih:=KI p kn;have e:ZU (eqF δ 20 166) (zu p) ((x :: kn).map Y4)=(match (eqF δ 20 166).run (zu p) (zu x.1) with|some b=>cond b (some (some (.int .u32 (x.2:Int)))) (ZU (eqF δ 20 166) (zu p) (kn.map Y4))|none=>none):=rfl;rw[e,eqP,ih];unfold QC;rw[List.find?_cons];by_cases h:p=x.1<;>simp[h]
theorem jev (p:Nat×Nat)(v:Nat):∀ kn:List ((Nat×Nat)×Nat),QC kn p=none->vI (eqF δ 20 166) (zu p) (.int .u32 (v:Int)) (kn.map Y4)=some ((kn ++ [(p,v)]).map Y4)
 |[],_=>rfl
 |x :: kn,hf=>by
  have hx:¬ p=x.1:=by
   intro h;unfold QC at hf;rw[List.find?_cons] at hf;simp[h] at hf
  have hf':QC kn p=none:=by
   unfold QC at hf ⊢;rw[List.find?_cons] at hf;simpa[hx] using hf
  have ih:=jev p v kn hf';have e:vI (eqF δ 20 166) (zu p) (.int .u32 (v:Int)) ((x :: kn).map Y4)=(match (eqF δ 20 166).run (zu p) (zu x.1) with
   |some b=>cond b (cond (Vy (zu p) (zu x.1)) (some (Qal (zu p,.int .u32 (v:Int)) (kn.map Y4))) none) (match vI (eqF δ 20 166) (zu p) (.int .u32 (v:Int)) (kn.map Y4) with|some l=>some (Qal (Y4 x) l)|none=>none)
   |none=>none):=rfl
  rw[e,eqP,ih,decide_eq_false hx];rfl
theorem G9:Tryz.prog.underlying 91=some (.map 166 44):=Qa0
theorem jhC:UP δ 44=some (.int .u32 0):=Qa0
theorem jdd (p:Nat×Nat):(Zv δ 166).run (zu p)=true:=Qa0
theorem joQ {m:Nat}{x:Nat}(hm:jv st.h m=some (.map (kn.map Y4)))(hx:QC kn p=some x):jk (uH δ 91 (.map m) (zu p) true st) K=K (.tup [.int .u32 (x:Int),.bool true]) st:=by
 unfold uH JM;simp only[G9,jhC,Go.Sy.O,jdd,cond_true,hm,Xz,KI,hx,Qau,jN,jk]
theorem joR {m:Nat}(hm:jv st.h m=some (.map (kn.map Y4)))(hx:QC kn p=none):jk (uH δ 91 (.map m) (zu p) true st) K=K (.tup [.int .u32 0,.bool false]) st:=by
 unfold uH JM;simp only[G9,jhC,Go.Sy.O,jdd,cond_true,hm,Xz,KI,hx,Qbh,jN,jk]
theorem jtA {z:Nat}{news:List AV}(C:Cl s b cs)(hl:cs.length=n * z)(hz:0<z)(hby:(n+1) * bytes<=140737488355328)(h63:n+1<=9223372036854775807)(hv:z<=jV s.h bv)(hr:rats s.h bv 0 z=news) :
  jk (JG z bytes (.slice b 0 n n z true) (.slice bv 0 1 xc z xx) s) K=K (.slice s.nx 0 (n+1) (n+1) z false) (nw s (cs ++ news)):=by
 obtain⟨m,zl,zz,ks,hg⟩:=Xi (h:=s.h) (b:=bv) om;rw[yV hg] at hv;have e0:QcE 1 z=z:=Nat.one_mul z;have e1:QcC (QcD 0 z) m=true:=qo (by show 0+z<=m;omega);have er:jR zl zz ks z 0=news:=by
  rw[<-hr,QP,qm];exact QaR λi _=>by rw[J8 hg]
 have el:news.length=z:=by rw[<-hr];exact Qw _ _ _ _
 have e3:QcA (jP news) z=true:=XT (by rw[jO,el]);obtain⟨m',zl',zz',ks',hg'⟩:=C.row;have h4l:=C.len;rw[yV hg'] at h4l;have f4:QcC (QcD n 1) n=false:=jbO (by show n<n+1;omega);have f5:QcC (QcE (QcD n 1) bytes) 140737488355328=true:=qo hby;have f6:QcC (QcD n 1) 9223372036854775807=true:=qo h63;have e7:QcC (QcD 0 (QcE n z)) m'=true:=qo (by show 0+n * z<=m';omega);have e8:jR zl' zz' ks' (QcE n z) 0=cs:=by
  have h:=C.rats0 hl;rw[QP] at h;rw[qm,<-h];exact QaR λi _=>by rw[J8 hg']
 have e9:yN cs news=cs ++ news:=by rw[yu]
 have e10:QcE (QcD n 1) z=(cs ++ news).length:=by rw[υ,hl,el];exact QaX n z
 simp only[JG,JJ,firstCells,hg,hg',yg,jF,e0,e1,cond_true,er,qO,e3,f4,f5,f6,cond_false,e7,e8,e9,e10,St.alloc_eq,jk];rfl
theorem jaK (l:List (Nat×Nat))(q:Nat×Nat):fl pE l ++ pE q=fl pE (l ++ [q]):=by simp[fl]
theorem jty {u:St}{p:Nat}{x:Bool}{l:List (Nat×Nat)}{q:Nat×Nat}(P:Cl u p (fl pE l))(hl:l.length=n)(h0:0<n)(hn:n<1048576)(D:Cl u bv (pE q)) :
  ∃ s',(∀ K:AV->St->Prop,jk (JG 2 8 (.slice p 0 n n 2 x) (.slice bv 0 1 xc 2 xx) u) K=K (.slice u.nx 0 (n+1) (n+1) 2 false) s')/\Cl s' u.nx (fl pE (l ++ [q]))/\s'.nx=u.nx+1/\s'.fr=u.fr/\∀ c,c≠p->c<u.nx->jv s'.h c=jv u.h c:=by
 have hr:rats u.h bv 0 2=pE q:=D.rats0 rfl;have hv:2<=jV u.h bv:=by rw[D.len];exact η 2
 have hlen:(fl pE l).length=n * 2:=by rw[zZ jl4,hl]
 cases x with
 |true=>exact⟨nw u (fl pE l ++ pE q),λK=>jtA P hlen dc om om hv hr,jaK l q▸Cl.new u _,rfl,rfl,λc _ h=>qp (QaD h)⟩
 |false=>
  have V:Lv p (p+1) u (.slice p 0 n n 2 false) n (fl pE l) 2:=.inr ⟨p,rfl,h0,hlen,P,η _,QaW _⟩;have A:=V.app (news:=pE q) rfl (Qbo P.lt);refine⟨aps (.slice p 0 n n 2 false) u (pE q),λK=>?_,?_,jm _ _ _,QM _ _ _,λc h1 h2=>V.get u _ c om h2⟩
  .rw[Jt V dc om om hv,hr];rfl
  .rcases A with ⟨e,_⟩|⟨c,e,_,_,D,_⟩
   .exact absurd e (by simp[apv])
   .injection e with e1
    rw[<-jaK,e1];exact D
theorem jiM (hb:NB base){g:Nat}{O:Nat->Prop}{G:Gr}{a b:Nat}(st:St)(H:GM st g O G)(w:G.WF)(hN:G.parts.length<1048576)(hp:(a,b)≠(0,0)->a / 2<G.parts.length/\b / 2<G.parts.length)(K Kp:AV->St->Prop)
  (hK:∀ O' s',Aft g O G 1 st O' ⟨G.parts ++ [(a,b)],G.ins,G.kn⟩ s'->K (.tup [eu (2 * G.parts.length),.int .i64 0]) s'):XB δ base 110 [.ptr g 0,zu (a,b)] st K Kp:=by
 have H0:=H.bar;have w2:=w.push hN hp;obtain⟨p,q,r,x,rfl,B⟩:=H0;have hn1:¬ (1048576:Int)<=(G.parts.length:Int):=om
 have hn0:=w.len;have B1:=B.C.nw (pE (a,b));have P1:=B.P.nw (pE (a,b));have D1:Cl (nw (nw st.bare (pE (a,b))) (pE (a,b))) (st.nx+1) (pE (a,b)):=Cl.new (nw st.bare (pE (a,b))) _;obtain⟨s2,eA,P2,n2,f2,k2⟩:=jty (x:=x) (bv:=st.nx+1) (xc:=1) (xx:=true) (P1.nw (pE (a,b))) rfl hn0 hN D1;have g0:=(B1.nw (pE (a,b))).cell 0 hac;have lg:=(B1.nw (pE (a,b))).len;have C0:=B.C;have hg:g<st.nx:=C0.lt;have hq:p<st.nx:=B.P.lt;have hr:r<st.nx:=B.rl;have hgp:=B.gp;have r0:rat st.h g 0=.slice p 0 G.parts.length G.parts.length 2 x:=C0.cell 0 hac;have l0:jV st.h g=3:=C0.len;have l1:jV (nw (nw st.bare (pE (a,b))) (pE (a,b))).h g=3:=((C0.nw _).nw _).len;have kg:=k2 g hgp (by show g<st.nx+1+1;omega);have e2:(nw (nw st.bare (pE (a,b))) (pE (a,b))).nx=st.nx+1+1:=rfl;rw[e2] at eA P2 n2;refine qu jt0 haa (hb.at0 110 dc dc _ _) ?_;simp only[jm5,jj,ζ,θ,κ,μ];rw[(by unfold jfJ;simp only[qq];rfl:jfJ=_)];unfold zu pE at *;have l2:jV s2.h g=3:=(yo kg).trans l1;have e4:(2:Int) * ((G.parts.length+1:Nat):Int) - 2=((2 * G.parts.length:Nat):Int):=om
 have e5:∀ (st:St) (K:AV->St->Prop),jk (UF .u32 (.int .i64 ((2 * G.parts.length:Nat):Int)) st) K=K (eu (2 * G.parts.length)) st:=λst K=>jot om
 (have zz:=aI @l0 @l2;repeat' first|apply jb<;>intro _|simp(disch:=try exact JY) only[hn1,eA,r0,l0,e4,e5,l0,l2,rzZ,γ,ε])
 have hB:∀ c,c<st.nx->c≠g->c≠p->jv (wr s2 g 0 [.slice (st.nx+1+1) 0 (G.parts.length+1) (G.parts.length+1) 2 false]).h c=jv st.h c:=λc h1 h2 h3=>
  (qW h2).trans ((k2 c h3 (by show c<st.nx+1+1;omega)).trans ((qp (by show c≠st.nx+1;omega)).trans (qp (s:=st.bare) (QaD h1))))
 have hW:∀ c,c<st.nx->¬ Ho g p q r G c->c≠g/\c≠p/\c≠r:=λc _ h=>⟨λe=>h (.inl e),λe=>h (.inr (.inl e)),λe=>h (.inr (.inr (.inl e)))⟩;have C2:Cl s2 g [.slice p 0 G.parts.length G.parts.length 2 x,QW q G.ins,.map r]:=((C0.nw _).nw _).keep (by rw[n2];exact Qbd _) kg;have C3:=C2.wr 0 [.slice (st.nx+1+1) 0 (G.parts.length+1) (G.parts.length+1) 2 false];have P3:=P2.wrO (c:=g) om 0 [.slice (st.nx+1+1) 0 (G.parts.length+1) (G.parts.length+1) 2 false];have hln:(G.parts ++ [(a,b)]).length=G.parts.length+1:=by simp
 refine hK (Ho g (st.nx+1+1) q r G) _ ⟨⟨st.nx+1+1,q,r,false,rfl,?_⟩,w2,⟨[(a,b)],rfl⟩,QaY hln,rfl,⟨?_,rfl,?_,?_⟩⟩
 .refine⟨?_,⟨P3.lt,P3.row,P3.len,P3.cell⟩,λh=>?_,?_,?_,om,B.gr,om⟩
  .rw[hln];exact⟨C3.lt,C3.row,C3.len,C3.cell⟩
  .obtain⟨Q1,Q2,Q3,Q4⟩:=B.Q h;have hql:q<st.nx:=Q1.lt;have:=Q1.keep (s':=wr s2 g 0 [.slice (st.nx+1+1) 0 (G.parts.length+1) (G.parts.length+1) 2 false]) (by show st.nx<=s2.nx;omega) (hB q hql Q2 Q3);exact⟨⟨this.lt,this.row,this.len,this.cell⟩,Q2,om,Q4⟩
  .exact(hB r hr (λe=>B.gr e.symm) (λe=>B.pr e.symm)).trans B.M
  .show r<s2.nx;omega
 .show st.nx<=s2.nx;omega
 .intro c hc ho;obtain⟨h1,h2,_⟩:=hW c hc ho;exact hB c hc h1 h2
 .intro c hc;rcases hc with h|h|h|h
  .exact .inl (.inl h)
  .exact .inr om
  .exact .inl (.inr (.inr (.inl h)))
  .exact .inl (.inr (.inr (.inr h)))
theorem jjs {x:Nat}(h:QC kn p=some x):(p,x)∈kn:=by
 unfold QC at h;rw[QbA] at h;obtain⟨y,h1,h2⟩:=h;have h3:=List.mem_of_find?_eq_some h1;have h4:=List.find?_some h1;simp at h4;rw[h4,<-h2];exact h3
theorem Gr.WF.kn_is {G:Gr}(w:G.WF){e:Nat}(h:((a,b),e)∈G.kn):G.Is e λv=>ed v a && ed v b:=by
 obtain⟨h1,h2,h3⟩:=w.kn _ h;refine⟨(Qbk.1 h2).1,λv o=>?_⟩;have h1:e % 2=0:=h1;refine Eq.trans ?_ (o.2 _ a b h2 h3);show ed v e=v (e / 2);unfold ed;simp[h1]
theorem Gr.WF.know {G:Gr}(w:G.WF)(h:G.parts[G.parts.length - 1]? = some (a,b))(hn:(a,b)≠(0,0)):Gr.WF ⟨G.parts,G.ins,G.kn ++ [((a,b),2 * G.parts.length - 2)]⟩:=by
 refine⟨w.z,w.most,w.down,w.ins,w.nd,λx hx=>?_⟩;rcases QaH.1 hx with h1|h1
 .exact w.kn x h1
 .have:=QaL.1 h1;subst this;have hl:=w.len;refine⟨by show(2 * G.parts.length - 2) % 2=0;omega,?_,hn⟩;show G.parts[(2 * G.parts.length - 2) / 2]? = _;rw[show(2 * G.parts.length - 2) / 2=G.parts.length - 1 by omega];exact h
theorem GM.know {G:Gr}(h:GM s g O G){e:Nat}(hf:QC G.kn (a,b)=none):∃ r s',rat s.h g 2=.map r/\jV s.h g=3/\(∀ K:AV->St->Prop,jk (jlJ δ 91 (.map r) (zu (a,b)) (eu e) s) K=K qe s')/\GM s' g O ⟨G.parts,G.ins,G.kn ++ [((a,b),e)]⟩/\Fr2 O O s s':=by
 obtain⟨p,q,r,x,rfl,B⟩:=h;have hr:=B.rl;refine⟨r,⟨s.nx,(j2 (jK r)).run (.map ((G.kn ++ [((a,b),e)]).map Y4)) s.h,min s.dirty r,s.fr⟩,B.C.cell 2 hac,B.C.len,λK=>?_,⟨p,q,r,x,rfl,?_⟩,⟨η _,rfl,λc hc ho=>?_,λ_ h=>.inl h⟩⟩
 .have hm:=B.M;unfold jlJ zn;simp only[G9,Go.Sy.O,jdd,cond_true,hm,Xz,jev (a,b) e G.kn hf,jN,St.put_eq,jk]
 .have k:∀ c,c≠r->jv ((j2 (jK r)).run (.map ((G.kn ++ [((a,b),e)]).map Y4)) s.h) c=jv s.h c:=λc hc=>by rw[jW,if_neg hc]
  refine⟨B.C.keep (η _) (k g B.gr),B.P.keep (η _) (k p B.pr),λh=>⟨(B.Q h).1.keep (η _) (k q (B.Q h).2.2.2),(B.Q h).2⟩,?_,hr,B.gp,B.gr,B.pr⟩;show jv ((j2 (jK r)).run _ s.h) r=_;rw[jW,if_pos rfl]
 .show jv ((j2 (jK r)).run _ s.h) c=_;rw[jW,if_neg λe=>ho (.inr (.inr (.inl e)))]
theorem GM.look {G:Gr}(h:GM s g O G)(a b:Nat):∃ r,rat s.h g 2=.map r/\jV s.h g=3/\g<s.nx/\r<s.nx/\r≠g/\∀ s':St,jv s'.h r=jv s.h r->∀ K:AV->St->Prop,jk (uH δ 91 (.map r) (zu (a,b)) true s') K=K (match QC G.kn (a,b) with|some e=>.tup [eu e,.bool true]|none=>.tup [eu 0,.bool false]) s':=by
 obtain⟨p,q,r,x,rfl,B⟩:=h;refine⟨r,B.C.cell 2 hac,B.C.len,B.C.lt,B.rl,λe=>B.gr e.symm,λs' hs K=>?_⟩;cases hf:QC G.kn (a,b) with
 |none=>exact joR (hs.trans B.M) hf
 |some e=>exact joQ (hs.trans B.M) hf
theorem jtl (hb:NB base){g:Nat}{O:Nat->Prop}{G:Gr}{a b:Nat}(st:St)(H:GM st g O G)(w:G.WF)(ha:G.has a)(hb':G.has b)(hN:G.parts.length<1048576){j:Nat}(hj:a≠1->j=1)(K Kp:AV->St->Prop)
  (hK:∀ e O' G' s',Aft g O G j st O' G' s'->G'.Is e (λv=>ed v a && ed v b)->K (.tup [eu e,.int .i64 0]) s'):XB δ base 76 [.ptr g 0,eu a,eu b] st K Kp:=by
 have hmn:min (a:Int) (b:Int)=((min a b:Nat):Int):=om
 have hmx:max (a:Int) (b:Int)=((max a b:Nat):Int):=om
 have hK2:∀ e O' G' s',Aft g O G j st O' G' s'->G'.Is e (λv=>ed v (min a b) && ed v (max a b))->K (.tup [eu e,.int .i64 0]) s':=λe O' G' s' A I=>hK e O' G' s' A (I.of λv _=>by
  by_cases h:a<=b
  .rw[Qbx h,Nat.max_eq_right h]
  .rw[Nat.min_eq_right om,Nat.max_eq_left om,Bool.and_comm])
 have hu:G.has (min a b):=by unfold Gr.has at *;omega
 have hv:G.has (max a b):=by unfold Gr.has at *;omega
 have hle:min a b<=max a b:=om
 have h1:a=1->min a b=0\/min a b=1:=om
 refine qu jvu haa (hb.at0 76 dc dc _ _) ?_;simp only[jpV,jj,ζ,θ,κ,μ];rw[(by unfold jki;simp only[qq];rfl:jki=_)];generalize min a b=u at *;generalize max a b=v at *;have hu':u<=4294967295:=by unfold Gr.has at hu;omega
 have hx:=λ(s:St) (K:AV->St->Prop)=>VX (st:=s) (K:=K) hu';have done:∀ e,G.Is e (λw=>ed w u && ed w v)->K (.tup [eu e,.int .i64 0]) st:=λe I=>hK2 e O G _ ((Aft.refl H w).weak (Qae _)) I;by_cases c1:u=0
 .have d1:((u:Int)=0)=True:=eq_true om;repeat' first|apply jb<;>intro _|simp(disch:=try exact dzA) only[hmn,hmx,d1,rzZ,γ,ε]
  exact done 0 (w.is0.of λv o=>by rw[c1,jsU o.1];rfl)
 .have d1:((u:Int)=0)=False:=eq_false om;by_cases c2:u ^^^ 1=v
  .have d2:(((u ^^^ 1:Nat):Int)=(v:Int))=True:=eq_true om;repeat' first|apply jb<;>intro _|simp(disch:=try exact dzA) only[hmn,hmx,d1,hx,d2,rzZ,γ,ε]
   exact done 0 (w.is0.of λv o=>by rw[<-c2,ub];cases ed v u<;>rfl)
  .have d2:(((u ^^^ 1:Nat):Int)=(v:Int))=False:=eq_false om;by_cases c3:u=1
   .have d3:((u:Int)=1)=True:=eq_true om;repeat' first|apply jb<;>intro _|simp(disch:=try exact dzA) only[hmn,hmx,d1,hx,d2,d3,rzZ,γ,ε]
    exact done v (hv.is.of λv o=>by rw[c3,jsT o.1];simp)
   .have d3:((u:Int)=1)=False:=eq_false om;by_cases c4:u=v
    .have d4:((u:Int)=(v:Int))=True:=eq_true om;repeat' first|apply jb<;>intro _|simp(disch:=try exact dzA) only[hmn,hmx,d1,hx,d2,d3,d4,rzZ,γ,ε]
     exact done v (hv.is.of λw o=>by rw[c4];simp)
    .have d4:((u:Int)=(v:Int))=False:=eq_false om;obtain rfl:j=1:=hj λe=>(h1 e).elim c1 c3;have hne:(u,v)≠(0,0):=λe=>c1 (by injection e);have H1:GM (wr (nw st.bare [.int .u32 0,.int .u32 0]) st.nx 0 [eu u,eu v]) g O G:=(H.bar.nw _).wr (λh=>Qba _ (H.lt h)) _ _;have F1:Fr2 O O st (back st (wr (nw st.bare [.int .u32 0,.int .u32 0]) st.nx 0 [eu u,eu v])):=⟨Qbd _,rfl,λc hc _=>(qW (QaD hc)).trans (qp (s:=st.bare) (QaD hc)),λ_ h=>.inl h⟩;have A1:Aft g O G 1 st O G (back st (wr (nw st.bare [.int .u32 0,.int .u32 0]) st.nx 0 [eu u,eu v])):=⟨H1.keep (η _) (λ_ _=>rfl),w,Gr.Le.refl G,Nat.le_add_right _ _,rfl,F1⟩;obtain⟨r,r2,l2,g2,r3,r4,eL⟩:=H.look u v;have hr:jv (wr (nw st.bare [.int .u32 0,.int .u32 0]) st.nx 0 [eu u,eu v]).h r=jv st.h r:=(qW (QaD r3)).trans (qp (s:=st.bare) (QaD r3));have eL:∀ K:AV->St->Prop,jk (uH δ 91 (.map r) (.agg [eu u,eu v]) true (wr (nw st.bare [.int .u32 0,.int .u32 0]) st.nx 0 [eu u,eu v])) K=K (match QC G.kn (u,v) with|some e=>.tup [eu e,.bool true]|none=>.tup [eu 0,.bool false]) (wr (nw st.bare [.int .u32 0,.int .u32 0]) st.nx 0 [eu u,eu v]):=eL _ hr;cases hf:QC G.kn (u,v) with
     |some e=>
      rw[hf] at eL
      (have zz:=@l2;repeat' first|apply jb<;>intro _|simp(disch:=try exact JY) only[hmn,hmx,d1,hx,d2,d3,d4,r2,l2,je2,eL,l2,rzZ,γ,ε])
      exact hK2 e O G _ A1 (w.kn_is (jjs hf))
     |none=>
      rw[hf] at eL;have hK3:=λK Kp (hK:∀ O' s',Aft g O G 1 (wr (nw st.bare [.int .u32 0,.int .u32 0]) st.nx 0 [eu u,eu v]) O' ⟨G.parts ++ [(u,v)],G.ins,G.kn⟩ s'->K (.tup [eu (2 * G.parts.length),.int .i64 0]) s')=>jiM hb (a:=u) (b:=v) _ H1 w hN (λ_=>⟨hu,hv⟩) K Kp hK;unfold zu pE at hK3;have rW:rats (wr (nw st.bare [.int .u32 0,.int .u32 0]) st.nx 0 [eu u,eu v]).h st.nx 0 2=[eu u,eu v]:=YD rfl
      (have zz:=@l2;repeat' first|apply jb<;>intro _|simp(disch:=try exact JY) only[hmn,hmx,d1,hx,d2,d3,d4,r2,l2,je2,eL,l2,rzZ,γ,ε])
      refine hK3 _ _ λO2 s2 A2=>?_;have hnO:¬ O st.nx:=λh=>Qba _ (H.lt h);have CK:Cl (wr (nw st.bare [.int .u32 0,.int .u32 0]) st.nx 0 [eu u,eu v]) st.nx [eu u,eu v]:=(Cl.new st.bare [.int .u32 0,.int .u32 0]).wr 0 _;have CK2:=(A2.fr.cl CK hnO).1;have rk:rats s2.h st.nx 0 2=[eu u,eu v]:=CK2.rats0 rfl;have lk:=CK2.len;obtain⟨r',s3,q2,q3,eU,H3,F3⟩:=A2.gm.know (a:=u) (b:=v) (e:=2 * G.parts.length) hf;unfold zu pE at eU;have w3:=A2.wf.know (a:=u) (b:=v) hac hne;have hl3:2 * (G.parts ++ [(u,v)]).length - 2=2 * G.parts.length:=by simp;omega
      rw[hl3] at w3
      (have zz:=aI @q3 @lk;repeat' first|apply jb<;>intro _|simp(disch:=try exact JY) only[q2,q3,rk,lk,jst,eU,q3,lk,rzZ,γ,ε])
      have FF:=A2.fr.trans F3;refine hK2 _ O2 _ _ ⟨H3.keep (η _) (λ_ _=>rfl),w3,⟨[(u,v)],rfl⟩,by simp,rfl,⟨?_,rfl,?_,?_⟩⟩ ?_
      .have:=FF.nx;exact χ (Qbd _) this
      .intro c hc ho;exact(FF.keep c (Qct hc) ho).trans ((qW (QaD hc)).trans (qp (s:=st.bare) (QaD hc)))
      .intro c hc;rcases FF.own c hc with h|h
       .exact .inl h
       .exact .inr (χ (Qbd _) h)
      .refine⟨by show 2 * G.parts.length / 2<(G.parts ++ [(u,v)]).length;simp,λw' o=>?_⟩;have:=o.2 G.parts.length u v hac hne;refine Eq.trans ?_ this;unfold ed;rw[show 2 * G.parts.length / 2=G.parts.length by omega,show 2 * G.parts.length % 2=0 by omega];simp
theorem NB.pl (hb:NB base){f:FuncId}{xs:List AV}{v:AV}(h:PL δ base f xs (.ok v))(hp:xs.all pa=true)(e:Ug f=true):Tot base f xs v:=λst K Kp=>h.pa hp (λst=>hb.no f e _ st) st K Kp
theorem jiK (hb:NB base){f0:Nat}(hl:jx δ f0=some K1)(hm:jcJ f0=5){f:Nat}{caps:List AV}(hN:cs.length=n)(hs:n<=1048576)(hf:∀ k,k<n->Tot base f (cs.getD k .bad :: caps) (.bool false)):PL δ base f0 [.lst n cs,.fn f caps] (.ok (.int .i64 (-1))):=by
 refine yb hl haa (hb.pur f0 5 hm) rfl ?_;simp only[K1,jj,ζ,θ,κ,μ];rw[(by unfold jfF;simp only[qq];rfl:jfF=_)];repeat' first|apply jb<;>intro _|simp(disch:=try exact dzA) only[rzZ,γ,ε]
 refine jU n (λk L s=>Has L 0 (.lst n cs)/\Has L 1 (.fn f caps)) ?_ (λk L s hk hI hi hn=>?_) (λL s hI=>?_)
 .simp(disch:=decide) only[h12]
 .obtain⟨i0,i1⟩:=hI;have e:=hf k hk;repeat' first|apply jb<;>intro _|simp(disch:=try exact dzA) only[ja i0,ja i1,ja hi,ja hn,qI,hN,e,rzZ,γ,ε]
  simp(disch:=decide) only[h12,i0,i1,hi,hn]
 .repeat' first|apply jb<;>intro _|simp(disch:=try exact dzA) only[rzZ,γ,ε]
  exact G0.v rfl rfl
theorem jo8 {h:T AO}{f o:Nat}:lend h (.fn f [.lptr cs o])=some (.fn f [.lptr cs o]):=rfl
theorem t2v {a b a' b':AV}(ha:a'=a)(h2:b'=b)(hp:pc a=true)(hq:pc b=true):G0 (.tup [a,b]) (.tup [a',b']) s:=by
 subst ha h2;exact FzD.tup (.cons (.pc hp) (.cons (.pc hq) .nil))
theorem juJ (hb:NB base){G:Gr}(h:G.has a)(w:G.WF):Tot base 109 [eu a,.lptr [gL G] 0] (.bool false):=by
 refine hb.pl ?_ rfl rfl;have hm:=w.most;have h1:a<=4294967295:=by unfold Gr.has at h;omega
 have e1:=λ(s:St) (K:AV->St->Prop)=>K9 (st:=s) (K:=K) h1;have e2:=λ(s:St) (K:AV->St->Prop)=>jet (st:=s) (K:=K) (a:=a / 2) om;have e3:¬ ((G.parts.length:Int)<=((a / 2:Nat):Int)):=by unfold Gr.has at h;omega
 unfold gL;refine yb jt1 haa (hb.pur 109 5 dc) rfl ?_;simp only[jm6,jj,ζ,θ,κ,μ];rw[(by unfold jfK;simp only[qq];rfl:jfK=_)];repeat' first|apply jb<;>intro _|simp(disch:=try exact dzA) only[qI,e1,e2,e3,rzZ,γ,ε]
 exact G0.v rfl rfl
theorem Xs {l:Lc}(h:k<l.length):(l.map eu).getD k .bad=eu l[k]:=by simp[h]
theorem jew (hb:NB base){G:Gr}(w:G.WF)(l:Lc)(n:Nat)(hN:l.length=n)(hs:n<=1048576)(hl:∀ a∈l,G.has a):PL δ base 75 [gL G,.lst n (l.map eu)] (.ok (.bool true)):=by
 have E:=jiK hb (f:=109) (caps:=[.lptr [gL G] 0]) (cs:=l.map eu) (jtV:jx δ 144=some K1) dc (by simpa using hN) hs λk hk=>by rw[Xs om];exact juJ hb (hl _ (Qaa om)) w
 have E1:∀ st K Kp,XB δ base 144 [.lst n (l.map eu),.fn 109 [.lptr [gL G] 0]] st K Kp=_:=λst K Kp=>E.xb (yh rfl (qw jo8 rfl)) (λst=>hb.no 144 dc _ _) K Kp;have E2:PL δ base 108 [.lst n (l.map eu),.fn 109 [.lptr [gL G] 0]] (.ok (.bool false)):=by
  refine yb jt2 haa (hb.pur 108 5 dc) rfl ?_;simp only[jm7,jj,ζ,θ,κ,μ];rw[(by unfold jfL;simp only[qq];rfl:jfL=_)];repeat' first|apply jb<;>intro _|simp(disch:=try exact dzA) only[E1,wG,rzZ,γ,ε]
  exact G0.v rfl rfl
 have E3:∀ st b K Kp,Cl st b [gL G]->XB δ base 108 [.lst n (l.map eu),.fn 109 [.ptr b 0]] st K Kp=K (.bool false) st:=λst b K Kp C=>E2.xb (yh rfl (qw (by
  have:ZR st.h (.ptr b 0)=some (.lptr [gL G] 0):=Yt C (zQ (u6 8 rfl) rfl Wx);show(Qa st.h [.ptr b 0]).map (AV.fn 109)=_;simp only[Qa,this];rfl) rfl)) (λst=>hb.no 108 dc _ _) K Kp
 have gc:(gL G).cells=[gL G]:=rfl;have hc:lall AV.cell (gL G).cells=true:=rfl;generalize gL G=gl at *;refine yb jvv haa (hb.pur 75 5 dc) rfl ?_;simp only[jpW,jj,ζ,θ,κ,μ];rw[(by unfold jkj;simp only[qq];rfl:jkj=_)];repeat' first|apply jb<;>intro _|simp(disch:=try exact dzA) only[E3,gc,rzZ,γ,ε]
 exact G0.v rfl rfl
theorem jsk {m:Nat}{x:Bool}{G:Gr}{l:Lc}(H:GM s g O G)(C:Cl s b (l.map eu))(hn:l.length=n):J2 s.h [.ptr g 0,.slice b 0 n m 1 x]=some [gL G,.lst n (l.map eu)]:=qw H.lend (qw (wO C (by simp[hn]) (UV l)) rfl)
theorem He (hb:NB base){G:Gr}{l:Lc}(hN:l.length=n)(hs:n<=1048576)(hl:∀ a∈l,G.has a)(st:St)(H:GM st g O G)(w:G.WF)(b m:Nat)(x:Bool)(C:Cl st b (l.map eu))(K Kp:AV->St->Prop):XB δ base 75 [.ptr g 0,.slice b 0 n m 1 x] st K Kp=K (.bool true) st:=(jew hb w l n hN hs hl).xb (jsk H C hN) (λst=>hb.no 75 dc _ _) K Kp
theorem jhA (hb:NB base){g:Nat}{O:Nat->Prop}{G:Gr}{l:Lc}{n b m:Nat}{x:Bool}(st:St)(H:GM st g O G)(w:G.WF)(hN:l.length=n)(hl:∀ a∈l,G.has a)(hs:G.parts.length+n<=1048576)(C:Cl st b (l.map eu))(hbO:¬ O b)(K Kp:AV->St->Prop)
  (hK:∀ e O' G' s',Aft g O G (n - 1) st O' G' s'->G'.Is e (λv=>l.all (ed v))->K (.tup [eu e,.int .i64 0]) s'):XB δ base 44 [.ptr g 0,.slice b 0 n m 1 x] st K Kp:=by
 have T:=λK Kp=>He hb hN om hl st.bare H.bar w b m x (by simp only[jz];exact C) K Kp;refine qu jvI haa (hb.at0 44 dc dc _ _) ?_;simp only[jp9,jj,ζ,θ,κ,μ];rw[(by unfold jkw;simp only[qq];rfl:jkw=_)];repeat' first|apply jb<;>intro _|simp(disch:=try exact dzA) only[T,rzZ,γ,ε]
 refine jU n (λk L s=>(∃ e O' G',Aft g O G (k - 1) st.bare O' G' s/\(G'.Is e (λv=>(l.take k).all (ed v))/\(k=0->e=1))/\Has L 6 (eu e))/\Has L 0 (.ptr g 0)/\Has L 15 (.slice b 0 n m 1 x)) ?_ (λk L s hk hI hi hn=>?_) (λL s hI=>?_)
 .refine⟨⟨1,O,G,Aft.refl H.bar w,⟨w.is1,λ_=>rfl⟩,?_⟩,?_,?_⟩
  .show Has _ 6 (.int .u32 1);simp(disch:=decide) only[je,jn]
  all_goals simp(disch:=decide) only[je,jn]
 .obtain⟨⟨e,O',G',A,⟨I,hz⟩,i6⟩,i0,i15⟩:=hI;have hkl:k<l.length:=om
  obtain⟨C2,hb2⟩:=A.fr.cl (b:=b) (cs:=l.map eu) (by simp only[jz];exact C) hbO;have g1:=(C2.cell k (by simpa using hkl)).trans (Xs hkl);have l1:jV s.h b=n:=by rw[C2.len,Qac,hN]
  have hk2:=hl l[k] (Qaa hkl);have hlen:=A.len;repeat' first|apply jb<;>intro _|simp(disch:=try exact dzA) only[ja i0,ja i6,ja i15,ja hi,ja hn,g1,l1,rzZ,γ,ε]
  refine jtl hb s A.gm A.wf I.1 (A.le.has hk2) om (j:=min k 1) (λh=>by have:k≠0:=λh0=>h (hz h0);omega) _ _ λe2 O2 G2 s2 A2 I2=>?_;repeat' first|apply jb<;>intro _|simp(disch:=try exact dzA) only[rzZ,γ,ε]
  refine⟨⟨⟨e2,O2,G2,A.trans A2 om,⟨?_,λh=>absurd h (Nat.succ_ne_zero _)⟩,?_⟩,?_,?_⟩,?_,?_⟩
  .refine I2.of λv o=>?_;rw[I.2 v (A2.le.ok o),QbG hkl,QaN,QaC,List.all_nil,Bool.and_true]
  all_goals exact hsX
 .obtain⟨⟨e,O',G',A,⟨I,hz⟩,i6⟩,i0,i15⟩:=hI;rw[Qbb om] at I;repeat' first|apply jb<;>intro _|simp(disch:=try exact dzA) only[ja i6,rzZ,γ,ε]
  exact hK _ _ _ _ A.bak I
theorem jf6 {P:Program}{a:XC}{L:Sl}{Q:Out->Prop}{Kp:AV->Sl->St->Prop}(h:xC P base a L st (Qu (λL st=>xC P base a L st (Qu (λL st=>xC P base a L st (Qu (λ_ _=>False) Q) Kp) Q) Kp) Q) Kp):xC P base (.loop a) L st Q Kp:=⟨3,h⟩
theorem ApL.mono {lo2:Nat}(a:ApL lo2 s t)(h:lo<=lo2):ApL lo s t:=⟨a.nx,a.fr,λc hc hl=>a.hp c om hl⟩
theorem ApL.nw2 (a:ApL lo s t)(h:lo<=s.nx)(ds:List AV):ApL lo s (Go.Sy.nw t ds):=a.trans (ApL.mono (ApL.nwO t ds) (χ h a.nx)) (η _)
theorem ApL.wr2 (a:ApL lo s t)(hb:lo<=b)(o:Nat)(vs:List AV):ApL lo s (Go.Sy.wr t b o vs):=⟨a.nx,a.fr,λc hc h=>(qW om).trans (a.hp c hc h)⟩
theorem jj1 {sl cap:Nat}{ex:Bool}{x:AV}(C:Cl s b cells)(hc:cells.length=cap)(h:sl+n<=cap)(h1:∀ k:Nat->ER,JJ x k=k n)(h2:∀ k:List AV->ER,firstCells s 1 n x k=k cs)(hl:cs.length=n)(hn:0<n) :
  jk (JG 1 bytes (.slice b 0 sl cap 1 ex) x s) K=K (.slice b 0 (sl+n) cap 1 ex) (wr s b sl cs):=by
 obtain⟨n',zl',z',cs',hg'⟩:=C.row;have hb:=C.len;rw[yV hg',hc] at hb;have e3:QcA (jP cs) n=true:=XT (by rw[jO,hl]);have e4:QcC (QcD sl n) cap=true:=qo h;have e5:QcA n 0=false:=jhn om;have e6:QcC (QcD 0 (QcE (QcD sl n) 1)) n'=true:=qo (by show 0+(sl+n) * 1<=n';omega);have e7:QcD 0 (QcE sl 1)=sl:=by show 0+sl * 1=_;omega
 have ew:wr s b sl cs=⟨s.nx,(j2 (jK b)).run (.row n' zl' z' (qk cs cs' sl)) s.h,min s.dirty b,s.fr⟩:=by unfold wr;rw[hg'];rfl
 have e0:QcE n 1=n:=Qaz _;unfold JG;rw[h1];try rw[e0]
 rw[h2,ew];simp only[qO,show QcE n 1=n from Qaz n,e3,hg',yg,jF,e4,e5,cond_true,cond_false,e6,e7,St.put_eq,jk];rfl
theorem kW {sl cap:Nat}{ex:Bool}{y:AV}(C:Cl s b cells)(hc:cells.length=cap)(h:sl+1<=cap)(D:Cl s bv [y]) :
  jk (JG 1 bytes (.slice b 0 sl cap 1 ex) (.slice bv 0 1 xc 1 xx) s) K=K (.slice b 0 (sl+1) cap 1 ex) (wr s b sl [y]):=by
 obtain⟨m,zl,z,cs,hg⟩:=D.row;have hl:=D.len;rw[yV hg] at hl;have hr:=D.rats0 (k:=1) rfl;rw[QP] at hr;refine jj1 C hc h (λk=>rfl) (λk=>?_) rfl (QaW 0);have e1:QcC (QcD 0 (QcE 1 1)) m=true:=qo (by rw[hl];exact η 1);have e2:jR zl z cs (QcE 1 1) 0=[y]:=by
  rw[qm,<-hr];exact QaR λi _=>by rw[J8 hg]
 have e1':QcC (QcD 0 1) m=true:=e1;have e2':jR zl z cs 1 0=[y]:=e2;simp only[firstCells,hg,yg,jF,e1',cond_true,e2']
theorem WJ (hb:NB base){g:Nat}{O:Nat->Prop}{G:Gr}{a b:Nat}(s:St)(H:GM s g O G)(w:G.WF)(ha:G.has a)(hb2:G.has b)(hs:G.parts.length+2<=1048576)(K Kp:AV->St->Prop)
  (hK:∀ e O' G' s',Aft g O G 1 s O' G' s'->G'.Is e (λv=>ed v a && ed v b)->K (.tup [eu e,.int .i64 0]) s'):XB δ base 44 [.ptr g 0,.slice s.nx 0 2 2 1 true] (nw s [eu a,eu b]) K Kp:=
 jhA hb (l:=[a,b]) (n:=2) _ (H.nw _) w rfl (λx hx=>by rcases QaT.1 hx with rfl|hx;exact ha;rw[QaL.1 hx];exact hb2) hs (Cl.new s [eu a,eu b]) (λh=>Qba _ (H.lt h)) K Kp λe O' G' s' A I=>
  hK e O' G' s' (((Aft.refl H w).nw [eu a,eu b]).trans A om) (I.of λv o=>by simp)
theorem jvh (hb:NB base){g:Nat}{O:Nat->Prop}{G:Gr}{a b:Nat}(s:St)(H:GM s g O G)(w:G.WF)(ha:G.has a)(hb2:G.has b)(hs:G.parts.length+2<=1048576)(K Kp:AV->St->Prop)
  (hK:∀ e O' G' s',Aft g O G 1 s O' G' s'->G'.Is e (λv=>ed v a ||ed v b)->K (.tup [eu e,.int .i64 0]) s'):XB δ base 61 [.ptr g 0,.slice s.nx 0 2 2 1 true] (nw s [eu a,eu b]) K Kp:=by
 have hm:=w.most;have xa:=λ(s:St) (K:AV->St->Prop)=>VX (st:=s) (K:=K) (a:=a) (by unfold Gr.has at ha;omega);have xb:=λ(s:St) (K:AV->St->Prop)=>VX (st:=s) (K:=K) (a:=b) (by unfold Gr.has at hb2;omega);have ha1:G.has (a ^^^ 1):=by unfold Gr.has;rw[ZY];exact ha
 have hb1:G.has (b ^^^ 1):=by unfold Gr.has;rw[ZY];exact hb2
 refine qu jvy haa (hb.at0 61 dc dc _ _) ?_;simp only[jpZ,jj,ζ,θ,κ,μ];rw[(by unfold jkm;simp only[qq];rfl:jkm=_)];have CS:Cl (nw s [eu a,eu b]).bare s.nx [eu a,eu b]:=by simp only[jz];exact Cl.new s _
 have H1:=(H.nw [eu a,eu b]).bar;have n1:(nw s [eu a,eu b]).bare.nx=s.nx+1:=rfl;generalize hs1:(nw s [eu a,eu b]).bare=s1 at *;repeat' first|apply jb<;>intro _|simp(disch:=try exact dzA) only[Vr,rzZ,γ,ε]
 refine ki (l:=0) (c:=2) dc dc dc λs2 M=>?_;have C2:Cl s2 (s.nx+1) [.int .u32 0,.int .u32 0]:=n1▸M.cl rfl λi hi=>by
  have:i=0\/i=1:=om
  rcases this with rfl|rfl<;>rfl
 have A2:=M.apl;have n2:s2.nx=s.nx+2:=by rw[M.nx,n1]
 clear M;have CS2:=A2.cl _ _ om CS;have g0:=CS2.cell 0 hac;have g1:=CS2.cell 1 hac;have l2:=CS2.len;have C3:Cl (wr (nw s2 [eu (a ^^^ 1)]) (s.nx+1) 0 [eu (a ^^^ 1)]) (s.nx+1) [eu (a ^^^ 1),.int .u32 0]:=(C2.nw [eu (a ^^^ 1)]).wr 0 _;have D1:Cl (nw s2 [eu (a ^^^ 1)]) (s.nx+2) [eu (a ^^^ 1)]:=n2▸Cl.new s2 _;have n3:(wr (nw s2 [eu (a ^^^ 1)]) (s.nx+1) 0 [eu (a ^^^ 1)]).nx=s.nx+2+1:=by rw[ji,jf,n2]
 have e1:=λK:AV->St->Prop=>kW (K:=K) (cap:=2) (bytes:=4) (xc:=1) (xx:=true) (ex:=true) (C2.nw [eu (a ^^^ 1)]) rfl (by decide:0+1<=2) D1;have D2:Cl (nw (wr (nw s2 [eu (a ^^^ 1)]) (s.nx+1) 0 [eu (a ^^^ 1)]) [eu (b ^^^ 1)]) (s.nx+2+1) [eu (b ^^^ 1)]:=n3▸Cl.new _ _;have e2:=λK:AV->St->Prop=>kW (K:=K) (cap:=2) (bytes:=4) (xc:=1) (xx:=true) (ex:=true) (C3.nw [eu (b ^^^ 1)]) rfl (by decide:1+1<=2) D2;have C4:=(C3.nw [eu (b ^^^ 1)]).wr 1 [eu (b ^^^ 1)];have AW:ApL (s.nx+1) s1 (wr (nw (wr (nw s2 [eu (a ^^^ 1)]) (s.nx+1) 0 [eu (a ^^^ 1)]) [eu (b ^^^ 1)]) (s.nx+1) 1 [eu (b ^^^ 1)]):=by
  have A2:ApL (s.nx+1) s1 s2:=by rw[n1] at A2;exact A2
  exact(((A2.nw2 om _).wr2 (η _) _ _).nw2 om _).wr2 (η _) _ _
 have AA:=(Aft.refl H1 w).apl AW om;have hnd:¬ O (s.nx+1):=λh=>by have:=H.lt h;omega
 repeat' first|apply jb<;>intro _|simp(disch:=try exact dzA) only[n1,rzZ,γ,ε]
 refine jf6 ?_
 (have zz:=@l2;repeat' first|apply jb<;>intro _|simp(disch:=try exact JY) only[n1,n2,g0,g1,l2,xa,xb,e1,e2,ν,l2,rzZ,γ,ε])
 refine jhA hb (l:=[a ^^^ 1,b ^^^ 1]) (n:=2) _ AA.gm w rfl (λx hx=>by rcases QaT.1 hx with rfl|hx;exact ha1;rw[QaL.1 hx];exact hb1) hs C4 hnd _ _ λe O' G' s' A I=>?_;have xe:=λ(s:St) (K:AV->St->Prop)=>VX (st:=s) (K:=K) (a:=e) (by have:=I.1;have:=A.wf.most;unfold Gr.has at *;omega);repeat' first|apply jb<;>intro _|simp(disch:=try exact dzA) only[xe,rzZ,γ,ε]
 have A3:=AA.trans A (η _);rw[<-hs1] at A3;refine hK _ _ _ _ (((Aft.refl H w).nw [eu a,eu b]).trans A3.bak om) (I.not.of λv o=>?_);simp[ub]
theorem Gj {G:Gr}(h:G.has a):G.has (a ^^^ 1):=by unfold Gr.has;rw[ZY];exact h
theorem jf9 {G:Gr}(w:G.WF)(h:G.has a)(s:St)(K:AV->St->Prop):jk (yE .xor (eu a) (.int .u32 1) s) K=K (eu (a ^^^ 1)) s:=VX (by have:=w.most;unfold Gr.has at h;omega)
theorem jtJ (hb:NB base){g:Nat}{O:Nat->Prop}{G:Gr}{c a b:Nat}(st:St)(H:GM st g O G)(w:G.WF)(hc:G.has c)(ha:G.has a)(hb2:G.has b)(hs:G.parts.length+6<=1048576)(K Kp:AV->St->Prop)
  (hK:∀ e O' G' s',Aft g O G 3 st O' G' s'->G'.Is e (λv=>if ed v c=true then ed v a else ed v b)->K (.tup [eu e,.int .i64 0]) s'):XB δ base 112 [.ptr g 0,eu c,eu a,eu b] st K Kp:=by
 have T:=λK Kp=>He hb (l:=[c,a,b]) (n:=3) rfl om (λx hx=>by simp at hx;rcases hx with rfl|rfl|rfl<;>assumption) (nw st.bare [eu c,eu a,eu b]) (H.bar.nw _) w st.nx 3 true (Cl.new st.bare [eu c,eu a,eu b]) K Kp;have x1:=jf9 w hc;have A0:=(Aft.refl H.bar w).nw [eu c,eu a,eu b];refine qu jtY haa (hb.at0 112 dc dc _ _) ?_;simp only[jm3,jj,ζ,θ,κ,μ];rw[(by unfold jfH;simp only[qq];rfl:jfH=_)];repeat' first|apply jb<;>intro _|simp(disch:=try exact dzA) only[T,rzZ,γ,ε]
 refine WJ hb _ A0.gm w hc ha om _ _ λe1 O1 G1 s1 A1 I1=>?_;have A1:=A0.trans A1 (η _);repeat' first|apply jb<;>intro _|simp(disch:=try exact dzA) only[x1,rzZ,γ,ε]
 refine WJ hb _ A1.gm A1.wf (A1.le.has (Gj hc)) (A1.le.has hb2) (by have:=A1.len;omega) _ _ λe2 O2 G2 s2 A2 I2=>?_;have A12:=A1.trans A2 (η _);repeat' first|apply jb<;>intro _|simp(disch:=try exact dzA) only[rzZ,γ,ε]
 refine jvh hb _ A12.gm A12.wf (A2.le.has I1.1) I2.1 (by have:=A12.len;omega) _ _ λe3 O3 G3 s3 A3 I3=>?_;repeat' first|apply jb<;>intro _|simp(disch:=try exact dzA) only[rzZ,γ,ε]
 refine hK _ _ _ _ (A12.trans A3 om).bak (I3.of λv o=>?_);rw[I2.2 v (A3.le.ok o),I1.2 v (A2.le.ok (A3.le.ok o))];show((ed v c && ed v a) ||(ed v (c ^^^ 1) && ed v b))=_;rw[ub];cases ed v c<;>simp
theorem jj4 (hb:NB base){g:Nat}{O:Nat->Prop}{G:Gr}{a b:Nat}(st:St)(H:GM st g O G)(w:G.WF)(ha:G.has a)(hb2:G.has b)(hs:G.parts.length+6<=1048576)(K Kp:AV->St->Prop)
  (hK:∀ e O' G' s',Aft g O G 3 st O' G' s'->G'.Is e (λv=>ed v a == ed v b)->K (.tup [eu e,.int .i64 0]) s'):XB δ base 78 [.ptr g 0,eu a,eu b] st K Kp:=by
 have T:=λK Kp=>He hb (l:=[b]) (n:=1) rfl om (λx hx=>by rw[QaL.1 hx];exact hb2) (nw st.bare [eu b]) (H.bar.nw _) w st.nx 1 true (Cl.new st.bare [eu b]) K Kp;have x1:=jf9 w hb2;have A0:=(Aft.refl H.bar w).nw [eu b];refine qu jvs haa (hb.at0 78 dc dc _ _) ?_;simp only[jpT,jj,ζ,θ,κ,μ];rw[(by unfold jkg;simp only[qq];rfl:jkg=_)];repeat' first|apply jb<;>intro _|simp(disch:=try exact dzA) only[T,x1,rzZ,γ,ε]
 refine jtJ hb _ A0.gm w ha hb2 (Gj hb2) om _ _ λe1 O1 G1 s1 A1 I1=>?_;repeat' first|apply jb<;>intro _|simp(disch:=try exact dzA) only[rzZ,γ,ε]
 refine hK _ _ _ _ (A0.trans A1 om).bak (I1.of λv o=>?_);rw[ub];cases ed v a<;>cases ed v b<;>rfl
def Gr.addI (G:Gr)(k:Nat):Gr:=⟨G.parts ++ Qbr k (0,0),G.ins ++ (ω k).map λi=>2 * (G.parts.length+i),G.kn⟩
theorem Gr.addI_0 (G:Gr):G.addI 0=G:=by simp[Gr.addI]
theorem Gr.addI_len (G:Gr)(k:Nat):(G.addI k).parts.length=G.parts.length+k:=by simp[Gr.addI]
theorem Gr.addI_S (G:Gr)(k:Nat):G.addI (k+1)=⟨(G.addI k).parts ++ [(0,0)],(G.addI k).ins ++ [2 * (G.addI k).parts.length],(G.addI k).kn⟩:=by
 rw[Gr.addI_len];unfold Gr.addI;rw[List.replicate_succ',Qbs,Qay,<-QaB,<-QaB];rfl
theorem Gr.addI_add (G:Gr)(j:Nat):∀ k,(G.addI j).addI k=G.addI (j+k)
 |0=>Gr.addI_0 _
 |k+1=>by rw[Gr.addI_S,Gr.addI_add G j k,<-Qbj,Gr.addI_S]
theorem Gr.WF.inp {G:Gr}(w:G.WF)(hl:G.parts.length<1048576):Gr.WF ⟨G.parts ++ [(0,0)],G.ins ++ [2 * G.parts.length],G.kn⟩:=by
 have w2:=w.push hl (a:=0) (b:=0) (λh=>absurd rfl h);have h0:=w.len;refine⟨w2.z,w2.most,w2.down,λa ha=>?_,?_,w2.kn⟩
 .rcases QaH.1 ha with h|h
  .exact w2.ins a h
  .rw[QaL.1 h];refine⟨om,om,?_⟩;rw[show 2 * G.parts.length / 2=G.parts.length by omega];simp
 .refine List.nodup_append.2 ⟨w.nd,by simp,λa ha b hb=>?_⟩;rw[QaL.1 hb];intro e;have h1:=(w.ins a ha).2.2;have:=(Qbk.1 h1).1;omega
theorem Gr.WF.addI {G:Gr}(w:G.WF):∀ {k:Nat},G.parts.length+k<=1048576->(G.addI k).WF
 |0,_=>by rw[Gr.addI_0];exact w
 |k+1,h=>by rw[Gr.addI_S];exact(w.addI (k:=k) om).inp (by rw[Gr.addI_len];omega)
theorem GM.inp {G:Gr}(H:GM s g O G)(e:Nat)(hn:G.ins.length<=1048576):∃ iv s2 O',rat s.h g 1=iv/\jV s.h g=3/\g<s.nx/\(∀ K:AV->St->Prop,jk (JG 1 4 iv (.slice s.nx 0 1 1 1 true) (Go.Sy.nw s [eu e])) K=K (.slice (s.nx+1) 0 (G.ins.length+1) (G.ins.length+1) 1 false) s2)/\jV s2.h g=3/\GM (Go.Sy.wr s2 g 1 [.slice (s.nx+1) 0 (G.ins.length+1) (G.ins.length+1) 1 false]) g O' ⟨G.parts,G.ins ++ [e],G.kn⟩/\Fr2 O O' s (Go.Sy.wr s2 g 1 [.slice (s.nx+1) 0 (G.ins.length+1) (G.ins.length+1) 1 false]):=by
 obtain⟨p,q,r,x,rfl,B⟩:=H;have hg:g<s.nx:=B.C.lt;have hp:p<s.nx:=B.P.lt;have hr:r<s.nx:=B.rl;have hgp:=B.gp;have hgr:=B.gr;have hpr:=B.pr;have hq:G.ins≠[]->q<s.nx:=λh=>(B.Q h).1.lt;have V:∃ lo hi,Lv lo hi (Go.Sy.nw s [eu e]) (QW q G.ins) G.ins.length (G.ins.map eu) 1/\lo<=s.nx/\∀ c,c<s.nx->¬ (lo<=c/\c<hi)\/(G.ins≠[]/\c=q):=by
  by_cases h:G.ins=[]
  .exact⟨0,0,.inl ⟨by unfold QW;rw[if_pos h],by rw[h];rfl,by rw[h];rfl⟩,Qae _,λc _=>.inl om⟩
  .obtain⟨Q1,Q2⟩:=B.Q h;refine⟨q,q+1,.inr ⟨q,by unfold QW;rw[if_neg h],QbO.2 h,by simp,Q1.nw _,η _,QaW _⟩,Qbo Q1.lt,λc hc=>?_⟩;by_cases h2:c=q
   .exact .inr ⟨h,h2⟩
   .exact .inl om
 obtain⟨lo,hi,V,hlo,hV⟩:=V;have hr1:rats (Go.Sy.nw s [eu e]).h s.nx 0 1=[eu e]:=(Cl.new s [eu e]).rats0 rfl;have A:=V.app (news:=[eu e]) rfl (by rw[jf];omega);have kk:∀ c,c<s.nx->(G.ins≠[]->c≠q)->jv (aps (QW q G.ins) (Go.Sy.nw s [eu e]) [eu e]).h c=jv s.h c:=λc hc hcq=>by
  rcases hV c hc with h|⟨h1,h2⟩
  .exact(V.get _ _ c om (by rw[jf];omega)).trans (qp om)
  .exact absurd h2 (hcq h1)
 have kg:=kk g hg λh=>λe=>(B.Q h).2.1 e.symm;have kp:=kk p hp λh=>λe=>(B.Q h).2.2.1 e.symm;have kr:=kk r hr λh=>λe=>(B.Q h).2.2.2 e.symm;have hn2:(aps (QW q G.ins) (Go.Sy.nw s [eu e]) [eu e]).nx=s.nx+2:=by rw[jm,jf]
 have hv:apv 1 (QW q G.ins) (Go.Sy.nw s [eu e])=.slice (s.nx+1) 0 (G.ins.length+1) (G.ins.length+1) 1 false:=by
  unfold QW;by_cases h:G.ins=[]
  .rw[if_pos h,h];rfl
  .rw[if_neg h];rfl
 have D:Cl (aps (QW q G.ins) (Go.Sy.nw s [eu e]) [eu e]) (s.nx+1) ((G.ins ++ [e]).map eu):=by
  rw[hv] at A;rcases A with ⟨e1,_⟩|⟨c,e1,_,_,D,_⟩
  .cases e1
  .injection e1 with e2
   rw[e2,Qay];exact D
 have hne:G.ins ++ [e]≠[]:=by simp
 refine⟨QW q G.ins,aps (QW q G.ins) (Go.Sy.nw s [eu e]) [eu e],Ho g p (s.nx+1) r ⟨G.parts,G.ins ++ [e],G.kn⟩,B.C.cell 1 hac,B.C.len,hg,λK=>?_,(yo kg).trans B.C.len,⟨p,s.nx+1,r,x,rfl,?_⟩,⟨?_,?_,λc hc ho=>?_,λc hc=>?_⟩⟩
 .rw[Jt V dc om om (by rw[(Cl.new s [eu e]).len];exact η 1),hr1,hv]
 .have C1:=(B.C.keep (s':=aps (QW q G.ins) (Go.Sy.nw s [eu e]) [eu e]) om kg).wr 1 [.slice (s.nx+1) 0 (G.ins.length+1) (G.ins.length+1) 1 false];refine⟨?_,(B.P.keep (s':=aps (QW q G.ins) (Go.Sy.nw s [eu e]) [eu e]) om kp).wrO (λe=>hgp e.symm) _ _,λ_=>⟨D.wrO om _ _,om,om,om⟩,(qW (λe=>hgr e.symm)).trans (kr.trans B.M),by show r<_;rw[ji,hn2];omega,hgp,hgr,hpr⟩;have:QW (s.nx+1) (G.ins ++ [e])=.slice (s.nx+1) 0 (G.ins.length+1) (G.ins.length+1) 1 false:=by
   unfold QW;rw[if_neg hne];simp
  show Cl _ g [_,QW (s.nx+1) (G.ins ++ [e]),_];rw[this];exact C1
 .rw[ji,hn2];omega
 .rw[uL,QM,ZT]
 .exact(qW (λh=>ho (.inl h))).trans (kk c hc λh h2=>ho (.inr (.inr (.inr ⟨h,h2⟩))))
 .rcases hc with h|h|h|⟨_,h⟩
  .exact .inl (.inl h)
  .exact .inl (.inr (.inl h))
  .exact .inl (.inr (.inr (.inl h)))
  .exact .inr om
theorem jpH (hb:NB base){g:Nat}{O:Nat->Prop}{G:Gr}(st:St)(H:GM st g O G)(w:G.WF)(hN:G.parts.length<1048576)(hi:G.ins.length<=1048576)(K Kp:AV->St->Prop)
  (hK:∀ O' s',GM s' g O' (G.addI 1)->Fr2 O O' st s'->K (.tup [eu (2 * G.parts.length),.int .i64 0]) s'):XB δ base 81 [.ptr g 0] st K Kp:=by
 have hM:=λK Kp hK=>jiM hb (a:=0) (b:=0) st.bare H.bar w hN (λh=>absurd rfl h) K Kp hK;have e0:zu (0,0)=.agg [.int .u32 0,.int .u32 0]:=rfl;rw[e0] at hM;have eI:=(G.addI_S 0).symm;rw[G.addI_0] at eI;refine qu jvp haa (hb.at0 81 dc dc _ _) ?_;simp only[jpQ,jj,ζ,θ,κ,μ];rw[(by unfold jkd;simp only[qq];rfl:jkd=_)];repeat' first|apply jb<;>intro _|simp(disch:=try exact dzA) only[rzZ,γ,ε]
 refine hM _ _ λO1 s1 A1=>?_;obtain⟨iv,s2,O2,q1,q2,q3,eA,q4,H2,F2⟩:=A1.gm.inp (2 * G.parts.length) hi;rw[eI] at H2;have hl1:(nw s1 [eu (2 * G.parts.length)]).nx=s1.nx+1:=rfl
 (have zz:=aI @q2 @q4;repeat' first|apply jb<;>intro _|simp(disch:=try exact JY) only[q1,q2,eA,q4,q2,q4,rzZ,γ,ε])
 have FF:=A1.fr.trans F2;exact hK O2 _ (H2.keep (η _) λ_ _=>rfl) ⟨FF.nx,rfl,FF.keep,FF.own⟩
def Fl (s:St)(d k:Nat)(ls:List AV):Prop:=∃ cs,Cl s d cs/\cs.length=ls.length/\cs.take k=ls.take k
theorem Fl.wr (h:Fl s d k ls)(hk:k<ls.length):Fl (Go.Sy.wr s d k [ls[k]]) d (k+1) ls:=by
 obtain⟨cs,C,hl,e⟩:=h;refine⟨cs.set k ls[k],vh▸C.wr k _,by rw[QbQ,hl],?_⟩;rw[QbG hk,QbG (by rw[QbQ];omega),List.take_set_of_le (η k),e,List.getElem_set_self]
theorem Fl.nw (h:Fl s d k ls)(ds:List AV):Fl (Go.Sy.nw s ds) d k ls:=by
 obtain⟨cs,C,hl,e⟩:=h;exact⟨cs,C.nw ds,hl,e⟩
theorem Fl.cl (h:Fl s d k ls)(hk:ls.length<=k):Cl s d ls:=by
 obtain⟨cs,C,hl,e⟩:=h;rw[Qbb hk,Qbb om] at e;exact e▸C
theorem Fl.keep (h:Fl s d k ls)(F:Fr2 O O' s t)(hd:¬ O d):Fl t d k ls/\¬ O' d:=by
 obtain⟨cs,C,hl,e⟩:=h;have:=F.cl C hd;exact⟨⟨cs,this.1,hl,e⟩,this.2⟩
theorem Fl.at (h:Fl s d k ls):jV s.h d=ls.length/\d<s.nx:=by
 obtain⟨cs,C,hl,e⟩:=h;exact⟨by rw[C.len,hl],C.lt⟩
theorem jn4 {h:T AO}{v u:AV}{ks:Lc}{k:IntKind}{n:Int}(e:fz 8 h v=some (u,ks)):fz 9 h (.tup [v,.int k n])=some (.tup [u,.int k n],ks):=by
 show((fzs (fz 8 h) [v,.int k n]).map λp=>(AV.tup p.1,p.2))=_;simp only[fzs,e];simp[fz]
theorem Fr2.wr (F:Fr2 O O' s t)(h:s.nx<=b)(o:Nat)(vs:List AV):Fr2 O O' s (Go.Sy.wr t b o vs):=⟨F.nx,F.fr,λc hc ho=>(qW om).trans (F.keep c hc ho),F.own⟩
theorem jnR {G:Gr}{v u:AV}{ks:Lc}(e:fz 9 s.h v=some (u,ks))(hk:∀ b∈ks,¬ O' b/\st.nx<=b)(H:GM s g O' G)(F:Fr2 O O' st.bare s)(hK:∀ s',GM s' g O' G->Fr2 O O' st s'->K u s'):∃ u ks,fz 9 s.h v=some (u,ks)/\K u (back st (kills ks s)):=by
 refine⟨u,ks,e,hK _ (H.keep (η _) λc hc=>?_) ⟨F.nx,rfl,λc hc ho=>?_,F.own⟩⟩
 .show jv (ks.foldr _ s.h) c=_;rw[JQ,if_neg λh=>(hk c h).1 hc]
 .have hn:st.bare.nx=st.nx:=rfl;refine Eq.trans ?_ (F.keep c hc ho);show jv (ks.foldr _ s.h) c=_;rw[JQ,if_neg λh=>by have:=(hk c h).2;omega]
def QU (n w:Nat):Lc:=(ω w).map λi=>2 * (n+i)
theorem jol (hb:NB base){g:Nat}{O:Nat->Prop}{G:Gr}{wd:Nat}(st:St)(H:GM st g O G)(w:G.WF)(h1:1<=wd)(h2:wd<=32)(hN:G.parts.length+wd<=1048576)(hI0:G.ins.length+wd<=1048576)(K Kp:AV->St->Prop)
  (hK:∀ O' s',GM s' g O' (G.addI wd)->Fr2 O O' st s'->K (.tup [.lst wd ((QU G.parts.length wd).map eu),.int .i64 0]) s'):XB δ base 49 [.ptr g 0,.int .i64 (wd:Int)] st K Kp:=by
 have d1:¬ (wd:Int)<1:=om
 have d2:¬ (32:Int)<(wd:Int):=om
 refine vW jvD haa (hb.pur 49 2 dc) (hb.no 49 dc _ _) ?_;simp only[jp4,jj,ζ,θ,κ,μ];rw[(by unfold jkr;simp only[qq];rfl:jkr=_)];repeat' first|apply jb<;>intro _|simp(disch:=try exact dzA) only[d1,d2,Vr,rzZ,γ,ε]
 refine jnJ om λs1 C1 a1 n1=>?_;have hbn:st.bare.nx=st.nx:=rfl;rw[hbn] at C1 a1 n1;have H1:=H.bar.apl a1 (η _);have hd:¬ O st.nx:=λh=>Qba _ (H.lt h);have F1:Fr2 O O st.bare s1:=Fr2.of a1 (η _);repeat' first|apply jb<;>intro _|simp(disch:=try exact dzA) only[hbn,rzZ,γ,ε]
 have hlen:(QU G.parts.length wd).length=wd:=by simp[QU]
 have L1:Fl s1 st.nx 0 ((QU G.parts.length wd).map eu):=⟨_,C1,by rw[uj,Qac,hlen],rfl⟩;refine jU wd (λk L s=>(∃ O',GM s g O' (G.addI k)/\Fr2 O O' st.bare s/\¬ O' st.nx/\Fl s st.nx k ((QU G.parts.length wd).map eu))/\Has L 0 (.ptr g 0)/\Has L 6 (.slice st.nx 0 wd wd 1 true)) ?_ (λk L s hk hI hi hn=>?_) (λL s hI=>?_)
 .refine⟨⟨O,by rw[Gr.addI_0];exact H1,F1,hd,L1⟩,?_,?_⟩<;>exact hsX
 .obtain⟨⟨O1,H2,F2,hd2,L2⟩,i0,i6⟩:=hI;have hal:=G.addI_len k;have hil:(G.addI k).ins.length=G.ins.length+k:=by simp[Gr.addI]
  repeat' first|apply jb<;>intro _|simp(disch:=try exact dzA) only[ja i0,ja hi,ja hn,rzZ,γ,ε]
  refine jpH hb s H2 (w.addI om) om om _ _ λO2 s2 H3 F3=>?_;obtain⟨L3,hd3⟩:=L2.keep F3 hd2;obtain⟨ll,ln⟩:=L3.at;have L4:=L3.wr (by rw[Qac,hlen];exact hk);rw[Qac,hlen] at ll;have ge:((QU G.parts.length wd).map eu)[k]'(by rw[Qac,hlen];exact hk)=eu (2 * (G.addI k).parts.length):=by simp[QU,hal]
  rw[ge] at L4;rw[Gr.addI_add] at H3;repeat' first|apply jb<;>intro _|simp(disch:=try exact dzA) only[ja i6,ja hi,ll,rzZ,γ,ε]
  refine⟨⟨⟨O2,H3.wr hd3 _ _,(F2.trans F3).wr (η _) _ _,hd3,L4⟩,?_,?_⟩,?_,?_⟩;all_goals exact hsX
 .obtain⟨⟨O1,H2,F2,hd2,L2⟩,i0,i6⟩:=hI;have C:=L2.cl (by rw[Qac,hlen];exact η _);repeat' first|apply jb<;>intro _|simp(disch:=try exact dzA) only[ja i6,rzZ,γ,ε]
  have hfz:=Zx (d:=6) (n:=wd) (m:=wd) (z:=1) (x:=true) C (by rw[Qac,hlen,Qaz]) (UV _);exact jnR (s:=s.bare) (jn4 (k:=.i64) (n:=0) hfz) (λb hb=>by rw[QaL.1 hb];exact⟨hd2,η _⟩) H2.bar (⟨F2.nx,rfl,F2.keep,F2.own⟩:Fr2 O O1 st.bare s.bare) (hK O1)
end Go.Sy
end
noncomputable section
set_option maxRecDepth 100000
namespace Go.Sy
open Go.Ev Go.Proofs
variable {base:Bs}
variable {w n b u g k d j:Nat}{cs:List AV}{s st:St}{K:AV->St->Prop}{l es:Lc}{O:Nat->Prop}{A:List Bool}{P:List (Nat×Nat)}{ns:List ((Nat->Bool)->Int)}
theorem juN (hb:NB base)(l:List AV)(h1:1<=w)(h2:w<=32):Tot base 107 [.lst w l] (.bool false):=by
 refine hb.pl ?_ rfl rfl;have e1:¬ (w:Int)<1:=om
 have e2:¬ (32:Int)<(w:Int):=om
 refine yb jt3 haa (hb.pur 107 5 dc) rfl ?_;simp only[jm8,jj,ζ,θ,κ,μ];rw[(by unfold jfM;simp only[qq];rfl:jfM=_)];repeat' first|apply jb<;>intro _|simp(disch:=try exact dzA) only[e1,e2,rzZ,γ,ε]
 exact G0.v rfl rfl
theorem jeE (hb:NB base)(hn:cs.length=n)(hs:n<=1048576)(h:∀ k,k<n->∃ w l,cs.getD k .bad=.lst w l/\1<=w/\w<=32):PL δ base 73 [.lst n cs] (.ok (.bool true)):=by
 have E1:=hb.pl (jiK hb (f:=107) (caps:=[]) (jtW:jx δ 143=some K1) dc hn hs λk hk=>by
  obtain⟨w,l,e,h1,h2⟩:=h k hk;rw[e];exact juN hb l h1 h2) rfl rfl
 have E2:Tot base 106 [.lst n cs,.fn 107 []] (.bool false):=by
  refine hb.pl ?_ rfl rfl;refine yb jt4 haa (hb.pur 106 5 dc) rfl ?_;simp only[jm9,jj,ζ,θ,κ,μ];rw[(by unfold jfN;simp only[qq];rfl:jfN=_)];repeat' first|apply jb<;>intro _|simp(disch:=try exact dzA) only[E1,rzZ,γ,ε]
  exact G0.v rfl rfl
 refine yb jvx haa (hb.pur 73 5 dc) rfl ?_;simp only[jpY,jj,ζ,θ,κ,μ];rw[(by unfold jkl;simp only[qq];rfl:jkl=_)];repeat' first|apply jb<;>intro _|simp(disch:=try exact dzA) only[E2,rzZ,γ,ε]
 exact G0.v rfl rfl
theorem jcD (hb:NB base)(l:List AV)(h1:1<=w)(h2:w<=32)(st:St)(b m:Nat)(x:Bool)(K Kp:AV->St->Prop)(C:Cl st b [.lst w l]):XB δ base 73 [.slice b 0 1 m 1 x] st K Kp=K (.bool true) st:=
 (jeE hb (n:=1) (cs:=[.lst w l]) rfl dc λk hk=>⟨w,l,by rw[show k=0 by omega];rfl,h1,h2⟩).xb (qw (wO C rfl rfl) rfl) (λst=>hb.no 73 dc _ _) K Kp
theorem jlV (hb:NB base){v:Nat}(l k:List AV)(h1:1<=w)(h2:w<=32)(h3:1<=v)(h4:v<=32)(st:St)(b m:Nat)(x:Bool)(K Kp:AV->St->Prop)(C:Cl st b [.lst w l,.lst v k]):XB δ base 73 [.slice b 0 2 m 1 x] st K Kp=K (.bool true) st:=
 (jeE hb (n:=2) (cs:=[.lst w l,.lst v k]) rfl dc λj hj=>by
  have:j=0\/j=1:=om
  rcases this with rfl|rfl
  .exact⟨w,l,rfl,h1,h2⟩
  .exact⟨v,k,rfl,h3,h4⟩).xb (qw (wO C rfl rfl) rfl) (λst=>hb.no 73 dc _ _) K Kp
theorem u2 (v:AV)(n:Nat):(qP [v] n).length=n:=by
 induction n with
 |zero=>rfl
 |succ n ih=>
  have:qP [v] (n+1)=yN [v] (qP [v] n):=rfl;rw[this,yu,υ,ih];simp;omega
theorem ju3 (h0:0<n)(hn:n<=64)(st:St)(K:AV->St->Prop):jk (biV δ .append #[58,3] [.nils,.int .i64 (n:Int)] st) K=K (.slice st.nx 0 n n 1 false) (nw st (qP [.int .u32 0] n)):=by
 have h:biV δ .append #[58,3] [.nils,.int .i64 (n:Int)] st=qv (.int .i64 (n:Int)) λn=>cond (QcC (QcE n 4) 281474976710656) (cond (QcC n 9223372036854775807) (qO st 1 4 .nils n (qP [.int .u32 0] n)) .no) .no:=Qa0
 have e1:QcC (QcE n 4) 281474976710656=true:=qo (by show n * 4<=_;omega);have e2:QcC n 9223372036854775807=true:=qo om;have e3:QcA (jP (qP [.int .u32 0] n)) n=true:=XT (by rw[jO,u2]);have e4:QcA n 0=false:=jhn om;have e5:QcC (QcE n 4) 140737488355328=true:=qo (by show n * 4<=_;omega);have e6:QcE n 1=n:=Qaz n;rw[h,Wp];simp only[e1,e2,cond_true,qO,e3,e4,cond_false,e5,jF,e6,St.alloc_eq,jk];unfold nw;rw[u2]
theorem ju2 (st:St)(K:AV->St->Prop):jk (biV δ .cap #[58] [.nils] st) K=K (.int .i64 0) st:=by
 have:biV δ .cap #[58] [.nils] st=.ok (.int .i64 0) st:=Qa0
 rw[this];rfl
theorem ju1 (st:St)(K:AV->St->Prop):jk (Zk 1 .nils none (some (.int .i64 0)) st) K=K .nils st:=rfl
theorem ju0 (b n:Nat)(x:Bool)(st:St)(K:AV->St->Prop):jk (Zk 1 (.slice b 0 n n 1 x) none (some (.int .i64 0)) st) K=K (.slice b 0 0 n 1 x) st:=by
 have e:QcC 0 n=true:=qo (Qae n);have h:Zk 1 (.slice b 0 n n 1 x) none (some (.int .i64 0)) st=cond (QcC 0 n) (force (QcF 0 0) λk=>force (QcD 0 (QcE 0 1)) λo=>force (QcF n 0) λc=>.ok (.slice b o k c 1 x) st) .no:=rfl;rw[h,e];simp only[cond_true,jF];rfl
theorem jtL (hb:NB base)(h0:0<n)(hn:n<=64)(st:St)(K Kp:AV->St->Prop)(hK:∀ s',Cl s' st.nx (qP [.int .u32 0] n)->ApL st.nx st s'->s'.nx=st.nx+1->K (.slice st.nx 0 0 n 1 false) s'):XB δ base 178 [.nils,.int .i64 (n:Int)] st K Kp:=by
 have d1:¬ (n:Int)<0:=om
 have d2:(0:Int)<(n:Int):=om
 have g:=ju3 h0 hn;refine qu jtS haa (hb.at0 178 dc dc _ _) ?_;simp only[jmZ,jj,ζ,θ,κ,μ];rw[(by unfold jfC;simp only[qq];rfl:jfC=_)];repeat' first|apply jb<;>intro _|simp(disch:=try exact dzA) only[d1,d2,g,ju2,ju1,ju0,Int.sub_zero,rzZ,γ,ε]
 have C:=Cl.new st.bare (qP [.int .u32 0] n);exact hK _ ⟨C.lt,C.row,C.len,C.cell⟩ ⟨Qbd _,rfl,λc hc h=>qp (s:=st.bare) (QaD hc)⟩ rfl
theorem jfy {sl cap bytes:Nat}{ex:Bool}{cells:List AV}(C:Cl s b cells)(hc:cells.length=cap)(h:sl+n<=cap)(hl:cs.length=n)(hn:0<n) :
  jk (JG 1 bytes (.slice b 0 sl cap 1 ex) (.lst n cs) s) K=K (.slice b 0 (sl+n) cap 1 ex) (wr s b sl cs):=by
 refine jj1 C hc h (λk=>rfl) (λk=>?_) hl hn;have e1:QcC (QcE n 1) (jP cs)=true:=qo (by rw[jO,hl];exact QaY (Qaz n));have e2:yl cs (QcE n 1)=cs:=by rw[qX,<-hl,show QcE cs.length 1=cs.length from Qaz _,Qak]
 simp only[firstCells,e1,cond_true,e2]
theorem jov {n1 n2:Nat}{c1 c2 Z:List AV}(h1:c1.length=n1)(h2:c2.length=n2)(hz:Z.length=n1+n2):upd (upd Z 0 c1) n1 c2=c1 ++ c2:=by
 have k1:∀ (c Z:List AV),c.length<=Z.length->upd Z 0 c=c ++ Z.drop c.length:=by
  intro c;induction c with
  |nil=>intro Z _;cases Z<;>rfl
  |cons x c ih=>
   intro Z h;cases Z with
   |nil=>cases h
   |cons z Z=>
    show x :: upd Z 0 c=_;rw[ih Z (by simpa using h)];rfl
 have k2:∀ (c Y v:List AV),upd (c ++ Y) c.length v=c ++ upd Y 0 v:=by
  intro c;induction c with
  |nil=>intro Y v;rfl
  |cons x c ih=>intro Y v;show x :: upd (c ++ Y) c.length v=_;rw[ih];rfl
 rw[k1 c1 Z om,<-h1,k2,k1 c2 _ (by rw[Qav];omega),List.drop_of_length_le (by rw[Qav];omega),QaU]
theorem jmY (hb:NB base){n1 n2:Nat}{c1 c2:List AV}(h1:1<=n1)(h1':n1<=32)(h2:1<=n2)(h2':n2<=32)(hl1:c1.length=n1)(hl2:c2.length=n2)(hp1:c1.all pc=true)(hp2:c2.all pc=true) :
  Tot base 145 [.lst 2 [.lst n1 c1,.lst n2 c2]] (.lst (n1+n2) (c1 ++ c2)):=by
 refine hb.tot ?_ rfl rfl;have d1:¬ (n1:Int)<0:=om
 have d2:¬ (n1:Int)+(n2:Int)<0:=om
 have d3:(n1:Int)+(n2:Int)=((n1+n2:Nat):Int):=om
 refine jB jtU haa (hb.pur 145 1 dc) ?_;simp only[jm1,jj,ζ,θ,κ,μ];rw[(by unfold jfE;simp only[qq];rfl:jfE=_)];repeat' first|apply jb<;>intro _|simp(disch:=try exact dzA) only[rzZ,γ,ε]
 refine jf6 ?_;repeat' first|apply jb<;>intro _|simp(disch:=try exact dzA) only[qI,ν,d1,d2,d3,rzZ,γ,ε]
 refine jtL hb om om _ _ _ λs1 C1 a1 hn=>?_;have C1:Cl s1 0 (qP [.int .u32 0] (n1+n2)):=C1;have hz:=u2 (.int .u32 0) (n1+n2);generalize qP [.int .u32 0] (n1+n2)=Z at *;have e1:=λK:AV->St->Prop=>jfy (K:=K) (bytes:=4) (ex:=false) (sl:=0) C1 hz om hl1 om;have C2:=C1.wr 0 c1;have e2:=λK:AV->St->Prop=>jfy (K:=K) (bytes:=4) (ex:=false) (sl:=n1) C2 (by rw[vi,hz]) (η _) hl2 om;have C3:=C2.wr n1 c2;rw[jov hl1 hl2 hz] at C3;rw[Qaj] at e1;repeat' first|apply jb<;>intro _|simp(disch:=try exact dzA) only[rzZ,γ,ε]
 refine jf6 ?_;repeat' first|apply jb<;>intro _|simp(disch:=try exact dzA) only[qI,ν,e1,e2,rzZ,γ,ε]
 refine FzD.slice (Cl.rw_ (b:=0) (cs:=c1 ++ c2) ?_) (by simp[hl1,hl2]) (Qae _) ?_
 .simp only[jz];exact C3
 .rw[Qbb (by simp[hl1,hl2])];exact FzsD.pc (by rw[QaN,hp1,hp2];rfl)
structure VN (G:Gr)(l:Lc)(n:(Nat->Bool)->Int):Prop where
 h1:1<=l.length
 h2:l.length<=28
 is:∀ i (h:i<l.length),G.Is l[i] λv=>bt (n v) i
 fit:∀ v,G.Ok v->Qe (n v) (n v) l.length
theorem VN.up {G H:Gr}{n:(Nat->Bool)->Int}(k:VN G l n)(h:G.Le H):VN H l n:=⟨k.h1,k.h2,λi hi=>(k.is i hi).up h,λv o=>k.fit v (h.ok o)⟩
theorem jcg {lo hi:Int}(h1 : -100000000<=lo)(h2:hi<=100000000):wd lo hi<=28:=by
 obtain⟨_,_,_,h⟩:=Qr h1 h2;rcases Qaq 28 (wd lo hi) with k|k
 .have:=h 27 om;simp only[show(2:Int) ^ 27=134217728 by decide] at this;omega
 .exact k
def z8 (l:Lc)(u:Nat):Lc:=l ++ Qbr (u - l.length) (l.getD (l.length - 1) 0)
theorem Xm (h:l.length<=u):(z8 l u).length=u:=by simp[z8];omega
theorem VN.ext {G:Gr}{n:(Nat->Bool)->Int}(k:VN G l n)(h:l.length<=u)(hu:u<=28):VN G (z8 l u) n:=by
 have hl:=Xm h;have h1:=k.h1;refine⟨om,om,λi hi=>?_,λv o=>jfc (k.fit v o) (Int.le_refl _) (Int.le_refl _) om⟩;by_cases hi2:i<l.length
 .have:(z8 l u)[i]=l[i]:=Qcx hi2;rw[this];exact k.is i hi2
 .have hlast:l.length - 1<l.length:=om
  have:(z8 l u)[i]=l[l.length - 1]:=by
   refine(Qcy om).trans ?_;rw[List.getElem_replicate,Qab,Qad hlast];rfl
  rw[this];refine(k.is _ hlast).of λv o=>?_;rw[WE (k.fit v o) (η _),WE (k.fit v o) om]
theorem jvm (hb:NB base){G:Gr}(w:G.WF):Tot base 146 [gL G] (.int .i64 (G.parts.length:Int)):=by
 refine hb.pl ?_ rfl rfl;unfold gL;refine yb jtT haa (hb.pur 146 5 dc) rfl ?_;simp only[jm0,jj,ζ,θ,κ,μ];rw[(by unfold jfD;simp only[qq];rfl:jfD=_)];repeat' first|apply jb<;>intro _|simp(disch:=try exact dzA) only[qI,rzZ,γ,ε]
 exact G0.v rfl rfl
theorem jo9 (hb:NB base){G:Gr}{k:Lc}(st:St)(H:GM st g O G)(w:G.WF)(h1:1<=l.length)(h2:l.length<=32)(h3:1<=k.length)(h4:k.length<=32)(hl:∀ a∈l,G.has a)(hk:∀ a∈k,G.has a)(b c:Nat)(x:Bool)(K Kp:AV->St->Prop)(C:Cl st b [.lst l.length (l.map eu),.lst k.length (k.map eu)]):XB δ base 111 [.ptr g 0,.slice b 0 2 c 1 x] st K Kp=K (.int .i64 0) st:=by
 refine PL.xb (?_:PL δ base 111 [gL G,.lst 2 [.lst l.length (l.map eu),.lst k.length (k.map eu)]] (.ok (.int .i64 0))) (qw H.lend (qw (wO C rfl rfl) rfl)) (λst=>hb.no 111 dc _ _) K Kp;have E:=jmY hb h1 h2 h3 h4 (by simp:(l.map eu).length=l.length) (by simp:(k.map eu).length=k.length) (UV l) (UV k);rw[<-Qay] at E;have hm:=w.most;have ha:∀ a∈l ++ k,G.has a:=λa h=>(QaH.1 h).elim (hl a) (hk a);have hT:(l ++ k).length=l.length+k.length:=υ;have hL:=jvm hb w;generalize l ++ k=t at *;generalize gL G=gl at *;refine yb jtZ haa (hb.pur 111 5 dc) rfl ?_;simp only[jm4,jj,ζ,θ,κ,μ];rw[(by unfold jfI;simp only[qq];rfl:jfI=_)];repeat' first|apply jb<;>intro _|simp(disch:=try exact dzA) only[E,rzZ,γ,ε]
 refine jU (l.length+k.length) (λj L s=>Has L 0 gl/\Has L 8 (.lst (l.length+k.length) (t.map eu))) ?_ (λkz Lz sz hkz hIz hiz hnz=>?_) (λLz sz hIz=>?_)
 .simp(disch:=decide) only[h12]
 .obtain⟨i0,i8⟩:=hIz;have hjt:kz<t.length:=om
  have e:=Xs hjt;have ht:=ha _ (Qaa hjt);have hlt:(t.map eu).length=l.length+k.length:=by rw[Qac,hT]
  have x1:=λ(s:St) (K:AV->St->Prop)=>K9 (st:=s) (K:=K) (a:=t[kz]) (by unfold Gr.has at ht;omega);have x2:=λ(s:St) (K:AV->St->Prop)=>jet (st:=s) (K:=K) (a:=t[kz] / 2) (by unfold Gr.has at ht;omega);have x3:¬ ((G.parts.length:Int)<=((t[kz] / 2:Nat):Int)):=by unfold Gr.has at ht;omega
  repeat' first|apply jb<;>intro _|simp(disch:=try exact dzA) only[ja i0,ja i8,ja hiz,ja hnz,qI,hlt,e,x1,x2,x3,hL,rzZ,γ,ε]
  simp(disch:=decide) only[h12,i0,i8,hiz,hnz]
 .repeat' first|apply jb<;>intro _|simp(disch:=try exact dzA) only[rzZ,γ,ε]
  exact G0.v rfl rfl
theorem jsE (h:l.length<=u):z8 l u ++ [l.getD (l.length - 1) 0]=z8 l (u+1):=by
 unfold z8;rw[QaB,<-List.replicate_succ',show u+1 - l.length=u - l.length+1 by omega]
theorem jpN (hb:NB base)(h1:1<=w)(h2:w<=1000)(hl:cs.length=w)(st:St)(K Kp:AV->St->Prop)(hK:∀ b s',Cl s' b cs->st.nx<=b->ApL st.nx st s'->K (.slice b 0 w w 1 false) s'):XB δ base 74 [.lst w cs] st K Kp:=by
 have N:∀ (s:St) (K:AV->St->Prop),jk (QB δ .eql 58 true (.lst w cs) .nils s) K=K (.bool false) s:=λs K=>by
  obtain⟨j,rfl⟩:∃ j,w=j+1:=⟨w - 1,om⟩;have:QB δ .eql 58 true (.lst (j+1) cs) .nils s=.ok (.bool false) s:=Qa0
  rw[this];rfl
 refine qu jvw haa (hb.at0 74 dc dc _ _) ?_;simp only[jpX,jj,ζ,θ,κ,μ];rw[(by unfold jkk;simp only[qq];rfl:jkk=_)];obtain⟨v',s',e,w',q⟩:=jmM (s:=nw st.bare []) (lo:=st.nx) (hi:=st.nx+1) (bytes:=4) (z:=1) (n:=0) (cs:=[]) (cs2:=cs) (n2:=w) (v:=.slice st.nx 0 0 0 1 true) (Lw.new (s:=st.bare) (z:=1) (η _) (QaW _)) (η _) (by rw[hl,Qaz]) dc om om;repeat' first|apply jb<;>intro _|simp(disch:=try exact dzA) only[N,e,rzZ,γ,ε]
 obtain⟨b,ex,rfl,hex,h3,C,h5,h6⟩:=w';rw[Qaj] at hex ⊢;have:ex=false:=by
  cases ex with
  |false=>rfl
  |true=>have:=hex rfl;omega
 subst this;refine hK _ _ ⟨C.lt,C.row,C.len,C.cell⟩ h5 ⟨?_,rfl,λc hc hl=>?_⟩
 .have:=q.nx;rw[jf] at this;exact Nat.le_of_succ_le this
 .exact(q.hp c hc (by rw[jf];exact Qct hl)).trans (qp (QaD hl))
theorem jtx {y:AV}(C:Cl s b cs)(hl:cs.length=k)(h0:0<k)(hs:k<=1000):∃ s',(∀ K:AV->St->Prop,jk (JG 1 4 (.slice b 0 k k 1 false) (.slice s.nx 0 1 1 1 true) (nw s [y])) K=K (.slice (s.nx+1) 0 (k+1) (k+1) 1 false) s')/\Cl s' (s.nx+1) (cs ++ [y])/\s.nx<=s'.nx/\s'.fr=s.fr/\∀ c,c≠b->c<s.nx->jv s'.h c=jv s.h c:=by
 have hlt:=C.lt;have V:Lv b (b+1) (nw s [y]) (.slice b 0 k k 1 false) k cs 1:=.inr ⟨b,rfl,h0,by rw[hl,Qaz],C.nw _,η _,QaW _⟩;have hr:rats (nw s [y]).h s.nx 0 1=[y]:=(Cl.new s [y]).rats0 rfl;have A:=V.app (news:=[y]) rfl (by rw[jf];omega);refine⟨aps (.slice b 0 k k 1 false) (nw s [y]) [y],λK=>?_,?_,by rw[jm,jf];omega,by rw[QM,ZT],λc h1 h2=>?_⟩
 .rw[Jt V dc om om (by rw[(Cl.new s [y]).len];exact η 1),hr];rfl
 .rcases A with ⟨e,_⟩|⟨c,e,_,_,D,_⟩
  .cases e
  .injection e with e1
   rw[jf] at e1;rw[e1];exact D
 .exact(V.get _ _ c om (by rw[jf];omega)).trans (qp om)
theorem HV (hb:NB base){v:Nat}(h1:1<=l.length)(h2:l.length<=v)(h3:v<=32)(st:St)(K Kp:AV->St->Prop)(hK:∀ b s',Cl s' b ((z8 l v).map eu)->st.nx<=b->ApL st.nx st s'->K (.tup [.slice b 0 v v 1 false,.int .i64 0]) s'):XB δ base 40 [.lst l.length (l.map eu),.int .i64 (v:Int)] st K Kp:=by
 have R:=jcD hb (l.map eu) h1 (show l.length<=32 by omega);have d1:¬ (v:Int)<(l.length:Int):=om
 have d2:¬ (32:Int)<(v:Int):=om
 have hbn:st.bare.nx=st.nx:=rfl;have hlm:(l.map eu).length=l.length:=by simp
 refine qu jvL haa (hb.at0 40 dc dc _ _) ?_;simp only[jqc,jj,ζ,θ,κ,μ];rw[(by unfold jkz;simp only[qq];rfl:jkz=_)];repeat' first|apply jb<;>intro _|simp(disch:=try exact dzA) only[R,d1,d2,rzZ,γ,ε]
 refine jpN hb h1 om hlm _ _ _ λb0 s1 C1 hb0 a1=>?_;repeat' first|apply jb<;>intro _|simp(disch:=try exact dzA) only[rzZ,γ,ε]
 refine ye (λmm L s=>∃ k b,l.length<=k/\k<=v/\mm=v - k/\Cl s b ((z8 l k).map eu)/\st.nx<=b/\st.nx<=s.nx/\ApL st.nx st.bare s/\Has L 6 (.slice b 0 k k 1 false)/\Has L 0 (.lst l.length (l.map eu))/\Has L 1 (.int .i64 (v:Int))) ?_ (v - l.length) ?_
 .rintro mm L s ⟨k,b,q1,q2,rfl,C,q3,q4,A,i6,i0,i1⟩;unfold um;by_cases hk:k<v
  .have d3:(k:Int)<(v:Int):=om
   obtain⟨s2,e,C2,n2,f2,k2⟩:=jtx (y:=eu (l.getD (l.length - 1) 0)) C (by rw[Qac,Xm q1]) om om;have eb1:(l.map eu).getD ((l.length:Int) - 1).toNat .bad=eu (l.getD (l.length - 1) 0):=by
    rw[show((l.length:Int) - 1).toNat=l.length - 1 by omega,Xs om,Qab,Qad om];rfl
   repeat' first|apply jb<;>intro _|simp(disch:=try exact dzA) only[ja i6,ja i0,ja i1,qI,hlm,eb1,e,rzZ,γ,ε]
   have ek:((k+1:Nat):Int)=(k:Int)+1:=om
   have C3:Cl s2 (s.nx+1) ((z8 l (k+1)).map eu):=by
    rw[<-jsE q1,Qay];exact C2
   refine⟨v - (k+1),om,k+1,s.nx+1,om,om,rfl,C3,om,om,⟨by have:=A.nx;omega,f2.trans A.fr,λc hc hl=>(k2 c om om).trans (A.hp c hc hl)⟩,?_,?_,?_⟩;all_goals exact hsX
  .have hkv:k=v:=om
   subst hkv;have d3:¬ (k:Int)<(k:Int):=om
   repeat' first|apply jb<;>intro _|simp(disch:=try exact dzA) only[ja i6,ja i0,ja i1,d3,rzZ,γ,ε]
   exact hK _ _ ⟨C.lt,C.row,C.len,C.cell⟩ q3 ⟨A.nx,rfl,A.hp⟩
 .rw[jf] at hb0;have A:=(ApL.nwO st.bare [.lst l.length (l.map eu)]).trans a1 (by rw[jf];exact Qbd _);have hn1:=A.nx;have hx:z8 l l.length=l:=by simp[z8]
  refine⟨l.length,b0,η _,h2,rfl,by rw[hx];exact C1,om,om,A,?_,?_,?_⟩<;>exact hsX
theorem jip (hb:NB base){G:Gr}{k:Lc}(h1:1<=l.length)(h2:l.length<=32)(h3:1<=k.length)(h4:k.length<=32)(hu:u=max l.length k.length)(st:St)(H:GM st g O G)(w:G.WF)(hl:∀ a∈l,G.has a)(hk:∀ a∈k,G.has a)(K Kp:AV->St->Prop)(hK:∀ b c s',Cl s' b ((z8 l u).map eu)->Cl s' c ((z8 k u).map eu)->b≠c->st.nx<=b->st.nx<=c->ApL st.nx st s'->K (.tup [.slice b 0 u u 1 false,.slice c 0 u u 1 false,.int .i64 0]) s'):XB δ base 77 [.ptr g 0,.lst l.length (l.map eu),.lst k.length (k.map eu),.int .i64 0] st K Kp:=by
 have R:=jlV hb (l.map eu) (k.map eu) h1 h2 h3 h4;have hx:max (l.length:Int) (k.length:Int)=(u:Int):=om
 have d2:¬ (32:Int)<(u:Int):=om
 have hbn:st.bare.nx=st.nx:=rfl;have A0:=(ApL.nwO st.bare [.lst l.length (l.map eu),.lst k.length (k.map eu)]).trans (ApL.nwO _ [.lst l.length (l.map eu),.lst k.length (k.map eu)]) (by rw[jf];exact Qbd _);have E:=λK Kp=>jo9 hb (nw (nw st.bare [.lst l.length (l.map eu),.lst k.length (k.map eu)]) [.lst l.length (l.map eu),.lst k.length (k.map eu)]) ((H.bar.nw _).nw _) w h1 h2 h3 h4 hl hk (st.nx+1) 2 true K Kp (Cl.new (nw st.bare [.lst l.length (l.map eu),.lst k.length (k.map eu)]) _);refine qu jvt haa (hb.at0 77 dc dc _ _) ?_;simp only[jpU,jj,ζ,θ,κ,μ];rw[(by unfold jkh;simp only[qq];rfl:jkh=_)];repeat' first|apply jb<;>intro _|simp(disch:=try exact dzA) only[R,E,hx,Int.add_zero,d2,rzZ,γ,ε]
 refine HV hb h1 om om _ _ _ λb s1 C1 hb1 a1=>?_;repeat' first|apply jb<;>intro _|simp(disch:=try exact dzA) only[rzZ,γ,ε]
 refine HV hb h3 om om _ _ _ λc s2 C2 hc2 a2=>?_;repeat' first|apply jb<;>intro _|simp(disch:=try exact dzA) only[rzZ,γ,ε]
 have A1:=A0.trans a1 (by rw[jf,jf];omega);have A:=A1.trans a2 A1.nx;rw[jf,jf] at hb1;have hn1:=A1.nx;have hlt:=C1.lt;have D1:=a2.cl _ _ hlt C1;exact hK b c _ ⟨D1.lt,D1.row,D1.len,D1.cell⟩ ⟨C2.lt,C2.row,C2.len,C2.cell⟩ om om om ⟨A.nx,rfl,A.hp⟩
section
variable {st:St} {K:AV->St->Prop}
theorem jnm (a b c:AV):jk (Vw 0 (.tup [a,b,c]) st) K=K a st:=nr rfl
theorem jnl (a b c:AV):jk (Vw 1 (.tup [a,b,c]) st) K=K b st:=nr rfl
theorem jnk (a b c:AV):jk (Vw 2 (.tup [a,b,c]) st) K=K c st:=nr rfl
end
def Fi (s:St)(d u:Nat)(es:Lc):Prop:=∃ cs,Cl s d cs/\cs.length=u/\cs.take es.length=es.map eu
theorem Fi.wr (h:Fi s d u es)(hk:es.length<u)(e:Nat):Fi (Go.Sy.wr s d es.length [eu e]) d u (es ++ [e]):=by
 obtain⟨cs,C,hl,q⟩:=h;refine⟨cs.set es.length (eu e),vh▸C.wr es.length _,by rw[QbQ,hl],?_⟩;rw[υ,List.length_singleton,QbG (by rw[QbQ];omega),List.take_set_of_le (η _),q,List.getElem_set_self,Qay];rfl
theorem Fi.nw (h:Fi s d u es)(ds:List AV):Fi (Go.Sy.nw s ds) d u es:=by
 obtain⟨cs,C,hl,q⟩:=h;exact⟨cs,C.nw ds,hl,q⟩
theorem Fi.keep {t:St}{O':Nat->Prop}(h:Fi s d u es)(F:Fr2 O O' s t)(hd:¬ O d):Fi t d u es/\¬ O' d:=by
 obtain⟨cs,C,hl,q⟩:=h;have:=F.cl C hd;exact⟨⟨cs,this.1,hl,q⟩,this.2⟩
theorem Fi.cl (h:Fi s d u es)(hk:es.length=u):Cl s d (es.map eu):=by
 obtain⟨cs,C,hl,q⟩:=h;rw[Qbb om] at q;exact q▸C
theorem jpz {α:Type}{es:List α}{f:α->Bool}{g:Nat->Bool}(h:∀ i (hi:i<es.length),f es[i]=g i):es.all f=(ω es.length).all g:=by
 rw[Qaw,Qah,Qah];constructor
 .intro k i hi;have hi:=QaZ.1 hi;rw[<-h i hi];exact k _ (Qaa hi)
 .intro k x hx;obtain⟨i,hi,rfl⟩:=Qbm.1 hx;rw[h i hi];exact k i (QaZ.2 hi)
theorem VN.has {G:Gr}{n:(Nat->Bool)->Int}(k:VN G l n):∀ a∈l,G.has a:=λa ha=>by
 obtain⟨i,hi,rfl⟩:=Qbm.1 ha;exact(k.is i hi).1
theorem Aft.wr {O':Nat->Prop}{G G':Gr}{t:St}(h:Aft g O G k s O' G' t)(hb:¬ O' b)(hs:s.nx<=b)(o:Nat)(vs:List AV):Aft g O G k s O' G' (Go.Sy.wr t b o vs):=⟨h.gm.wr hb o vs,h.wf,h.le,h.len,h.ins,h.fr.wr hs o vs⟩
theorem jfB (hb:NB base){g:Nat}{O:Nat->Prop}{G:Gr}{l k:Lc}{n m:(Nat->Bool)->Int}(st:St)(H:GM st g O G)(w:G.WF)(Vl:VN G l n)(Vk:VN G k m)(hs:G.parts.length+112<=1048576)(K Kp:AV->St->Prop)
  (hK:∀ e O' G' s',Aft g O G 112 st O' G' s'->G'.Is e (λv=>decide (n v=m v))->K (.tup [eu e,.int .i64 0]) s'):XB δ base 45 [.ptr g 0,.lst l.length (l.map eu),.lst k.length (k.map eu)] st K Kp:=by
 obtain⟨u,hu⟩:∃ u,u=max l.length k.length:=⟨_,rfl⟩;have hu1:=Vl.h1;have hu2:=Vl.h2;have hu3:=Vk.h2;have El:=Vl.ext (u:=u) om om;have Ek:=Vk.ext (u:=u) om om;have ll:=Xm (l:=l) (u:=u) om;have lk:=Xm (l:=k) (u:=u) om;refine qu jvH haa (hb.at0 45 dc dc _ _) ?_;simp only[jp8,jj,ζ,θ,κ,μ];rw[(by unfold jkv;simp only[qq];rfl:jkv=_)];repeat' first|apply jb<;>intro _|simp(disch:=try exact dzA) only[rzZ,γ,ε]
 refine jip hb Vl.h1 om Vk.h1 om hu _ H.bar w Vl.has Vk.has _ _ λb c s1 C1 D1 hbc hb1 hc1 a1=>?_;have hb2:=C1.lt;have hc2:=D1.lt;have A1:=(Aft.refl H.bar w).apl a1 (η _);have hO:∀ x,st.nx<=x->¬ O x:=λx hx h=>by have:=H.lt h;omega
 repeat' first|apply jb<;>intro _|simp(disch:=try exact dzA) only[Vr,jnm,jnl,jnk,rzZ,γ,ε]
 refine ki (bytes:=4) (l:=0) (c:=u) om om om λs2 M=>?_;have E2:Fi s2 s1.nx u []:=⟨_,M.cl (cs:=bs (λ_=>false) u) (by rw[uj,Qaz]) λi hi=>by rw[joc om,Nat.mod_one];rfl,uj _ _,rfl⟩;have A2:=A1.apl M.apl (η _);have C2:=M.apl.cl _ _ hb2 C1;have D2:=M.apl.cl _ _ hc2 D1;have hd0:st.nx<=s1.nx:=a1.nx;clear M A1;generalize s1.nx=d at *;generalize z8 l u=l' at *;generalize z8 k u=k' at *;repeat' first|apply jb<;>intro _|simp(disch:=try exact dzA) only[rzZ,γ,ε]
 refine jU u (λj L s=>(∃ O' G' es,Aft g O G (3 * j) st.bare O' G' s/\es.length=j/\(∀ i (h:i<es.length),G'.Is es[i] λv=>bt (n v) i == bt (m v) i)/\Fi s d u es/\Cl s b (l'.map eu)/\Cl s c (k'.map eu)/\¬ O' b/\¬ O' c/\¬ O' d)/\Has L 0 (.ptr g 0)/\Has L 8 (.slice b 0 u u 1 false)/\Has L 9 (.slice c 0 u u 1 false)/\Has L 11 (.slice d 0 j u 1 true)) ?_ (λk L s hk hI hi hn=>?_) (λL s hI=>?_)
 .refine⟨⟨O,G,[],A2,rfl,λi h=>absurd h (QaI _),E2,C2,D2,hO b hb1,hO c hc1,hO d hd0⟩,?_,?_,?_,?_⟩<;>exact hsX
 .obtain⟨⟨O1,G1,es,A,rfl,I,E,C,D,n1,n2,n3⟩,i0,i8,i9,i11⟩:=hI;have h1:es.length<l'.length:=om
  have h2:es.length<k'.length:=om
  have g1:=(C.cell es.length (by rw[Qac];exact h1)).trans (Xs h1);have g2:=(D.cell es.length (by rw[Qac];exact h2)).trans (Xs h2);have l1:jV s.h b=u:=by rw[C.len,Qac,ll]
  have l2:jV s.h c=u:=by rw[D.len,Qac,lk]
  have P1:=El.is _ h1;have P2:=Ek.is _ h2;have hlen:=A.len;repeat' first|apply jb<;>intro _|simp(disch:=try exact dzA) only[ja i0,ja i8,ja i9,ja hi,ja hn,g1,g2,l1,l2,rzZ,γ,ε]
  refine jj4 hb s A.gm A.wf (A.le.has P1.1) (A.le.has P2.1) om _ _ λe O2 G2 s2 B I2=>?_;obtain⟨C3,m1⟩:=B.fr.cl C n1;obtain⟨D3,m2⟩:=B.fr.cl D n2;obtain⟨E3,m3⟩:=E.keep B.fr n3;obtain⟨cs,F1,hl1,_⟩:=E3.nw [eu e];have ea:=λK:AV->St->Prop=>kW (K:=K) (cap:=u) (bytes:=4) (xc:=1) (xx:=true) (ex:=true) F1 hl1 (show es.length+1<=u by omega) (Cl.new s2 [eu e]);repeat' first|apply jb<;>intro _|simp(disch:=try exact dzA) only[ja i11,ea,rzZ,γ,ε]
  have hbn:st.bare.nx=st.nx:=rfl;have AA:=((A.trans B (η _)).nw [eu e]).wr m3 (by rw[hbn];exact hd0) es.length [eu e];refine⟨⟨⟨O2,G2,es ++ [e],AA.weak om,by simp,λi hi=>?_,(E3.nw _).wr om e,(C3.nw _).wrO om _ _,(D3.nw _).wrO om _ _,m1,m2,m3⟩,?_,?_,?_,?_⟩,?_,?_⟩
  .by_cases h:i<es.length
   .rw[Qcx h];exact(I i h).up B.le
   .have:i=es.length:=by simp at hi;omega
    subst this;rw[Qcy (η _)];simp only[Nat.sub_self,Qbv];exact I2.of λv o=>by rw[P1.2 v (A.le.ok (B.le.ok o)),P2.2 v (A.le.ok (B.le.ok o))]
  all_goals exact hsX
 .obtain⟨⟨O1,G1,es,A,he,I,E,C,D,n1,n2,n3⟩,i0,i8,i9,i11⟩:=hI;have hlen:=A.len;have CE:=E.cl he;repeat' first|apply jb<;>intro _|simp(disch:=try exact dzA) only[ja i0,ja i11,rzZ,γ,ε]
  refine jhA hb (l:=es) (n:=u) s A.gm A.wf he (λa ha=>by obtain⟨i,hi,rfl⟩:=Qbm.1 ha;exact(I i hi).1) om CE n3 _ _ λe O2 G2 s2 B I2=>?_;repeat' first|apply jb<;>intro _|simp(disch:=try exact dzA) only[rzZ,γ,ε]
  refine hK _ _ _ _ ((A.trans B (η _)).weak om).bak (I2.of λv o=>?_);have oG:=A.le.ok (B.le.ok o);have f1:=El.fit v oG;have f2:=Ek.fit v oG;rw[ll] at f1;rw[lk] at f2;rw[<-jfu (w:=u) om f1 f2,<-he];exact jpz λi hi=>(I i hi).2 v (B.le.ok o)
def swE (l k:Lc):Lc:=l.set (l.length - 1) (k.getD (l.length - 1) 0)
theorem UZ (l k:Lc):(swE l k).length=l.length:=by simp[swE]
theorem jij (C:Cl s b (l.map eu))(k:Lc):Cl (wr s b (l.length - 1) [eu (k.getD (l.length - 1) 0)]) b ((swE l k).map eu):=by
 have:=C.wr (l.length - 1) [eu (k.getD (l.length - 1) 0)];rw[vh] at this;unfold swE;rw[List.map_set];exact this
theorem jik {G:Gr}{k:Lc}{n m:(Nat->Bool)->Int}(Vl:VN G l n)(Vk:VN G k m)(hl:l.length=u)(hk:k.length=u)(i:Nat)(h:i<(swE l k).length):G.Is (swE l k)[i] λv=>swp u (bt (n v)) (bt (m v)) i:=by
 have h0:(swE l k)[i]=if l.length - 1=i then k.getD (l.length - 1) 0 else l[i]'(by rw[UZ] at h;exact h):=List.getElem_set ..
 rw[h0];rw[UZ] at h;unfold swp;by_cases e:l.length - 1=i
 .rw[if_pos e];have hi:i<k.length:=om
  rw[e,Qab,Qad hi];exact(Vk.is i hi).of λv o=>by rw[if_pos om]
 .rw[if_neg e];exact(Vl.is i h).of λv o=>by rw[if_neg om]
theorem jj7 (hb:NB base){g:Nat}{O:Nat->Prop}{G:Gr}{l k:Lc}{n m:(Nat->Bool)->Int}(st:St)(H:GM st g O G)(w:G.WF)(Vl:VN G l n)(Vk:VN G k m)(hs:G.parts.length+172<=1048576)(K Kp:AV->St->Prop)
  (hK:∀ e O' G' s',Aft g O G 168 st O' G' s'->G'.Is e (λv=>decide (n v<m v))->K (.tup [eu e,.int .i64 0]) s'):XB δ base 113 [.ptr g 0,.lst l.length (l.map eu),.lst k.length (k.map eu)] st K Kp:=by
 obtain⟨u,hu⟩:∃ u,u=max l.length k.length:=⟨_,rfl⟩;have hu1:=Vl.h1;have hu2:=Vl.h2;have hu3:=Vk.h2;have El:=Vl.ext (u:=u) om om;have Ek:=Vk.ext (u:=u) om om;have ll:=Xm (l:=l) (u:=u) om;have lk:=Xm (l:=k) (u:=u) om;refine qu jtX haa (hb.at0 113 dc dc _ _) ?_;simp only[jm2,jj,ζ,θ,κ,μ];rw[(by unfold jfG;simp only[qq];rfl:jfG=_)];repeat' first|apply jb<;>intro _|simp(disch:=try exact dzA) only[rzZ,γ,ε]
 refine jip hb Vl.h1 om Vk.h1 om hu _ H.bar w Vl.has Vk.has _ _ λb c s1 C1 D1 hbc hb1 hc1 a1=>?_;have hb2:=C1.lt;have hc2:=D1.lt;have hbn:st.bare.nx=st.nx:=rfl;have A1:=(Aft.refl H.bar w).apl a1 (η _);have hO:∀ x,st.nx<=x->¬ O x:=λx hx h=>by have:=H.lt h;omega
 generalize z8 l u=l' at *;generalize z8 k u=k' at *;have eu1:((u:Int) - 1).toNat=u - 1:=om
 have hl1:u - 1<l'.length:=om
 have hk1:u - 1<k'.length:=om
 have g1:=(C1.cell (u - 1) (by rw[Qac];exact hl1)).trans (Xs hl1);have g2:=(D1.cell (u - 1) (by rw[Qac];exact hk1)).trans (Xs hk1);have l1:jV s1.h b=u:=by rw[C1.len,Qac,ll]
 have l2:jV s1.h c=u:=by rw[D1.len,Qac,lk]
 have q1:l'.getD (u - 1) 0=l'[u - 1]:=by rw[Qab,Qad hl1];rfl
 have q2:k'.getD (u - 1) 0=k'[u - 1]:=by rw[Qab,Qad hk1];rfl
 have C2:Cl (wr (wr s1 b (u - 1) [eu k'[u - 1]]) c (u - 1) [eu l'[u - 1]]) b ((swE l' k').map eu):=by
  have:=jij C1 k';rw[ll,q2] at this;exact this.wrO hbc _ _
 have D2:Cl (wr (wr s1 b (u - 1) [eu k'[u - 1]]) c (u - 1) [eu l'[u - 1]]) c ((swE k' l').map eu):=by
  have:=jij (D1.wrO (λh=>hbc h.symm) (u - 1) [eu k'[u - 1]]) l';rw[lk,q1] at this;exact this
 have A2:=(A1.wr (hO b hb1) (by rw[hbn];exact hb1) (u - 1) [eu k'[u - 1]]).wr (hO c hc1) (by rw[hbn];exact hc1) (u - 1) [eu l'[u - 1]];have P:=λi h=>jik El Ek ll lk i h;have Q:=λi h=>jik Ek El lk ll i h;have lp:(swE l' k').length=u:=by rw[UZ,ll]
 have lq:(swE k' l').length=u:=by rw[UZ,lk]
 repeat' first|apply jb<;>intro _|simp(disch:=try exact dzA) only[jnm,jnl,jnk,eu1,g1,g2,l1,l2,rzZ,γ,ε]
 generalize wr (wr s1 b (u - 1) [eu k'[u - 1]]) c (u - 1) [eu l'[u - 1]]=s2 at *;generalize swE l' k'=p at *;generalize swE k' l'=q at *;refine jU u (λj L s=>(∃ O' G' e,Aft g O G (6 * j) st.bare O' G' s/\G'.Is e (λv=>Yk (swp u (bt (n v)) (bt (m v))) (swp u (bt (m v)) (bt (n v))) j)/\Cl s b (p.map eu)/\Cl s c (q.map eu)/\¬ O' b/\¬ O' c/\Has L 11 (eu e))/\Has L 0 (.ptr g 0)/\Has L 8 (.slice b 0 u u 1 false)/\Has L 9 (.slice c 0 u u 1 false)) ?_ (λkj Lj sj hkj hIj hij hnj=>?_) (λLj sj hIj=>?_)
 .refine⟨⟨O,G,0,A2,w.is0,C2,D2,hO b hb1,hO c hc1,?_⟩,?_,?_,?_⟩
  .show Has _ 11 (.int .u32 0);simp(disch:=decide) only[je,jn]
  .simp(disch:=decide) only[je,jn]
  .simp(disch:=decide) only[je,jn]
  .simp(disch:=decide) only[je,jn]
 .obtain⟨⟨O1,G1,e0,A,I0,C,D,n1,n2,i11⟩,i0,i8,i9⟩:=hIj;have h1:kj<p.length:=om
  have h2:kj<q.length:=om
  have g1:=(C.cell kj (by rw[Qac];exact h1)).trans (Xs h1);have g2:=(D.cell kj (by rw[Qac];exact h2)).trans (Xs h2);have l1:jV sj.h b=u:=by rw[C.len,Qac,lp]
  have l2:jV sj.h c=u:=by rw[D.len,Qac,lq]
  have P1:=P _ h1;have P2:=Q _ h2;have hlen:=A.len;repeat' first|apply jb<;>intro _|simp(disch:=try exact dzA) only[ja i0,ja i8,ja i9,ja hij,ja hnj,g1,g2,l1,l2,rzZ,γ,ε]
  refine jj4 hb sj A.gm A.wf (A.le.has P1.1) (A.le.has P2.1) om _ _ λe O2 G2 s2 B I2=>?_;obtain⟨C3,m1⟩:=B.fr.cl C n1;obtain⟨D3,m2⟩:=B.fr.cl D n2;have g3:=(D3.cell kj (by rw[Qac];exact h2)).trans (Xs h2);have l3:jV s2.h c=u:=by rw[D3.len,Qac,lq]
  have AB:=A.trans B (η _);have hlen2:=AB.len;repeat' first|apply jb<;>intro _|simp(disch:=try exact dzA) only[ja i0,ja i9,ja i11,g3,l3,rzZ,γ,ε]
  refine jtJ hb s2 B.gm B.wf I2.1 (B.le.has I0.1) (AB.le.has P2.1) om _ _ λe3 O3 G3 s3 B3 I3=>?_;obtain⟨C4,m3⟩:=B3.fr.cl C3 m1;obtain⟨D4,m4⟩:=B3.fr.cl D3 m2;repeat' first|apply jb<;>intro _|simp(disch:=try exact dzA) only[rzZ,γ,ε]
  refine⟨⟨⟨O3,G3,e3,(AB.trans B3 (η _)).weak om,I3.of λv o=>?_,C4,D4,m3,m4,?_⟩,?_,?_,?_⟩,?_,?_⟩
  .have e1:=I2.2 v (B3.le.ok o);have e2:=P2.2 v (AB.le.ok (B3.le.ok o));have e3:=P1.2 v (AB.le.ok (B3.le.ok o));have e4:=I0.2 v (B.le.ok (B3.le.ok o));dsimp only at e1 e2 e3 e4 ⊢;rw[e1,e2,e3,e4,Yk];cases swp u (bt (n v)) (bt (m v)) kj<;>cases swp u (bt (m v)) (bt (n v)) kj<;>rfl
  all_goals exact hsX
 .obtain⟨⟨O1,G1,e0,A,I0,C,D,n1,n2,i11⟩,i0,i8,i9⟩:=hIj;repeat' first|apply jb<;>intro _|simp(disch:=try exact dzA) only[ja i11,rzZ,γ,ε]
  refine hK _ _ _ _ (A.weak om).bak (I0.of λv o=>?_);have f1:=El.fit v (A.le.ok o);have f2:=Ek.fit v (A.le.ok o);rw[ll] at f1;rw[lk] at f2;exact jo5 om f1 f2
def vA (A:List Bool)(i:Nat):Bool:=A.getD i false
def inA (n:Nat)(ins:Lc)(vals:List Bool):Nat->List Bool
 |0=>Qbr n false
 |j+1=>(inA n ins vals j).set (ins.getD j 0 / 2) (vals.getD j false)
def evA (P:List (Nat×Nat))(A:List Bool):Nat->List Bool
 |0=>A
 |k+1=>if P.getD k (0,0)=(0,0) then evA P A k else(evA P A k).set k (ed (vA (evA P A k)) (P.getD k (0,0)).1 && ed (vA (evA P A k)) (P.getD k (0,0)).2)
theorem XJ (n:Nat)(ins:Lc)(vals:List Bool):∀ j,(inA n ins vals j).length=n
 |0=>by simp[inA]
 |j+1=>by rw[inA,QbQ,XJ n ins vals j]
theorem Zz (P:List (Nat×Nat))(A:List Bool):∀ k,(evA P A k).length=A.length
 |0=>rfl
 |k+1=>by
  rw[evA];split
  .exact Zz P A k
  .rw[QbQ,Zz P A k]
def Gr.vals (G:Gr)(vals:List Bool):List Bool:=evA G.parts (inA G.parts.length G.ins vals G.ins.length) G.parts.length
theorem VY {i:Nat}{b:Bool}(h:i<A.length):vA (A.set i b) j=if i=j then b else vA A j:=by
 unfold vA;rw[Qab,List.getElem?_set,Qab];by_cases e:i=j
 .subst e;simp[h]
 .simp[e]
theorem kP (P:List (Nat×Nat))(A:List Bool)(hA:A.length=P.length):∀ (k d:Nat),j<k->k+d<=P.length->vA (evA P A (k+d)) j=vA (evA P A k) j
 |k,0,_,_=>rfl
 |k,d+1,h,hk=>by
  rw[<-Qbj,evA];split
  .exact kP P A hA k d h om
  .rw[VY (by rw[Zz];omega),if_neg om];exact kP P A hA k d h om
theorem Gx (P:List (Nat×Nat))(A:List Bool)(hA:A.length=P.length)(h:P.getD j (0,0)=(0,0)):∀ k,k<=P.length->vA (evA P A k) j=vA A j
 |0,_=>rfl
 |k+1,hk=>by
  rw[evA];split
  .exact Gx P A hA h k om
  .rename_i hn;rw[VY (by rw[Zz];omega),if_neg (λe=>hn (by rw[e];exact h))];exact Gx P A hA h k om
theorem jiZ {ins:Lc}{vals:List Bool}(hev:∀ a∈ins,a % 2=0/\a / 2<n)(hnd:ins.Nodup):∀ (m:Nat),m<=ins.length->∀ j (hj:j<m),vA (inA n ins vals m) (ins.getD j 0 / 2)=vals.getD j false
 |0,_,j,hj=>absurd hj (QaI _)
 |m+1,hm,j,hj=>by
  have hmi:ins.getD m 0=ins[m]'(om):=by rw[Qab,Qad om];rfl
  have hji:ins.getD j 0=ins[j]'(om):=by rw[Qab,Qad om];rfl
  have em:=hev _ (Qaa (show m<ins.length by omega));have ej:=hev _ (Qaa (show j<ins.length by omega));rw[inA,VY (by rw[XJ,hmi];exact em.2)];by_cases e:m=j
  .subst e;rw[if_pos rfl]
  .rw[if_neg,jiZ hev hnd m om j om];intro h;rw[hmi,hji] at h;have:ins[m]'(om)=ins[j]'(om):=om
   exact e ((List.getElem_inj hnd).1 this)
theorem jnQ {ins:Lc}{vals:List Bool}(hpos:∀ a∈ins,0<a / 2/\a / 2<n):∀ m,m<=ins.length->vA (inA n ins vals m) 0=false
 |0,_=>by
  unfold vA inA;rw[Qab,List.getElem?_replicate];split<;>rfl
 |m+1,hm=>by
  have hmi:ins.getD m 0=ins[m]'(om):=by rw[Qab,Qad om];rfl
  have em:=hpos _ (Qaa (show m<ins.length by omega));rw[inA,VY (by rw[XJ,hmi];exact em.2),if_neg (by rw[hmi];omega),jnQ hpos m om]
theorem Gr.WF.insB {G:Gr}(w:G.WF):∀ a∈G.ins,a % 2=0/\0<a / 2/\a / 2<G.parts.length:=λa ha=>by
 obtain⟨h1,h2,h3⟩:=w.ins a ha;exact⟨h1,h2,(Qbk.1 h3).1⟩
theorem kK {i:Nat}{p:Nat×Nat}(h:P[i]? = some p):P.getD i (0,0)=p:=by rw[Qab,h];rfl
theorem Gr.WF.vals_ok {G:Gr}(w:G.WF)(vals:List Bool):G.Ok (vA (G.vals vals)):=by
 have hl:=XJ G.parts.length G.ins vals G.ins.length;refine⟨?_,λi a b h hn=>?_⟩
 .unfold Gr.vals;rw[Gx _ _ hl (kK w.z) _ (η _)];exact jnQ (λa ha=>(w.insB a ha).2) _ (η _)
 .have hi:=(Qbk.1 h).1;obtain⟨ha,hb⟩:=w.down i a b h hn;unfold Gr.vals;generalize inA G.parts.length G.ins vals G.ins.length=A at *;have hlow:∀ j,j<i+1->vA (evA G.parts A G.parts.length) j=vA (evA G.parts A (i+1)) j:=λj hj=>by
   have:=kP G.parts A hl (i+1) (G.parts.length - (i+1)) hj om;rwa [show i+1+(G.parts.length - (i+1))=G.parts.length by omega] at this
  have hlow2:∀ j,j<i->vA (evA G.parts A G.parts.length) j=vA (evA G.parts A i) j:=λj hj=>by
   have:=kP G.parts A hl i (G.parts.length - i) hj om;rwa [show i+(G.parts.length - i)=G.parts.length by omega] at this
  rw[hlow i (QaW i),evA,kK h,if_neg hn,VY (by rw[Zz];omega),if_pos rfl];unfold ed;rw[hlow2 _ ha,hlow2 _ hb]
theorem Gr.WF.vals_in {G:Gr}(w:G.WF)(vals:List Bool)(hj:j<G.ins.length):vA (G.vals vals) (G.ins[j] / 2)=vals.getD j false:=by
 have hl:=XJ G.parts.length G.ins vals G.ins.length;have hp:=(w.ins _ (Qaa hj)).2.2;unfold Gr.vals;rw[Gx _ _ hl (kK hp) _ (η _)];have:=jiZ (n:=G.parts.length) (vals:=vals) (λa ha=>⟨(w.insB a ha).1,(w.insB a ha).2.2⟩) w.nd G.ins.length (η _) j hj;rwa [Qab,Qad hj] at this
theorem jgq (p q:Bool):jk (QB δ .neq 4 false (.bool p) (.bool q) st) K=K (.bool (p != q)) st:=by
 have h:QB δ .neq 4 false (.bool p) (.bool q) st=.ok (.bool (p != q)) st:=by cases p<;>cases q<;>kernel_rfl
 rw[h];rfl
def bA (A:List Bool):List AV:=A.map .bool
theorem jbQ (A:List Bool):(bA A).all pc=true:=by simp[bA,pc]
theorem GK (h:k<A.length):(bA A).getD k .bad=.bool (vA A k):=by
 unfold vA;rw[Qab,Qab,bA,Qbf,Qad h];rfl
theorem jcx (hb:NB base){e:Nat}(h:e / 2<A.length)(hn:A.length<=1048576)(st:St)(a b c:Nat)(x:Bool)(K Kp:AV->St->Prop)(C:Cl st b [.slice a 0 A.length c 1 x])(D:Cl st a (bA A)):XB δ base 80 [eu e,.ptr b 0] st K Kp=K (.bool (ed (vA A) e)) st:=by
 refine PL.xb (?_:PL δ base 80 [eu e,.lptr [.lst A.length (bA A)] 0] (.ok (.bool (ed (vA A) e)))) (yh rfl (qw (Yt C (zQ ⟨_,Zx (d:=7) D (by simp[bA]) (jbQ A)⟩ rfl Wx)) rfl)) (λst=>hb.no 80 dc _ _) K Kp;have x1:=λ(s:St) (K:AV->St->Prop)=>K9 (st:=s) (K:=K) (a:=e) om;have x2:=λ(s:St) (K:AV->St->Prop)=>jrm (st:=s) (K:=K) (a:=e);have hl:(bA A).length=A.length:=by simp[bA]
 have hg:=GK h;have h2:((e / 2:Nat):Int)<(A.length:Int):=om
 have hm:(((e % 2:Nat):Int)=1)=(e % 2=1):=by rw[eq_iff_iff];omega
 refine yb jvq haa (hb.pur 80 5 dc) rfl ?_;simp only[jpR,jj,ζ,θ,κ,μ];rw[(by unfold jke;simp only[qq];rfl:jke=_)];repeat' first|apply jb<;>intro _|simp(disch:=try exact dzA) only[qI,x1,x2,hl,hg,h2,hm,jgq,rzZ,γ,ε]
 exact G0.v rfl rfl
theorem jr8 (a b:Nat)(st:St)(K:AV->St->Prop):jk (QB δ .neq 166 false (.agg [eu a,eu b]) (.agg [.int .u32 0,.int .u32 0]) st) K=K (.bool (decide ((a,b)≠(0,0)))) st:=by
 have h:QB δ .neq 166 false (.agg [eu a,eu b]) (.agg [.int .u32 0,.int .u32 0]) st=jN (cond (eqI (a:Int) 0) (cond (eqI (b:Int) 0) (some true) (some false)) (some false)) λv=>.ok (.bool (!v)) st:=Qa0
 have e1:=kQ a 0;have e2:=kQ b 0;have e1:eqI (a:Int) 0=decide (a=0):=e1;have e2:eqI (b:Int) 0=decide (b=0):=e2;rw[h,e1,e2];by_cases h1:a=0<;>by_cases h2:b=0<;>simp[h1,h2,jN,jk]
theorem ju6 {a:Nat}(h:P.getD k (0,0)=(a,b)):evA P A (k+1)=if(a,b)=(0,0) then evA P A k else(evA P A k).set k (ed (vA (evA P A k)) a && ed (vA (evA P A k)) b):=by rw[evA,h]
theorem jun:Go.Ev.isAgg δ 60=some false:=Qa0
theorem jum:Go.Ev.sizeOf δ 60=some 1:=Qa0
theorem jwM {o:Nat}{v:AV}{h:T AO}(ho:o<jV h b)(hv:rat h b o=v)(hc:eqs v=true):(jZ δ 60 (.ptr b o) v h=true)=True:=eq_true (JA jun jum ho hv hc)
theorem jut:Go.Ev.isAgg δ 44=some false:=Qa0
theorem jus:Go.Ev.sizeOf δ 44=some 1:=Qa0
theorem jrP {o:Nat}{v:AV}{h:T AO}(ho:o<jV h b)(hv:rat h b o=v)(hc:eqs v=true):(jZ δ 44 (.ptr b o) v h=true)=True:=eq_true (JA jut jus ho hv hc)
theorem jdS (A:List Bool)(i:Nat)(b:Bool):upd (bA A) i [.bool b]=bA (A.set i b):=by rw[vh];unfold bA;rw[List.map_set]
theorem jue (h:k<P.length):jk (QV 2 (.lptr (fl pE P) (k * 2)) st) K=K (.agg [eu P[k].1,eu P[k].2]) st:=jbd jl4 h
theorem jka (hb:NB base){G:Gr}(w:G.WF)(vals:List Bool)(l:Lc)(hv:vals.length<=1048576)(hl:∀ a∈l,G.has a)(hs:l.length<=1048576)(hil:G.ins.length<=1048576):PX δ base 47 [gL G,.lst vals.length (bA vals),.lst l.length (l.map eu)] (.ok (.tup [.lst l.length (bA (l.map (ed (vA (G.vals vals))))),.int .i64 0])):=by
 have T:=hb.pl (jew hb w l l.length rfl hs hl) rfl rfl;have hm:=w.most;have h0:=w.len;have hI0:=w.insB;unfold gL at *;refine jB jvF haa (hb.pur 47 1 dc) ?_;simp only[jp6,jj,ζ,θ,κ,μ];rw[(by unfold jkt;simp only[qq];rfl:jkt=_)];repeat' first|apply jb<;>intro _|simp(disch:=try exact dzA) only[T,Vr,qI,rzZ,γ,ε]
 refine ki (bytes:=1) (l:=G.parts.length) (c:=G.parts.length) om om om λs1 M=>?_;have C1:Cl s1 0 (bA (inA G.parts.length G.ins vals 0)):=M.cl (by simp[bA,inA]) λi hi=>by
  rw[Qaz] at hi;rw[Nat.mod_one,GK (by rw[XJ];exact hi)];unfold vA inA;have:(Qbr G.parts.length false).getD i false=false:=by rw[Qab,List.getElem?_replicate,if_pos hi];rfl
  rw[this];rfl
 have n1:s1.nx=1:=M.nx;clear M;have C2:Cl (wr (nw s1 [.nils]) 1 0 [.slice 0 0 G.parts.length G.parts.length 1 true]) 1 [.slice 0 0 G.parts.length G.parts.length 1 true]:=(n1▸Cl.new s1 [.nils]:Cl (nw s1 [.nils]) 1 [.nils]).wr 0 _;have D2:Cl (wr (nw s1 [.nils]) 1 0 [.slice 0 0 G.parts.length G.parts.length 1 true]) 0 (bA (inA G.parts.length G.ins vals 0)):=(C1.nw _).wrO dc _ _;have n2:(wr (nw s1 [.nils]) 1 0 [.slice 0 0 G.parts.length G.parts.length 1 true]).nx=2:=by rw[ji,jf,n1]
 have f0:st0.nx=0:=rfl;repeat' first|apply jb<;>intro _|simp(disch:=try exact dzA) only[n1,qI,rzZ,γ,ε]
 generalize wr (nw s1 [.nils]) 1 0 [.slice 0 0 G.parts.length G.parts.length 1 true]=s2 at *;refine jU G.ins.length (λk L s=>(Cl s 0 (bA (inA G.parts.length G.ins vals k))/\Cl s 1 [.slice 0 0 G.parts.length G.parts.length 1 true]/\2<=s.nx)/\Has L 30 (.lst G.ins.length (G.ins.map eu))/\Has L 8 (.ptr 1 0)/\Has L 1 (.lst vals.length (bA vals))/\Has L 0 (.lptr [.lst G.parts.length (fl pE G.parts),.lst G.ins.length (G.ins.map eu)] 0)/\Has L 2 (.lst l.length (l.map eu))) ?_ (λk L s hk hI hi hn=>?_) (λL s hI=>?_)
 .refine⟨⟨D2,C2,om⟩,?_,?_,?_,?_,?_⟩<;>exact hsX
 .obtain⟨⟨D,C,n3⟩,i30,i8,i1,i0,i2⟩:=hI;have hA:=XJ G.parts.length G.ins vals k;have hI2:=hI0 _ (Qaa hk);have lm:(G.ins.map eu).length=G.ins.length:=by simp
  have ge:=Xs hk;have x1:=λ(s:St) (K:AV->St->Prop)=>K9 (st:=s) (K:=K) (a:=G.ins[k]) om;have ga:=C.cell 0 hac;have la:=C.len;have lb:jV s.h 0=G.parts.length:=by rw[D.len];simp[bA,hA]
  have gk:G.ins.getD k 0=G.ins[k]:=by rw[Qab,Qad hk];rfl
  have xi:((G.ins[k] / 2:Nat):Int)<(G.parts.length:Int):=om
  have lv:(bA vals).length=vals.length:=by simp[bA]
  have inS:inA G.parts.length G.ins vals (k+1)=(inA G.parts.length G.ins vals k).set (G.ins[k] / 2) (vals.getD k false):=by rw[inA,gk]
  by_cases hkv:k<vals.length
  .have d1:(k:Int)<(vals.length:Int):=om
   have gv:=GK hkv
   (have zz:=aI @la @lb;repeat' first|apply jb<;>intro _|simp(disch:=try exact JY) only[ja i30,ja i8,ja i1,ja hi,ja hn,qI,lm,ge,x1,ga,d1,lv,gv,xi,la,lb,rzZ,γ,ε])
   have D3:=D.wr (G.ins[k] / 2) [.bool (vals.getD k false)];rw[jdS,<-inS] at D3;refine⟨⟨⟨D3,C.wrO dc _ _,n3⟩,?_,?_,?_,?_,?_⟩,?_,?_⟩;all_goals exact hsX
  .have d1:¬ (k:Int)<(vals.length:Int):=om
   have gv:vals.getD k false=false:=by rw[Qab,List.getElem?_eq_none om];rfl
   (have zz:=aI @la @lb;repeat' first|apply jb<;>intro _|simp(disch:=try exact JY) only[ja i30,ja i8,ja i1,ja hi,ja hn,qI,lm,ge,x1,ga,d1,xi,la,lb,rzZ,γ,ε])
   have D3:=D.wr (G.ins[k] / 2) [.bool false];rw[jdS] at D3;rw[gv] at inS;rw[<-inS] at D3;refine⟨⟨⟨D3,C.wrO dc _ _,n3⟩,?_,?_,?_,?_,?_⟩,?_,?_⟩;all_goals exact hsX
 .obtain⟨⟨D,C,n3⟩,i30,i8,i1,i0,i2⟩:=hI;repeat' first|apply jb<;>intro _|simp(disch:=try exact dzA) only[ja i8,ja i0,ja i2,qI,rzZ,γ,ε]
  refine jU G.parts.length (λk L s=>(Cl s 0 (bA (evA G.parts (inA G.parts.length G.ins vals G.ins.length) k))/\Cl s 1 [.slice 0 0 G.parts.length G.parts.length 1 true]/\2<=s.nx)/\Has L 56 (.lst G.parts.length (fl pE G.parts))/\Has L 8 (.ptr 1 0)/\Has L 11 (.fn 80 [.ptr 1 0])/\Has L 2 (.lst l.length (l.map eu))) ?_ (λky Ly sy hky hIy hiy hny=>?_) (λLy sy hIy=>?_)
  .refine⟨⟨D,C,n3⟩,?_,?_,?_,?_⟩;all_goals exact hsX
  .obtain⟨⟨D,C,n3⟩,i56,i8,i11,i2⟩:=hIy;have hA:(evA G.parts (inA G.parts.length G.ins vals G.ins.length) ky).length=G.parts.length:=by rw[Zz,XJ]
   have eP:=λ(st:St) (K:AV->St->Prop)=>jue (st:=st) (K:=K) hky;have gp:G.parts[ky]? = some (G.parts[ky].1,G.parts[ky].2):=by rw[Qad hky]
   have gd:=kK gp;have eS:=ju6 (A:=inA G.parts.length G.ins vals G.ins.length) gd;have dn:=w.down ky _ _ gp;generalize evA G.parts (inA G.parts.length G.ins vals G.ins.length) ky=A at *;generalize evA G.parts (inA G.parts.length G.ins vals G.ins.length) (ky+1)=A' at *;generalize G.parts[ky].1=a at *;generalize G.parts[ky].2=b at *;have la:=C.len;have rw2:rats (wr (nw sy [.int .u32 0,.int .u32 0]) sy.nx 0 [eu a,eu b]).h sy.nx 0 2=[eu a,eu b]:=YD rfl;have C3:=(C.nw [.int .u32 0,.int .u32 0]).wrO (c:=sy.nx) om 0 [eu a,eu b];have D3:=(D.nw [.int .u32 0,.int .u32 0]).wrO (c:=sy.nx) om 0 [eu a,eu b];have xN:=jr8 a b;by_cases hz:(a,b)=(0,0)
   .rw[if_pos hz] at eS;rw[decide_eq_false (λh=>h hz)] at xN;repeat' first|apply jb<;>intro _|simp(disch:=try exact dzA) only[ja i56,ja i8,ja i11,ja hiy,ja hny,eP,rw2,xN,rzZ,γ,ε]
    refine⟨⟨⟨by rw[eS];exact D3,C3,?_⟩,?_,?_,?_,?_⟩,?_,?_⟩;all_goals first
     |omega
     |(simp(disch:=decide) only[je,jn];done)
     |(simp(disch:=decide) only[je];assumption)
   .rw[if_neg hz] at eS;rw[decide_eq_true hz] at xN;obtain⟨da,db⟩:=dn hz;have Sa:=λK Kp=>jcx hb (A:=A) (e:=a) om om _ 0 1 G.parts.length true K Kp (by rw[hA];exact C3) D3;have Sb:=λK Kp=>jcx hb (A:=A) (e:=b) om om _ 0 1 G.parts.length true K Kp (by rw[hA];exact C3) D3;have W:=Cl.wr (Cl.new sy [.int .u32 0,.int .u32 0]) 0 [eu a,eu b];have w0:=W.cell 0 (by simp[upd]);have w1:=W.cell 1 (by simp[upd]);have lw:=W.len;have l3:=C3.len;have g3:=C3.cell 0 hac;have l0:jV (wr (nw sy [.int .u32 0,.int .u32 0]) sy.nx 0 [eu a,eu b]).h 0=G.parts.length:=by rw[D3.len];simp[bA,hA]
    have D4:=D3.wr ky [.bool (ed (vA A) a && ed (vA A) b)];rw[jdS,<-eS] at D4;have C4:=C3.wrO (c:=0) dc ky [.bool (ed (vA A) a && ed (vA A) b)];have S60:(jZ δ 60 (.ptr 1 0) (.slice 0 0 G.parts.length G.parts.length 1 true) (wr (nw sy [.int .u32 0,.int .u32 0]) sy.nx 0 [eu a,eu b]).h=true)=True:=jwM (by rw[l3];simp) g3 rfl;have v8:vl { l:=[],g:=Ly } (Go.Sy.A.t 8)=.ptr 1 0:=Km i8;cases hp:ed (vA A) a with
    |false=>
     rw[hp] at Sa
     (have zz:=aI @l3 (aI @l0 @lw);repeat' first|apply jb<;>intro _|simp(disch:=try exact JY) only[ja i56,ja i8,ja i11,ja hiy,ja hny,eP,rw2,xN,Sa,g3,w0,w1,v8,S60,jrP,l3,l0,lw,rzZ,γ,ε])
     rw[hp] at D4 C4;refine⟨⟨⟨D4,C4,?_⟩,?_,?_,?_,?_⟩,?_,?_⟩;all_goals first
      |omega
      |(simp(disch:=decide) only[je,jn];done)
      |(simp(disch:=decide) only[je];assumption)
    |true=>
     rw[hp] at Sa
     (have zz:=aI @l3 (aI @l0 @lw);repeat' first|apply jb<;>intro _|simp(disch:=try exact JY) only[ja i56,ja i8,ja i11,ja hiy,ja hny,eP,rw2,xN,Sa,Sb,g3,w0,w1,v8,S60,jrP,l3,l0,lw,rzZ,γ,ε])
     rw[hp] at D4 C4;refine⟨⟨⟨D4,C4,?_⟩,?_,?_,?_,?_⟩,?_,?_⟩;all_goals first
      |omega
      |(simp(disch:=decide) only[je,jn];done)
      |(simp(disch:=decide) only[je];assumption)
  .obtain⟨⟨D,C,n3⟩,i56,i8,i11,i2⟩:=hIy;have hA:(G.vals vals).length=G.parts.length:=by unfold Gr.vals;rw[Zz,XJ]
   have eV:evA G.parts (inA G.parts.length G.ins vals G.ins.length) G.parts.length=G.vals vals:=rfl;rw[eV] at D;generalize G.vals vals=A at *;repeat' first|apply jb<;>intro _|simp(disch:=try exact dzA) only[ja i2,Vr,rzZ,γ,ε]
   refine ki (bytes:=1) (l:=0) (c:=l.length) om om om λs3 M=>?_;have C3:=M.apl.cl _ _ om C;have D3:=M.apl.cl _ _ om D;have F3:=M.cl (cs:=bA (Qbr l.length false)) (by simp[bA]) λi hi=>by
    rw[Qaz] at hi;rw[Nat.mod_one,GK (by simpa using hi)];unfold vA;have:(Qbr l.length false).getD i false=false:=by rw[Qab,List.getElem?_replicate,if_pos hi];rfl
    rw[this];rfl
   have hn3:=M.nx;clear M;have F4:Fl s3 sy.nx 0 (bA (l.map (ed (vA A)))):=⟨_,F3,by simp[bA],rfl⟩;generalize sy.nx=d at *;repeat' first|apply jb<;>intro _|simp(disch:=try exact dzA) only[ja i2,rzZ,γ,ε]
   refine jU l.length (λk L s=>(Fl s d k (bA (l.map (ed (vA A))))/\Cl s 1 [.slice 0 0 G.parts.length G.parts.length 1 true]/\Cl s 0 (bA A))/\Has L 83 (.lst l.length (l.map eu))/\Has L 14 (.slice d 0 k l.length 1 true)/\Has L 11 (.fn 80 [.ptr 1 0])) ?_ (λkz Lz sz hkz hIz hiz hnz=>?_) (λLz sz hIz=>?_)
   .refine⟨⟨F4,C3,D3⟩,?_,?_,?_⟩;all_goals exact hsX
   .obtain⟨⟨F,C,D⟩,i83,i14,i11⟩:=hIz;have e2:=Xs hkz;have hS:=λK Kp=>jcx hb (A:=A) (e:=l[kz]) (by rw[hA];exact hl _ (Qaa hkz)) om sz 0 1 G.parts.length true K Kp (by rw[hA];exact C) D;have lm:(l.map eu).length=l.length:=by simp
    obtain⟨cs,F1,hl1,_⟩:=F.nw [.bool (ed (vA A) l[kz])];have lb:(bA (l.map (ed (vA A)))).length=l.length:=by simp[bA]
    have e:=λK:AV->St->Prop=>kW (K:=K) (cap:=l.length) (bytes:=1) (xc:=1) (xx:=true) (ex:=true) F1 (by rw[hl1,lb]) (show kz+1<=l.length by omega) (Cl.new sz [.bool (ed (vA A) l[kz])]);have F2:=(F.nw [.bool (ed (vA A) l[kz])]).wr (by rw[lb];exact hkz);have ge:(bA (l.map (ed (vA A))))[kz]'(by rw[lb];exact hkz)=.bool (ed (vA A) l[kz]):=by simp[bA]
    rw[ge] at F2;repeat' first|apply jb<;>intro _|simp(disch:=try exact dzA) only[ja i83,ja i14,ja i11,ja hiz,ja hnz,qI,lm,e2,hS,e,rzZ,γ,ε]
    refine⟨⟨⟨F2,(C.nw _).wrO om _ _,(D.nw _).wrO om _ _⟩,?_,?_,?_⟩,?_,?_⟩;all_goals exact hsX
   .obtain⟨⟨F,C,D⟩,i83,i14,i11⟩:=hIz;have C:=F.cl (by simp[bA]);repeat' first|apply jb<;>intro _|simp(disch:=try exact dzA) only[ja i14,rzZ,γ,ε]
    refine FzD.tup (.cons (FzD.slice (Cl.rw_ (b:=d) (cs:=bA (l.map (ed (vA A)))) (by simp only[jz];exact C)) (by simp[bA]) (Qae _) ?_) (.cons (.pc rfl) .nil));rw[Qbb (by simp[bA])];exact FzsD.pc (jbQ _)
theorem jmU (hb:NB base){G:Gr}(w:G.WF)(vals:List Bool){nf:(Nat->Bool)->Int}(V:VN G l nf)(hv:vals.length<=1048576)(hil:G.ins.length<=1048576):PL δ base 48 [gL G,.lst vals.length (bA vals),.lst l.length (l.map eu)] (.ok (.tup [.int .i64 (nf (vA (G.vals vals))),.int .i64 0])):=by
 have h1:=V.h1;have h2:l.length<=32:=χ V.h2 dc;have R:=jcD hb (l.map eu) h1 h2;have E:=hb.tot (jka hb w vals l hv V.has om hil) rfl rfl;have ok:=w.vals_ok vals;have hf:=V.fit _ ok;have lb:(bA (l.map (ed (vA (G.vals vals))))).length=l.length:=by simp[bA]
 have hg:∀ k,k<l.length->(bA (l.map (ed (vA (G.vals vals))))).getD k .bad=.bool (bt (nf (vA (G.vals vals))) k):=λk hk=>by
  rw[GK (by simpa using hk)];unfold vA;rw[Qab,Qbf,Qad hk];exact congrArg AV.bool ((V.is k hk).2 _ ok)
 generalize nf (vA (G.vals vals))=n at *;generalize bA (l.map (ed (vA (G.vals vals))))=r at *;have hm:=Zy hf h1;have hgw:=hg (l.length - 1) om;have hq:∀ k,k<=32->(2:Int) ^ k<=4294967296:=λk hk=>by
  have:=Qbu (n:=2) dc hk;rw[<-U9];omega
 generalize gL G=gl at *;generalize hw:l.length=wd at *;refine yb jvE haa (hb.pur 48 5 dc) rfl ?_;simp only[jp5,jj,ζ,θ,κ,μ];rw[(by unfold jks;simp only[qq];rfl:jks=_)];repeat' first|apply jb<;>intro _|simp(disch:=try exact dzA) only[R,E,rzZ,γ,ε]
 refine jU wd (λk L s=>Has L 8 (.lst wd r)/\Has L 27 (.lst wd r)/\Has L 10 (.int .i64 (n % 2 ^ k))) ?_ (λk L s hk hI hi hn=>?_) (λL s hI=>?_)
 .rw[show n % 2 ^ 0=0 by simp[Int.emod_one]];simp(disch:=decide) only[h12]
 .obtain⟨i8,i27,i10⟩:=hI;have e:=hg k hk;have hb1:=wH n k;have hb2:=hq k om;have eL:∀ (st:St) (K:AV->St->Prop),jk (WY .shl (.int .i64 1) (.int .i64 (k:Int)) st) K=K (.int .i64 (2 ^ k)) st:=λst K=>by rw[jcl om,U9]
  have eS:=uF n k;cases hbk:bt n k with
  |false=>
   rw[hbk] at e eS;rw[show n % 2 ^ (k+1)=n % 2 ^ k by rw[eS];simp];repeat' first|apply jb<;>intro _|simp(disch:=try exact dzA) only[ja i8,ja i27,ja hi,ja hn,qI,lb,e,rzZ,γ,ε]
   refine⟨⟨?_,?_,?_⟩,?_,?_⟩;all_goals exact hsX
  |true=>
   rw[hbk] at e eS;rw[show n % 2 ^ (k+1)=n % 2 ^ k+2 ^ k by rw[eS];simp];generalize (2:Int) ^ k=q at *;generalize n % q=a at *;repeat' first|apply jb<;>intro _|simp(disch:=try exact dzA) only[ja i8,ja i27,ja i10,ja hi,ja hn,qI,lb,e,eL,rzZ,γ,ε]
   refine⟨⟨?_,?_,?_⟩,?_,?_⟩;all_goals exact hsX
 .obtain⟨i8,i27,i10⟩:=hI;have hb1:=wH n wd;have hb2:=hq wd om;have hx:((wd:Int) - 1).toNat=wd - 1:=om
  have eL:∀ (st:St) (K:AV->St->Prop),jk (WY .shl (.int .i64 1) (.int .i64 (wd:Int)) st) K=K (.int .i64 (2 ^ wd)) st:=λst K=>by rw[jcl om,U9]
  generalize (2:Int) ^ wd=q at *;cases hbk:bt n (wd - 1) with
  |false=>
   rw[hbk] at hm hgw;repeat' first|apply jb<;>intro _|simp(disch:=try exact dzA) only[ja i8,ja i10,qI,lb,hx,hgw,rzZ,γ,ε]
   exact t2v (by rw[hm];simp) rfl rfl rfl
  |true=>
   rw[hbk] at hm hgw;generalize n % q=a at *;repeat' first|apply jb<;>intro _|simp(disch:=try exact dzA) only[ja i8,ja i10,qI,lb,hx,hgw,eL,rzZ,γ,ε]
   exact t2v (by rw[hm];simp) rfl rfl rfl
theorem jcw (hb:NB base){G:Gr}(w:G.WF)(vals:List Bool){e:Nat}(he:G.has e)(hv:vals.length<=1048576)(hil:G.ins.length<=1048576):PL δ base 15 [gL G,.lst vals.length (bA vals),eu e,.int .i64 0] (.ok (.tup [.bool (ed (vA (G.vals vals)) e),.bool true])):=by
 have C:Cl (nw st0 [eu e]) 0 [eu e]:=Cl.new st0 [eu e];have F:Fza (nw st0 [eu e]) [gL G,.lst vals.length (bA vals),.slice 0 0 1 1 1 true] [gL G,.lst vals.length (bA vals),.lst 1 ([e].map eu)] [0]:=Fza.pa rfl (Fza.pa rfl (Fza.sl C rfl rfl .nil));have E:=λK Kp=>(jka hb w vals [e] hv (λa ha=>by rw[QaL.1 ha];exact he) hac hil).xf F (λst=>hb.no 47 dc _ _) K Kp;have el:bA ([e].map (ed (vA (G.vals vals))))=[.bool (ed (vA (G.vals vals)) e)]:=rfl;have e1:([e]:Lc).length=1:=rfl;rw[el,e1] at E;generalize ed (vA (G.vals vals)) e=p at *;generalize gL G=gl at *;refine yb jvV haa (hb.pur 15 5 dc) rfl ?_;simp only[jqm,jj,ζ,θ,κ,μ];rw[(by unfold jkJ;simp only[qq];rfl:jkJ=_)];repeat' first|apply jb<;>intro _|simp(disch:=try exact dzA) only[E,wG,qI,rzZ,γ,ε]
 exact t2v rfl rfl rfl rfl
def frG (l:Lc):List AV:=[.lst l.length (l.map eu)]
def frV (F:Lb):AV:=.lst F.length (fl frG F)
theorem G6 {F:Lb}(h:k<F.length):jk (XW (.lptr (fl frG F) k) st) K=K (.lst F[k].length (F[k].map eu)) st:=by
 have:=jco (st:=st) (K:=K) (enc:=frG) (z:=1) (λ_=>rfl) h (k:=0) dc;rw[Qaz,Qbq] at this;exact this
structure FN (G:Gr)(F:Lb)(ns:List ((Nat->Bool)->Int)):Prop where
 len:F.length=ns.length
 vn:∀ i (h:i<F.length) (h2:i<ns.length),VN G F[i] ns[i]
theorem FN.up {G H:Gr}{F:Lb}(k:FN G F ns)(h:G.Le H):FN H F ns:=⟨k.len,λi h1 h2=>(k.vn i h1 h2).up h⟩
theorem juX {v u:AV}(F:FzD st.nx 9 s v u)(a:ApL st.nx st.bare s)(hK:∀ s',ApL st.nx st s'->K u s'):∃ u ks,fz 9 s.h v=some (u,ks)/\K u (back st (kills ks s)):=by
 obtain⟨ks,e,h⟩:=F;have hn:st.bare.nx=st.nx:=rfl;refine⟨u,ks,e,hK _ ⟨a.nx,rfl,λc hc hl=>?_⟩⟩;have e1:=JQ ks s.h c;rw[if_neg (λhm=>by have:=h c hm;omega)] at e1;exact e1.trans (a.hp c hc hl)
theorem jfz (hb:NB base){G:Gr}{F:Lb}(vals:List Bool){x:AV}(hx:∀ h,lend h x=some (.lst vals.length (bA vals)))(hv:vals.length<=1048576)(hil:G.ins.length<=1048576)(hF:F.length<=1000000)(R:FN G F ns)(st:St)(H:GM st g O G)(w:G.WF)(K Kp:AV->St->Prop)(hK:∀ s',ApL st.nx st s'->K (.tup [svV (ns.map λn=>n (vA (G.vals vals))),.int .i64 0]) s'):XB δ base 16 [.ptr g 0,x,frV F] st K Kp:=by
 have fin:∀ {s:St} {v:AV},ApL st.nx st.bare s->FzD st.nx 9 s v (.tup [svV (ns.map λn=>n (vA (G.vals vals))),.int .i64 0])->∃ u ks,fz 9 s.h v=some (u,ks)/\K u (back st (kills ks s)):=λa f=>juX f a hK;obtain⟨hl,hat⟩:=R;have N:=λi (h:i<F.length) (h2:i<ns.length)=>jmU hb w vals (hat i h h2) hv hil;generalize vA (G.vals vals)=v at *;obtain⟨sv,hsv,hl3,ga⟩:∃ sv:Ld,(ns.map λn=>n v)=sv/\sv.length=F.length/\∀ i (h:i<ns.length) (h2:i<sv.length),sv[i]=ns[i] v:=⟨_,rfl,by simp[hl],λi h h2=>by simp⟩;rw[hsv] at hK fin;refine vW jvU haa (hb.pur 16 2 dc) (hb.no 16 dc _ _) ?_;simp only[jql,jj,ζ,θ,κ,μ];rw[(by unfold jkI;simp only[qq];rfl:jkI=_)];have H0:=H.bar;have A0:ApL st.nx st.bare st.bare:=⟨η _,rfl,λ_ _ _=>rfl⟩;have hO:∀ c,O c->c<st.nx:=λc hc=>H.lt hc;generalize hp:st.nx=p at *;unfold frV at *;repeat' first|apply jb<;>intro _|simp(disch:=try exact dzA) only[rzZ,γ,ε]
 refine jU F.length (λk L s=>(∃ v,Lv p s.nx s v k ((sv.take k).map (.int .i64)) 1/\Has L 8 v)/\(GM s g O G/\ApL p st.bare s)/\Has L 0 (.ptr g 0)/\Has L 1 x/\Has L 13 (.lst F.length (fl frG F))) ?_ (λk L s hk hI hi hn=>?_) (λL s hI=>?_)
 .refine⟨⟨.nils,Lv.nil,?_⟩,⟨H0,A0⟩,?_,?_,?_⟩<;>exact hsX
 .obtain⟨⟨v',V,i8⟩,⟨HS,AS⟩,i0,i1,i13⟩:=hI;have hks:k<sv.length:=om
  have hkn:k<ns.length:=om
  have eF:=λ(st:St) (K:AV->St->Prop)=>G6 (st:=st) (K:=K) hk;have E:=λK Kp=>(N k hk hkn).xb (st:=s) (aZ':=[.ptr g 0,x,.lst F[k].length (F[k].map eu)]) (qw HS.lend (qw (hx _) (yh rfl Qo))) (λst=>hb.no 48 dc _ _) K Kp;have gk:ns[k] v=sv[k]:=(ga k hkn hks).symm;rw[gk] at E;have n0:p<=s.nx:=by have:=AS.nx;have:st.bare.nx=p:=hp;omega
  have V1:Lv p s.nx (nw s [.int .i64 sv[k]]) v' k ((sv.take k).map (.int .i64)) 1:=by rw[jG (η _)];exact V
  have hr:rats (nw s [.int .i64 sv[k]]).h s.nx 0 1=[.int .i64 sv[k]]:=(Cl.new s _).rats0 rfl;have eA:=λK=>(Jt (K:=K) (bytes:=8) (xc:=1) (xx:=true) V1 dc om om (show 1<=jV _ s.nx by rw[(Cl.new s [.int .i64 sv[k]]).len];exact η 1));have V2:=V1.app (news:=[.int .i64 sv[k]]) rfl (by rw[jf];omega);rw[hr] at eA;rw[QbG hks,Qay];repeat' first|apply jb<;>intro _|simp(disch:=try exact dzA) only[ja i8,ja i0,ja i1,ja i13,ja hi,ja hn,eF,E,wG,eA,rzZ,γ,ε]
  have A1:ApL p s (aps v' (nw s [.int .i64 sv[k]]) [.int .i64 sv[k]]):=⟨by rw[jm,jf];omega,by rw[QM,ZT],λc hc h=>(V1.get _ _ c (.inl hc) (by rw[jf];omega)).trans (qp om)⟩;refine⟨⟨⟨_,V2,?_⟩,⟨HS.keep A1.nx λc hc=>A1.hp c (hO c hc) (HS.lt hc),⟨χ AS.nx A1.nx,A1.fr.trans AS.fr,λc hc h=>(A1.hp c hc om).trans (AS.hp c hc h)⟩⟩,?_,?_,?_⟩,?_,?_⟩;all_goals exact hsX
 .obtain⟨⟨v',V,i8⟩,⟨HS,AS⟩,i0,i1,i13⟩:=hI;rw[Qbb om] at V;repeat' first|apply jb<;>intro _|simp(disch:=try exact dzA) only[ja i8,rzZ,γ,ε]
  refine fin (by assumption) (FzD.tup (.cons ?_ (.cons (.pc rfl) .nil)));unfold svV;rw[hl3];exact V.fz (η _) (Wv _)
end Go.Sy
end
