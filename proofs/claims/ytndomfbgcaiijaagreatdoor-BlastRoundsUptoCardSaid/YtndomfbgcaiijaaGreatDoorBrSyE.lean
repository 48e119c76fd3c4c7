/-
  Contracts: the code lowered, what it does told by rules, and the contracts of the functions that the law reaches.
-/
import Derived.Test.YtndomfbgcaiijaaGreatDoorBrSyD
import Derived.Test.YtndomfbgcaiijaaGreatDoorProg
import Derived.KernelRfl
import Derived.Shelf.LaysC
import Derived.Shelf.Strconv.ParseIntPublic10
set_option linter.unusedVariables false
set_option linter.unusedSimpArgs false
open Go.Proofs.Tryz renaming prog → γ
open Nat renaming reduceAdd → δ, reduceSub → ε, le_refl → μ, le_trans → ψ, zero_le → Qaa, zero_add → Qag, le_max_left → Qao, le_max_right → Qap, lt_or_ge → Qar, lt_of_lt_of_le → Qat, mul_le_mul_right → Qax, mul_one → QaB, add_mul → QaD, sub_zero → QaG, not_lt_zero → QaJ, succ_pos → QaN, zero_mul → QaP, succ_mul → QaR, le_of_eq → QaS, lt_succ_self → Qbb, ne_of_lt → Qbe, add_zero → Qbf, le_succ → Qbg, add_assoc → Qbi, lt_irrefl → Qbk, mod_eq_of_lt → Qbm, add_comm → Qbo, pow_le_pow_right → Qbq, succ_lt_succ → Qbv, min_eq_left → Qby, le_of_lt → QbE, add_sub_cancel → QbY, lt_trichotomy → Qca, le_succ_of_le → Qcf, beq → Qci, succ → Qcj, ble → Qck, add → Qcl, mul → Qcm, sub → Qcn
open List renaming map_cons → ζ, map_nil → η, getD_cons_zero → θ, getD_cons_succ → κ, length_cons → ν, length_append → υ, length_nil → φ, getD → ω, range → Qab, range' → Qac, cons_append → Qad, all_eq_true → Qae, getElem_mem → Qaf, take_length → Qah, getElem?_eq_getElem → Qai, nil_append → Qaj, cons → Qal, length_take → Qam, getD_eq_getElem?_getD → Qan, length_map → Qaq, length_drop → Qau, all_cons → Qaz, take_zero → QaC, append_assoc → QaE, mem_map → QaL, all_append → QaM, append_nil → QaO, mem_append → QaQ, mem_cons → QaU, take_of_length_le → QaV, map_map → QaW, map_congr_left → QaX, eq_nil_of_length_eq_zero → QaY, drop_zero → Qba, range'_succ → Qbc, map_append → Qbd, ext_getElem → Qbh, getElem?_map → Qbj, drop_drop → Qbl, mem_range → Qbp, getElem_cons_zero → Qbs, take_append_drop → Qbt, take_succ_eq_append_getElem → Qbw, getElem?_take → Qbx, mem_iff_getElem → Qbz, getElem?_append_left → QbB, map_toArray → QbC, mem_singleton → QbF, getElem_cons_succ → QbG, getElem_cons_drop → QbH, getElem?_drop → QbI, mem_of_mem_take → QbJ, take_take → QbK, foldr_cons → QbM, take_add_one → QbO, getElem?_append_right → QbP, foldl_append → QbR, getElem?_range → QbS, mem_cons_of_mem → QbT, length_pos_iff → QbU, drop_length → QbV, flatMap_cons → QbX, countP_singleton → Qcc, take_succ_cons → Qcd
open Int renaming zero_add → ξ, natCast_zero → τ, ofNat → Qas, eq_ofNat_of_zero_le → Qbr, natCast_nonneg → QbL
open Bool renaming and_eq_true → χ, eq_iff_iff → Qay, or_eq_true → QaA, not_eq_true' → QaI, false_eq_true → QaK, true_eq_false → Qbu, or_eq_false_iff → QbN, eq_false_iff → Qce
open Array renaming length_toList → Qak, getElem?_eq_some_iff → Qav, replicate → QaF, toList_map → Qbn, getElem?_toList → QbD, getD_eq_getD_getElem? → QbQ, toList_append → QbZ, mem_toList_iff → Qcb, getElem?_eq_getElem → Qcg, getElem?_setIfInBounds_ne → Qch
open Option renaming map_some → Qaw, getD_some → QaH, bind_some → QaT, map_none → QaZ, map_eq_some_iff → QbA
open Function renaming comp_def → QbW
noncomputable section
set_option maxRecDepth 100000
namespace Go.Sy
open Go.Ev Go.Proofs
variable {base:Bs}
section
variable {st:St} {K:AV->St->Prop}
theorem jgj (k:IntKind)(a b:Int):ji (yJ .add (.int k a) (.int k b) st) K=K (.int k (qY k (a+b))) st:=by
 cases k<;>rfl
theorem jfW (k:IntKind)(a b:Int):ji (yJ .sub (.int k a) (.int k b) st) K=K (.int k (qY k (a - b))) st:=by
 cases k<;>rfl
theorem jf5 (k:IntKind)(a b:Int):ji (yJ .mul (.int k a) (.int k b) st) K=K (.int k (qY k (a * b))) st:=by
 cases k<;>rfl
theorem joJ (k:IntKind)(a:Int):ji (unV .neg (.int k a) st) K=K (.int k (qY k (-a))) st:=by
 have e:k.wrap (0 - a)=qY k (-a):=by rw[<-YO,Int.zero_sub]
 simp only[unV,Yn,O,e,ji]
theorem jgh (k j:IntKind)(a:Int):ji (jfn k (.int j a) st) K=K (.int k (qY k a)) st:=by
 cases k<;>cases j<;>rfl
end
def kg (b:Bool):Int:=if b then 1 else 0
def jfo (op num a b:Int):Int:=
 if op=5 then qY .i64 (-a) else if op=6 then qY .i64 (1 - a) else if op=14 then qY .i64 (a * b) else if op=15 then qY .i64 (a+b) else if op=16 then qY .i64 (a - b)
 else if op=17\/op=30 then kg (decide (a=b)) else if op=18 then kg (decide (a≠b)) else if op=19 then kg (decide (a<b)) else if op=20\/op=29 then kg (decide (a<=b))
 else if op=21 then kg (decide (b<a)) else if op=22 then kg (decide (b<=a)) else if op=27 then qY .i64 (a * b) else if op=28 then max a b else num
mutual
def Ja:Ex->Int
 |.mk op num _ ks _ _=>jfo op num ((J1 ks).getD 0 0) ((J1 ks).getD 1 0)
def J1:List Ex->List Int
 |[]=>[]
 |x :: xs=>Ja x :: J1 xs
end
mutual
def JL:Ex->Bool
 |.mk _ _ _ ks _ _=>decide (ks.length<=2) && Jy ks
def Jy:List Ex->Bool
 |[]=>true
 |x :: xs=>JL x && Jy xs
end
theorem jhP (x:Ex):Ja x=jfo x.op x.num ((J1 x.kids).getD 0 0) ((J1 x.kids).getD 1 0):=by cases x;rw[Ja];rfl
theorem Gn:∀ {xs:List Ex} {k:Nat} (h:k<xs.length),Jy xs=true->JL xs[k]=true
 |x :: xs,0,_,h=>by rw[Jy,χ] at h;exact h.1
 |x :: xs,k+1,hk,h=>by rw[Jy,χ] at h;exact Gn (xs:=xs) (k:=k) (by simpa using hk) h.2
theorem KN:∀ {xs:List Ex} {k:Nat} (h:k<xs.length),zJ xs=none->JD xs[k]=none
 |x :: xs,0,_,h=>by
  rw[zJ] at h;cases hx:JD x with
  |none=>exact hx
  |some y=>rw[hx] at h;cases h
 |x :: xs,k+1,hk,h=>by
  rw[zJ] at h;cases hx:JD x with
  |none=>rw[hx] at h;exact KN (xs:=xs) (k:=k) (by simpa using hk) h
  |some y=>rw[hx] at h;cases h
def kr (ks:List Ex)(k:Nat):List AV:=[.int .i64 ((J1 (ks.take k)).getD 0 0),.int .i64 ((J1 (ks.take k)).getD 1 0)]
theorem jcc (ks:List Ex)(k:Nat):(kr ks k).length=2:=nr rfl
theorem jm9 {ks:List Ex}{k:Nat}(hk:k<ks.length)(h2:ks.length<=2):upd (kr ks k) k [.int .i64 (Ja ks[k])]=kr ks (k+1):=by
 match ks,k with
 |[a],0=>rfl
 |[a,b],0=>rfl
 |[a,b],1=>rfl
 |[a],k+1=>simp at hk
 |[a,b],k+2=>exact absurd hk (by simp)
 |a :: b :: c :: l,_=>simp at h2
theorem jsg (hb:NB base)(q:Bool):Tot base 167 [.bool q] (.int .i64 (kg q)):=by
 refine hb.tot ?_ rfl rfl;refine jF jtc (by rfl) (hb.pur 167 1 dc) ?_;simp only[jn9,jh,ζ,η,θ,κ];rw[(by unfold jiZ;simp only[qq];rfl:jiZ=_)];repeat'(first|apply jb<;>intro _|simp(disch:=first|exact dzG|fail) only[r8,δ,ε])
 ·rename_i h;subst h;exact G0.v rfl rfl
 ·rename_i h;have h:q=false:=by simpa using h
  subst h;exact G0.v rfl rfl
set_option maxHeartbeats 4000000 in
theorem jfq (hb:NB base):∀ x:Ex,JL x=true->JD x=none->Tot base 132 [.agg (eE x)] (.int .i64 (Ja x)):=by
 refine Ex.indk λx ih ht hf=>?_;have ht':x.kids.length<=2/\Jy x.kids=true:=by cases x;rw[JL,χ,decide_eq_true_eq] at ht;exact ht
 have hop:x.op≠4:=λh=>by rw[vS,if_pos h] at hf;cases hf
 rw[vS,if_neg hop] at hf;refine hb.tot ?_ (by first|rfl|simp[pa,pc,q9,QJ,JE,Jj,Yl,ZY,Z6,QD,Zk]) rfl;refine jF jtx (by rfl) (hb.pur 132 1 dc) ?_;simp only[jou,jh,ζ,η,θ,κ];rw[(by unfold jjk;simp only[qq];rfl:jjk=_)];repeat'(first|apply jb<;>intro _|simp(disch:=first|exact dzG|fail) only[r8,δ,ε])
 refine jZ x.kids.length (λk L s=>2<=s.nx/\Cl s 0 (eE x)/\Cl s 1 (kr x.kids k)/\Has L 1 (.ptr 0 0)/\Has L 3 (.ptr 1 0)/\Has L 8 (.lst x.kids.length (fl eE x.kids))) ?_ (λk L s hk hI hi hn=>?_) (λL s hI=>?_)
 ·refine⟨by(first|omega|(simp only[je,jg,jo,jk,jj];first|done|omega)),?_,Cl.new _ _,?_,?_,?_⟩
  ·have n0:=Cl.new st0 (eE x);exact n0.nw _
  all_goals simp(disch:=decide) only[jf,jn]
 ·obtain⟨h2,C0,C1,i1,i3,i8⟩:=hI;have E:=ih x.kids[k] (Qaf hk) (Gn hk ht'.2) (KN hk hf);have ap:=jm9 hk ht'.1;have hk2:k<2:=om
  (have zz:=aI @jcc (aI C0.r C1.r);(repeat'(first|apply jb<;>intro _|simp(disch:=first|exact qk|fail) only[ja i1,ja i3,ja i8,ja hi,ja hn,E,jcc,C0.q,C1.q,jcc,C0.r,C1.r,r8,δ,ε])))
  refine⟨⟨by(first|omega|(simp only[je,jg,jo,jk,jj];first|done|omega)),ckX,Cl.cv (Cl.wr (?_:Cl _ 1 (kr x.kids k)) k _) ap,?_,?_,?_⟩,?_,?_⟩
  ·exact ckX
  all_goals exact hsX
 ·obtain⟨h2,C0,C1,i1,i3,i8⟩:=hI;have hc:=jhP x;have ea:kr x.kids x.kids.length=[.int .i64 ((J1 x.kids).getD 0 0),.int .i64 ((J1 x.kids).getD 1 0)]:=by unfold kr;rw[Qah]
  rw[ea] at C1;generalize (J1 x.kids).getD 0 0=a at *;generalize (J1 x.kids).getD 1 0=b at *;rw[hc];have B:=jsg hb
  (have zz:=aI C0.r C1.r;(repeat'(first|apply jb<;>intro _|simp(disch:=first|exact qk|fail) only[ja i1,ja i3,ja i8,B,joJ,jfW,jf5,jgj,C0.q,C1.q,C0.r,C1.r,r8,δ,ε])))
  all_goals(refine G0.v (congrArg _ ?_) rfl;unfold jfo;simp_all)
def stW (n:Int)(v:VarT):Int:=qY .u64 (n * qY .u64 (qY .u64 (qY .u64 v.hi - qY .u64 v.lo)+1))
def YS (vars:List VarT):Int:=qY .i64 (vars.foldl stW 1)
set_option maxHeartbeats 4000000 in
theorem jaK (hb:NB base)(vars:List VarT)(hl:vars.length<=1000000)(n2 n3:Nat)(c2 c3:List AV):PL γ base 33 [.agg [.lst vars.length (fl vaE vars),.lst n2 c2,.lst n3 c3]] (.ok (.int .i64 (YS vars))):=by
 refine qB x33 (by rfl) (hb.pur 33 5 dc) rfl ?_;simp only[y33,jh,ζ,η,θ,κ];rw[(by unfold z33;simp only[qq];rfl:z33=_)];repeat'(first|apply jb<;>intro _|simp(disch:=first|exact dzG|fail) only[r8,δ,ε])
 refine jZ vars.length (λk L s=>1<=s.nx/\Has L 3 (.int .u64 ((vars.take k).foldl stW 1))/\Has L 7 (.lst vars.length (fl vaE vars))) ?_ (λk L s hk hI hi hn=>?_) (λL s hI=>?_)
 ·refine⟨by(first|omega|(simp only[je,jg,jo,jk,jj];first|done|omega)),?_,?_⟩<;>simp(disch:=decide) only[jf,jn,QaC,List.foldl_nil]
 ·obtain⟨h1,i3,i7⟩:=hI;have tk:vars.take (k+1)=vars.take k ++ [vars[k]]:=zr hk;have A1:=λa b st K=>@jgj st K .u64 a b;have A2:=λa b st K=>@jfW st K .u64 a b;repeat'(first|apply jb<;>intro _|simp(disch:=first|exact dzG|fail) only[ja i3,ja i7,ja hi,ja hn,jgh,jf5,A1,A2,r8,δ,ε])
  refine⟨⟨by(first|omega|(simp only[je,jg,jo,jk,jj];first|done|omega)),?_,?_⟩,?_,?_⟩
  ·rw[tk,QbR];exact⟨rfl,rfl⟩
  all_goals exact hsX
 ·obtain⟨h1,i3,i7⟩:=hI;rw[Qah] at i3;repeat'(first|apply jb<;>intro _|simp(disch:=first|exact dzG|fail) only[ja i3,jgh,r8,δ,ε])
  exact G0.v rfl rfl
def JK (vars:List VarT)(enums:List EnumT):VarT->List Ex->KR VarT
 |v,[]=>.ok v
 |v,x :: xs=>match yU vars enums false x v.kind v.enum with
  |.er a b c=>.er a b c
  |.ok y=>match JD y with
   |some z=>.er 161 z.line z.col
   |none=>if Ja y<v.lo\/v.hi<Ja y then .er 164 x.line x.col else JK vars enums { v with beg:=true,first:=Ja y } xs
theorem kj {vars:List VarT}{enums:List EnumT}:∀ {xs ys:List Ex} {v:VarT},JK vars enums v (xs ++ ys)=match JK vars enums v xs with | .er a b c=>.er a b c | .ok u=>JK vars enums u ys
 |[],ys,v=>rfl
 |x :: xs,ys,v=>by
  simp only[Qad,JK];cases yU vars enums false x v.kind v.enum with
  |er a b c=>rfl
  |ok y=>
   dsimp only;cases JD y with
   |some z=>rfl
   |none=>
    dsimp only;split
    ·rfl
    ·exact kj
def en0:EnumT:=⟨[],[],0,0⟩
def Qo (enums:List EnumT)(nm:List Nat):Int:=fi (λx=>decide (x.name=nm)) enums
def Wt (enums:List EnumT)(d:DeclT):KR VarT:=
 if d.ty=[98,111,111,108] then .ok ⟨d.name,2,[],0,1,false,0⟩
 else if 0<=Qo enums d.ty then .ok ⟨d.name,3,d.ty,0,((enums.getD (Qo enums d.ty).toNat en0).vals.length:Int) - 1,false,0⟩
 else if d.ty≠[] then .er 161 d.line d.col
 else if d.hi<d.lo then .er 164 d.line d.col
 else if 1024<=d.hi - d.lo then .er 165 d.line d.col
 else .ok ⟨d.name,1,[],d.lo,d.hi,false,0⟩
def gI (m:ModT)(ts:List (List Nat))(d:DeclT)(v:VarT):KR (ModT×List (List Nat)):=
 if 281474976710656<YS (m.vars ++ [v]) then .er 165 d.line d.col else .ok ({ m with vars:=m.vars ++ [v] },ts)
def ua (m:ModT)(ts:List (List Nat))(d:DeclT)(v:VarT):KR (ModT×List (List Nat)):=match JK m.vars m.enums v d.begins with
 |.er a b c=>.er a b c
 |.ok v=>gI m ts d v
def Zq (m:ModT)(ts:List (List Nat))(d:DeclT):KR (ModT×List (List Nat)):=match Q6 ts d.name d.line d.col with
 |.er a b c=>.er a b c
 |.ok ts=>match Wt m.enums d with
  |.er a b c=>.er a b c
  |.ok v=>ua m ts d v
section
variable {p mb lo hi:Nat} {m:ModT} {ts us:List (List Nat)} {v1 v2 v3:AV} {s t:St}
theorem MS.ck (S:MS p mb lo hi m ts v1 v2 v3 s):Ck p v1 v2 v3 (.map mb) m.vars m.enums false s:=by
 obtain⟨C,M,l1,l2,l3,d12,d13,d23,hp,hm,pm,h1,h2⟩:=S;refine⟨C,l1.lr,l2.lr,?_,?_⟩
 ·intro b k z x e;rcases l1 with ⟨h,_⟩|⟨c,h,h2,_⟩
  ·rw[h] at e;cases e
  ·rw[h] at e;cases e;omega
 ·intro b k z x e;rcases l2 with ⟨h,_⟩|⟨c,h,h2,_⟩
  ·rw[h] at e;cases e
  ·rw[h] at e;cases e;omega
theorem MS.var (S:MS p mb lo hi m ts v1 v2 v3 s)(e:VarT):MS p mb lo (s.nx+1) { m with vars:=m.vars ++ [e] } ts (apv 7 v1 s) v2 v3 (Go.Sy.wr (Go.Sy.aps v1 s (vaE e)) p 0 [apv 7 v1 s]):=by
 obtain⟨C,M,l1,l2,l3,d12,d13,d23,hp,hm,pm,h1,h2⟩:=S;have h4:=C.lt;have hn:(Go.Sy.wr (Go.Sy.aps v1 s (vaE e)) p 0 [apv 7 v1 s]).nx=s.nx+1:=by rw[jg,jk]
 refine⟨?_,?_,?_,?_,?_,(Df.put l2 h2).1,(Df.put l3 h2).1,d23,hp,hm,pm,om,by rw[hn];exact μ _⟩
 ·exact(cast (l1.cl s (vaE e) _ p (.inl hp) h4).symm C:Cl (Go.Sy.aps v1 s (vaE e)) p _).wr 0 [apv 7 v1 s]
 ·exact M.keep (by rw[hn];omega) (by rw[zI (λh=>pm h.symm)];exact l1.get s (vaE e) mb (.inl hm) M.lt)
 ·rw[jC (.inl hp),υ,QY,JX];exact l1.put (Xx e) om rfl
 ·rw[jC (.inl hp)];exact(l2.apsD d12).up om
 ·rw[jC (.inl hp)];exact(l3.apsD d13).up om
end
def va0:List AV:=[.str [],.int .i64 0,.str [],.int .i64 0,.int .i64 0,.bool false,.int .i64 0]
def dQ (st:St)(K:AV->St->Prop):Out->Prop:=QZ γ y62.res λv s=>K v (back st s)
def dP (st:St)(Kp:AV->St->Prop):AV->Sl->St->Prop:=λv _ s=>Kp v (bk st s)
structure DS (p mb lo q:Nat)(m:ModT)(ts:List (List Nat))(v1 v2 v3:AV)(d:DeclT)(v:VarT)(st:St)(L:Sl)(s:St):Prop where
 S:MS p mb lo q m ts v1 v2 v3 s
 k:Kq p mb lo st.bare s
 nx:q+2<=s.nx
 c3:Cl s q (qo d)
 c4:Cl s (q+1) (vaE v)
 i0:Has L 0 (.ptr p 0)
 i3:Has L 3 (.ptr q 0)
 i4:Has L 4 (.ptr (q+1) 0)
theorem jjF (hb:NB base)(vars:List VarT)(hl:vars.length<=1000000){st:St}{v1 v2 v3:AV}{n2 n3:Nat}{c2 c3:List AV}(h1:Lr st v1 vars.length (fl vaE vars))(h2:Lr st v2 n2 c2)(h3:Lr st v3 n3 c3)(p2:c2.all pc=true)(p3:c3.all pc=true)(K Kp:AV->St->Prop) :
  XB γ base 33 [.agg [v1,v2,v3]] st K Kp=K (.int .i64 (YS vars)) st:=by
 refine(jaK hb vars hl n2 n3 c2 c3).xb (qr (jg4 (jeV (h1.fz (d:=6) (zN Yl vars)) (jeV (h2.fz (d:=6) p2) (jeV (h3.fz (d:=6) p3) jr7)))) JB) (λst=>hb.no 33 dc _ _) K Kp
set_option maxHeartbeats 4000000 in
theorem jqf (hb:NB base){p mb lo q:Nat}{m:ModT}{ts:List (List Nat)}{v1 v2 v3:AV}{d:DeclT}{v:VarT}{st:St}{L:Sl}{s:St}(D:DS p mb lo q m ts v1 v2 v3 d v st L s)(hV:m.vars.length<=900000)(K Kp:AV->St->Prop)(hK:KM p mb lo st (gI m ts d v) K Kp):xC γ base jd6 L s (dQ st K) (dP st Kp):=by
 obtain⟨S,k,nx,C3,C4,i0,i3,i4⟩:=D;obtain⟨C,M,l1,l2,l3,d12,d13,d23,hp,hm,pm,lo0,hi0⟩:=id S;have ve1:=l1.eqs;have Ap:=λst' bv xc xx K h hv=>@JR lo q m.vars.length 7 st' v1 (fl vaE m.vars) K 72 bv xc xx h dc om om hv;have hqp:q≠p:=om
 have hqp1:q+1≠p:=om
 have S3:=(S.nw (vaE v)).var v;have q2:=(((k.nw om (vaE v)).aps l1 (by(first|omega|(simp only[je,jg,jo,jk,jj];first|done|omega))) (vaE v)).wr (.inl rfl) 0 [apv 7 v1 (Go.Sy.nw s (vaE v))]).bk;have S33:=λK Kp=>jjF hb (m.vars ++ [v]) (by simp;omega) S3.l1.lr S3.l2.lr S3.l3.lr (zN JE _) (zN Z6 _) K Kp;have S2:=(S3.up (by(first|omega|(simp only[je,jg,jo,jk,jj];first|done|omega))) (μ _)).ofbk (u:=st);have gp:rat s.h p 0=v1:=C.cell 0 (by simp only[ν,φ];omega);clear S3;simp only[Yk] at S33;unfold dQ dP y62;rw[(by unfold jd6;simp only[qq];rfl:jd6=_)];unfold gI at hK;by_cases hs:281474976710656<YS (m.vars ++ [v])
 ·rw[if_pos hs] at hK
  (have zz:=a8 @l1.ln @l1.rts @jC @jG @jJ @l1 @jB (a4 @jI @jM C3.r (aI C4.r C.r));(repeat'(first|apply jb<;>intro _|simp(disch:=first|exact qk|fail) only[ja i0,ja i3,ja i4,Ap,l1.at,S33,hs,zK hb,jB,C3.q,C4.q,C.q,l1.ln,l1.rts,jC,jG,jJ,l1,jB,jI,jM,C3.r,C4.r,C.r,r8,δ,ε])))
  exact hK _ q2
 ·rw[if_neg hs] at hK
  (have zz:=a8 @l1.ln @l1.rts @jC @jG @jJ @l1 @jB (a4 @jI @jM C3.r (aI C4.r C.r));(repeat'(first|apply jb<;>intro _|simp(disch:=first|exact qk|fail) only[ja i0,ja i3,ja i4,Ap,l1.at,S33,hs,jB,C3.q,C4.q,C.q,l1.ln,l1.rts,jC,jG,jJ,l1,jB,jI,jM,C3.r,C4.r,C.r,r8,δ,ε])))
  exact hK _ q2 ⟨_,_,_,S2⟩
mutual
theorem Kw {vars:List VarT}{enums:List EnumT}:∀ (fm:Bool) (x y:Ex) (m:MtT),JL x=true->y8 vars enums fm x=.ok (y,m)->JL y=true
 |fm,.mk op num name ks l c,y,m,ht,h=>by
  rw[y8] at h;split at h
  ·cases h;exact ht
  ·split at h
   ·cases h;exact ht
   ·split at h
    ·unfold zZ at h;split at h
     ·cases h;rfl
     ·split at h
      ·cases h
      ·cases h;rfl
    ·split at h
     ·cases h
     ·rename_i r hr;rw[JL,χ,decide_eq_true_eq] at ht;have h2:=UF _ _ r.1 r.2 ht.2 hr;have h3:r.1.length=ks.length:=(Qj hr).1;unfold ZJ at h;have e:∀ o n nm l c,JL (.mk o n nm r.1 l c)=true:=λo n nm l c=>by rw[JL,χ,decide_eq_true_eq];exact⟨om,h2⟩
      split at h
      ·cases h
      ·split at h
       ·cases h;exact e _ _ _ _ _
       ·split at h
        ·cases h
        ·cases h;exact e _ _ _ _ _
theorem UF {vars:List VarT}{enums:List EnumT}:∀ (fm:Bool) (xs ys:List Ex) (ms:List MtT),Jy xs=true->qC vars enums fm xs=.ok (ys,ms)->Jy ys=true
 |fm,[],ys,ms,_,h=>by rw[qC] at h;cases h;rfl
 |fm,x :: xs,ys,ms,ht,h=>by
  rw[Jy,χ] at ht;rw[qC] at h;cases hx:y8 vars enums fm x with
  |er a b d=>rw[hx] at h;cases h
  |ok y=>
   rw[hx] at h;cases hr:qC vars enums fm xs with
   |er a b d=>rw[hr] at h;cases h
   |ok r=>
    rw[hr] at h;cases h;rw[Jy,χ];exact⟨Kw fm x y.1 y.2 ht.1 hx,UF fm xs r.1 r.2 ht.2 hr⟩
end
theorem jco {vars:List VarT}{enums:List EnumT}{fm:Bool}{x y:Ex}{w:Int}{en:List Nat}(ht:JL x=true)(h:yU vars enums fm x w en=.ok y):JL y=true:=by
 unfold yU at h;split at h
 ·cases h
 ·rename_i r hr;split at h
  ·cases h
  ·cases h;exact Kw fm x r.1 r.2 ht hr
mutual
theorem XZ:∀ x:Ex,JL x=true->ZT x=true
 |.mk op num name ks l c,h=>by
  rw[JL,χ,decide_eq_true_eq] at h;rw[ZT,χ,decide_eq_true_eq];exact⟨om,kI ks h.2⟩
theorem kI:∀ xs:List Ex,Jy xs=true->Yi xs=true
 |[],_=>rfl
 |x :: xs,h=>by
  rw[Jy,χ] at h;rw[Yi,χ];exact⟨XZ x h.1,kI xs h.2⟩
end
def OkE (x:Ex):Prop:=JL x=true/\Zi x=true
section
variable {p mb lo q:Nat} {m:ModT} {ts:List (List Nat)} {v1 v2 v3:AV} {d:DeclT} {v:VarT} {st:St} {L:Sl} {s:St}
theorem DS.push (D:DS p mb lo q m ts v1 v2 v3 d v st L s){c:Nat}{w:AV}(h:c≠0/\c≠3/\c≠4):DS p mb lo q m ts v1 v2 v3 d v st ((c,w) :: L) s:=by
 obtain⟨S,k,nx,c3,c4,i0,i3,i4⟩:=D;exact⟨S,k,nx,c3,c4,by rw[jf h.1];exact i0,by rw[jf h.2.1];exact i3,by rw[jf h.2.2];exact i4⟩
end
set_option maxHeartbeats 4000000 in
theorem jqg (hb:NB base){p mb lo q:Nat}{m:ModT}{ts:List (List Nat)}{v1 v2 v3:AV}{d:DeclT}{v:VarT}{st:St}{L:Sl}{s:St}(D:DS p mb lo q m ts v1 v2 v3 d v st L s)(V:VarsOK m.vars m.enums)(hV:m.vars.length<=900000)(hx:∀ x∈d.begins,OkE x)(hbl:d.begins.length<=1000000)(K Kp:AV->St->Prop)(hK:KM p mb lo st (ua m ts d v) K Kp):xC γ base jam L s (dQ st K) (dP st Kp):=by
 have i0:=D.i0;have i3:=D.i3;have i4:=D.i4;have C3:=D.c3;have C4:=D.c4;rw[(by unfold jam;simp only[qq];rfl:jam=_)]
 (have zz:=aI C3.r C4.r;(repeat'(first|apply jb<;>intro _|simp(disch:=first|exact qk|fail) only[ja i0,ja i3,ja i4,C3.q,C4.q,C3.r,C4.r,r8,δ,ε])))
 refine jZ d.begins.length (λk L s=>(∃ u,JK m.vars m.enums v (d.begins.take k)=.ok u/\DS p mb lo q m ts v1 v2 v3 d u st L s)/\Has L 93 (.lst d.begins.length (fl eE d.begins))) ?_ (λk L s hk hI hi hn=>?_) (λL s hI=>?_) (hc:=(λk L s v h=>(by obtain⟨⟨u,h1,h2⟩,h3⟩:=h;refine⟨⟨u,h1,h2.push dc⟩,?_⟩;simp(disch:=decide) only[jf];assumption))) (hI:=(λk L s v h=>(by obtain⟨⟨u,h1,h2⟩,h3⟩:=h;refine⟨⟨u,h1,h2.push dc⟩,?_⟩;simp(disch:=decide) only[jf];assumption)))
 ·refine⟨⟨v,by rw[QaC,JK],((D.push dc).push dc).push dc⟩,?_⟩;simp(disch:=decide) only[jf,jn]
 ·obtain⟨⟨u,h1,D⟩,i93⟩:=hI;obtain⟨S,k0,nx,C3,C4,i0,i3,i4⟩:=D;have tk:d.begins.take (k+1)=d.begins.take k ++ [d.begins[k]]:=zr hk;obtain⟨x1,x2⟩:=hx _ (Qaf hk);have hqm:q≠p/\q+1≠p:=by have:=S.hp;have:=S.lo;omega
  have hqn:=S.hi;have hlq:=S.lo;have z6l:(eE d.begins[k]).length=([.int .i64 0,.int .i64 0,.str [],.nils,.int .i64 0,.int .i64 0]:List AV).length:=by rw[Jd];rfl
  have S1:=(S.nw [.int .i64 0,.int .i64 0,.str [],.nils,.int .i64 0,.int .i64 0]).wr hqn 0 (eE d.begins[k]);have k1:=(k0.nw om [.int .i64 0,.int .i64 0,.str [],.nils,.int .i64 0,.int .i64 0]).wr (c:=s.nx) (.inr om) 0 (eE d.begins[k]);have C7:=(Cl.new s [.int .i64 0,.int .i64 0,.str [],.nils,.int .i64 0,.int .i64 0]).wr0 z6l;have D3:Cl (Go.Sy.wr (Go.Sy.nw s [.int .i64 0,.int .i64 0,.str [],.nils,.int .i64 0,.int .i64 0]) s.nx 0 (eE d.begins[k])) q (qo d):=ckX
  have D4:Cl (Go.Sy.wr (Go.Sy.nw s [.int .i64 0,.int .i64 0,.str [],.nils,.int .i64 0,.int .i64 0]) s.nx 0 (eE d.begins[k])) (q+1) (vaE u):=ckX
  (have zz:=aI C3.r C4.r;(repeat'(first|apply jb<;>intro _|simp(disch:=first|exact qk|fail) only[ja i0,ja i3,ja i4,ja i93,ja hi,ja hn,C3.q,C4.q,C3.r,C4.r,r8,δ,ε])))
  have hn1:(Go.Sy.wr (Go.Sy.nw s [.int .i64 0,.int .i64 0,.str [],.nils,.int .i64 0,.int .i64 0]) s.nx 0 (eE d.begins[k])).nx=s.nx+1:=rfl;generalize Go.Sy.wr (Go.Sy.nw s [.int .i64 0,.int .i64 0,.str [],.nils,.int .i64 0,.int .i64 0]) s.nx 0 (eE d.begins[k])=t1 at *;refine VO hb V _ x2 (XZ _ x1) u.kind u.enum S1.ck _ _ ?_;have e3:d.begins=d.begins.take k ++ (d.begins[k] :: d.begins.drop (k+1)):=by rw[QbH,Qbt]
  have bk1:JK m.vars m.enums v d.begins=JK m.vars m.enums u (d.begins[k] :: d.begins.drop (k+1)):=by
   have e:=congrArg (JK m.vars m.enums v) e3;rw[kj,h1] at e;exact e
  have bk2:JK m.vars m.enums v (d.begins.take (k+1))=JK m.vars m.enums u [d.begins[k]]:=by
   rw[tk,kj,h1]
  unfold ua at hK;rw[bk1,JK] at hK;rw[JK] at bk2;cases hr:yU m.vars m.enums false d.begins[k] u.kind u.enum with
  |er a b c=>
   rw[hr] at hK;intro s' k2;exact hK _ (k1.keep k2 om).bk
  |ok y=>
   have y1:=jco x1 hr;have y2:=XZ _ y1;rw[hr] at hK bk2;dsimp only at hK bk2;intro s' k2 C2;have hs':=k2.nx;have k3:=k1.keep k2 om;have S3:=S1.keep k2 C2;have E3:=k2.cl D3 hqm.1;have E4:=k2.cl D4 hqm.2;have E7:=k2.cl C7 (by have:=S.cp.lt;omega);have F:=jmU hb y y2;clear S1 k1 k2 C2 C7 D3 D4 C3 C4 S k0;cases hf:JD y with
   |some z=>
    rw[show z8 y=(z,true) by unfold z8;rw[hf]] at F;rw[hf] at hK
    (have zz:=aI E3.r (aI E4.r E7.r);(repeat'(first|apply jb<;>intro _|simp(disch:=first|exact qk|fail) only[ja i0,ja i3,ja i4,F,zK hb,E3.q,E4.q,E7.q,E3.r,E4.r,E7.r,r8,δ,ε])))
    exact hK _ (((((k3.nw om _).wr (c:=s'.nx) (.inr om) 0 _).nw (by(first|omega|(simp only[je,jg,jo,jk,jj];first|done|omega))) _).wr (.inr (by(first|omega|(simp only[je,jg,jo,jk,jj];first|done|omega)))) 0 _)).bk
   |none=>
    rw[show z8 y=(y,false) by unfold z8;rw[hf]] at F;rw[hf] at hK bk2;dsimp only at hK bk2;have G:=jfq hb y y1 hf;by_cases hc:Ja y<u.lo\/u.hi<Ja y
    ·rw[if_pos hc] at hK
     (have zz:=aI E3.r (aI E4.r E7.r);(repeat'(first|apply jb<;>intro _|simp(disch:=first|exact qk|fail) only[ja i0,ja i3,ja i4,F,G,zK hb,E3.q,E4.q,E7.q,E3.r,E4.r,E7.r,r8,δ,ε])))
     all_goals exact hK _ ((((((k3.nw om _).wr (c:=s'.nx) (.inr om) 0 _).nw (by(first|omega|(simp only[je,jg,jo,jk,jj];first|done|omega))) _).wr (.inr (by(first|omega|(simp only[je,jg,jo,jk,jj];first|done|omega)))) 0 _).wr (c:=q+1) (.inr om) 5 _).wr (c:=q+1) (.inr om) 6 _).bk
    ·rw[if_neg hc] at bk2;have hc1:¬ Ja y<u.lo:=λh=>hc (.inl h);have hc2:¬ u.hi<Ja y:=λh=>hc (.inr h)
     (have zz:=aI E3.r (aI E4.r E7.r);(repeat'(first|apply jb<;>intro _|simp(disch:=first|exact qk|fail) only[ja i0,ja i3,ja i4,ja hi,F,G,hc1,hc2,E3.q,E4.q,E7.q,E3.r,E4.r,E7.r,r8,δ,ε])))
     have S5:=((((((S3.nw [.int .i64 0,.int .i64 0,.str [],.nils,.int .i64 0,.int .i64 0]).wr (c:=s'.nx) om 0 (eE y)).nw [.int .i64 0,.int .i64 0,.str [],.nils,.int .i64 0,.int .i64 0]).wr (c:=s'.nx+1) om 0 (eE y)).wr (c:=q+1) om 5 [.bool true]).wr (c:=q+1) om 6 [.int .i64 (Ja y)]);have k5:=((((((k3.nw om [.int .i64 0,.int .i64 0,.str [],.nils,.int .i64 0,.int .i64 0]).wr (c:=s'.nx) (.inr om) 0 (eE y)).nw (by(first|omega|(simp only[je,jg,jo,jk,jj];first|done|omega))) [.int .i64 0,.int .i64 0,.str [],.nils,.int .i64 0,.int .i64 0]).wr (c:=s'.nx+1) (.inr om) 0 (eE y)).wr (c:=q+1) (.inr om) 5 [.bool true]).wr (c:=q+1) (.inr om) 6 [.int .i64 (Ja y)]);refine⟨⟨⟨{ u with beg:=true,first:=Ja y },?_,S5,k5,by(first|omega|(simp only[je,jg,jo,jk,jj];first|done|omega)),?_,Cl.wr (Cl.wr (?_:Cl _ (q+1) (vaE u)) 5 [.bool true]) 6 [.int .i64 (Ja y)],?_,?_,?_⟩,?_⟩,?_,?_⟩
     ·rw[bk2];rfl
     ·exact ckX
     ·exact ckX
     all_goals exact hsX
 ·obtain⟨⟨u,h1,D⟩,i93⟩:=hI;rw[Qah] at h1;unfold ua at hK;rw[h1] at hK;repeat'(first|apply jb<;>intro _|simp(disch:=first|exact dzG|fail) only[r8,δ,ε])
  exact jqf hb D hV K Kp hK
theorem je2 (hb:NB base)(enums:List EnumT)(hl:enums.length<=1000000)(d:DeclT){v2:AV}(st:St){q:Nat}(h:Lr st v2 enums.length (fl enE enums))(C:Cl st q (qo d))(K Kp:AV->St->Prop) :
  XB γ base 128 [v2,.fn 129 [.ptr q 0]] st K Kp=K (.int .i64 (Qo enums d.ty)) st:=by
 refine(je1 hb enums (by unfold BIG;omega) d).xb (qr (h.lend (zN JE enums)) (qr ?_ JB)) (λst=>hb.no 128 dc _ _) K Kp;show(JV st.h [.ptr q 0]).map (AV.fn 129)=_;have:Zm st.h (.ptr q 0)=some (.lptr (qo d) 0):=QR C (yw (Yz 8 rfl) rfl (yw (Yz 8 rfl) rfl (yw (Yz 8 rfl) rfl (yw (Yz 8 rfl) rfl (yw (Yz 8 rfl) rfl (yw (Yz 8 rfl) rfl (yw (Yz 8 rfl) rfl wM)))))));simp only[JV,this];rfl
set_option maxHeartbeats 4000000 in
theorem jqe (hb:NB base){p mb lo:Nat}{m:ModT}{ts:List (List Nat)}{st:St}(d:DeclT)(V:VarsOK m.vars m.enums)(hV:m.vars.length<=900000)(hx:∀ x∈d.begins,OkE x)(hbl:d.begins.length<=1000000)(hlo : -100000000<=d.lo/\d.lo<=100000000)(hhi : -100000000<=d.hi/\d.hi<=100000000)(H:MX p mb lo m ts st)(K Kp:AV->St->Prop)(hK:KM p mb lo st (Zq m ts d) K Kp):XB γ base 93 [.ptr p 0,.agg (qo d)] st K Kp:=by
 obtain⟨v1,v2,v3,S⟩:=H;obtain⟨C,M,l1,l2,l3,d12,d13,d23,hp,hm,pm,lo0,hi0⟩:=id S;refine yr x62 (by rfl) (hb.at0 93 dc dc _ _) ?_;simp only[y62,jh,ζ,η,θ,κ];rw[(by unfold z62;simp only[qq];rfl:z62=_)];have hnx:st.bare.nx=st.nx:=rfl;have S0:=S.bare.nw (qo d);have q1:=(Kq.refl:Kq p mb lo st.bare st.bare).nw (ψ lo0 hi0) (qo d);have Cb:Cl (Go.Sy.nw st.bare (qo d)) st.nx (qo d):=Cl.new st.bare (qo d);unfold Zq Q6 at hK;repeat'(first|apply jb<;>intro _|simp(disch:=first|exact dzG|fail) only[r8,δ,ε])
 refine kL hb S0.cp S0.mp _ _ _ _ _ ?_;by_cases h:d.name∈ts
 ·rw[if_pos h] at hK ⊢;exact hK _ q1.bk
 ·rw[if_neg h] at hK ⊢
  replace S0:=S0.take (ts ++ [d.name])
  replace q1:=q1.mp (mpl (ts ++ [d.name]))
  have Cb:Cl (Go.Sy.mp (Go.Sy.nw st.bare (qo d)) mb (mpl (ts ++ [d.name]))) st.nx (qo d):=by rw[WG om];exact Cb
  have hn1:(Go.Sy.mp (Go.Sy.nw st.bare (qo d)) mb (mpl (ts ++ [d.name]))).nx=st.nx+1:=rfl;generalize Go.Sy.mp (Go.Sy.nw st.bare (qo d)) mb (mpl (ts ++ [d.name]))=s1 at *;dsimp only at hK;have Cv:=(Cl.new s1 va0).wr0 (c':=vaE ⟨d.name,1,[],d.lo,d.hi,false,0⟩) rfl;have S1:=(S0.nw va0).wr (c:=s1.nx) om 0 (vaE ⟨d.name,1,[],d.lo,d.hi,false,0⟩);have q2:=(q1.nw om va0).wr (c:=s1.nx) (.inr om) 0 (vaE ⟨d.name,1,[],d.lo,d.hi,false,0⟩);have Cd:Cl (Go.Sy.wr (Go.Sy.nw s1 va0) s1.nx 0 (vaE ⟨d.name,1,[],d.lo,d.hi,false,0⟩)) st.nx (qo d):=ckX
  have FE:=λK Kp=>je2 hb m.enums V.len2 d _ S1.l2.lr Cd K Kp;have C0:=S0.cp;have C1:=S1.cp;have hmp:st.nx≠p/\st.nx+1≠p:=om
  simp only[Yk,hn1] at FE;simp only[hn1] at S1 q2 Cv Cd C1;unfold va0 at *;have mk:∀ (v:VarT) (L:Sl) (s:St),MS p mb lo st.nx m (ts ++ [d.name]) v1 v2 v3 s->Kq p mb lo st.bare s->st.nx+2<=s.nx->Cl s st.nx (qo d)->Cl s (st.nx+1) (vaE v)->Has L 0 (.ptr p 0)->Has L 3 (.ptr st.nx 0)->Has L 4 (.ptr (st.nx+1) 0)->KM p mb lo st (ua m (ts ++ [d.name]) d v) K Kp->xC γ base jam L s (dQ st K) (dP st Kp):=λv L s a1 a2 a3 a4 a5 a6 a7 a8 hK=>jqg hb ⟨a1,a2,a3,a4,a5,a6,a7,a8⟩ V hV hx hbl K Kp hK;unfold Wt at hK;by_cases h1:d.ty=[98,111,111,108]
  ·rw[if_pos h1] at hK;have S2:=(((S1.wr (c:=st.nx+1) om 1 [.int .i64 2]).wr (c:=st.nx+1) om 3 [.int .i64 0]).wr (c:=st.nx+1) om 4 [.int .i64 1]);have q3:=(((q2.wr (c:=st.nx+1) (.inr om) 1 [.int .i64 2]).wr (c:=st.nx+1) (.inr om) 3 [.int .i64 0]).wr (c:=st.nx+1) (.inr om) 4 [.int .i64 1])
   (have zz:=aI @hn1 (aI @Cb.r C0.r);(repeat'(first|apply jb<;>intro _|simp(disch:=first|exact qk|fail) only[FE,h1,hn1,Cb.q,C0.q,hn1,Cb.r,C0.r,r8,δ,ε])))
   refine mk ⟨d.name,2,[],0,1,false,0⟩ _ _ S2 q3 (by(first|omega|(simp only[je,jg,jo,jk,jj];first|done|omega))) (ckX) ?_ ?_ ?_ ?_ hK
   ·exact((Cv.wr 1 [.int .i64 2]).wr 3 [.int .i64 0]).wr 4 [.int .i64 1]
   all_goals simp(disch:=decide) only[jf,jn]
  rw[if_neg h1] at hK;by_cases h2:0<=Qo m.enums d.ty
  ·rw[if_pos h2] at hK;have hlt:Qo m.enums d.ty<(m.enums.length:Int):=WA;have hi2:(Qo m.enums d.ty).toNat<m.enums.length:=om
   have eg:m.enums.getD (Qo m.enums d.ty).toNat en0=m.enums[(Qo m.enums d.ty).toNat]:=by simp[ω,hi2]
   rw[eg] at hK;have Lw:=S0.l2;rcases id Lw with ⟨_,e0,_⟩|⟨b,rfl,b1,b2,Ce,b5,b6⟩
   ·omega
   have gl:qh s1.h b=m.enums.length * 4:=by rw[Ce.len,Jn Qn]
   have ge:rat s1.h b ((Qo m.enums d.ty).toNat * 4+1)=.lst m.enums[(Qo m.enums d.ty).toNat].vals.length (m.enums[(Qo m.enums d.ty).toNat].vals.map .str):=by
    rw[Ce.cell _ (by rw[Jn Qn];omega),vi Qn hi2 dc];rfl
   have hbp:b≠p/\b≠st.nx/\b≠st.nx+1/\b<s1.nx:=om
   have gp:rat s1.h p 1=.slice b 0 m.enums.length m.enums.length 4 false:=C0.cell 1 (by simp only[ν,φ];omega);have gd:rat s1.h st.nx 1=.str d.ty:=(Cb.cell 1 (by rw[Xi];decide)).trans (by rw[jmY];rfl);have hvl:=V.vals _ (Qaf hi2)
   (have zz:=a4 @hn1 @gl @ge (aI @Cb.r C0.r);(repeat'(first|apply jb<;>intro _|simp(disch:=first|exact qk|fail) only[FE,h1,h2,hn1,ge,sm9,gC,gB,Cb.q,C0.q,hn1,gl,ge,Cb.r,C0.r,r8,δ,ε])))
   refine⟨?_,?_,?_,?_⟩;rotate_right
   ·have S2:=((((S1.wr (c:=st.nx+1) om 1 [.int .i64 3]).wr (c:=st.nx+1) om 2 [.str d.ty]).wr (c:=st.nx+1) om 3 [.int .i64 0]).wr (c:=st.nx+1) om 4 [.int .i64 ((m.enums[(Qo m.enums d.ty).toNat].vals.length:Int) - 1)]);have q3:=((((q2.wr (c:=st.nx+1) (.inr om) 1 [.int .i64 3]).wr (c:=st.nx+1) (.inr om) 2 [.str d.ty]).wr (c:=st.nx+1) (.inr om) 3 [.int .i64 0]).wr (c:=st.nx+1) (.inr om) 4 [.int .i64 ((m.enums[(Qo m.enums d.ty).toNat].vals.length:Int) - 1)]);refine mk ⟨d.name,3,d.ty,0,(m.enums[(Qo m.enums d.ty).toNat].vals.length:Int) - 1,false,0⟩ _ _ S2 q3 (by(first|omega|(simp only[je,jg,jo,jk,jj];first|done|omega))) (ckX) ?_ ?_ ?_ ?_ hK
    ·exact(((Cv.wr 1 [.int .i64 3]).wr 2 [.str d.ty]).wr 3 [.int .i64 0]).wr 4 [.int .i64 ((m.enums[(Qo m.enums d.ty).toNat].vals.length:Int) - 1)]
    all_goals simp(disch:=decide) only[jf,jn]
   all_goals
    repeat' apply aI
    all_goals first
     |exact(gB (by simp(disch:=omega) only[QT,Xa,gl];omega) (by simp(disch:=omega) only[ZF,vw,ge]) rfl).mpr trivial
     |exact(gC (by simp(disch:=omega) only[QT,Xa,C0.len,ν,φ];omega) (by simp(disch:=omega) only[ZF,vw,gp]) rfl).mpr trivial
     |exact(sm9 (by simp(disch:=omega) only[QT,Xa,Cb.len,Xi];omega) (by simp(disch:=omega) only[ZF,vw,gd]) rfl).mpr trivial
  rw[if_neg h2] at hK;by_cases h3:d.ty≠[]
  ·rw[if_pos h3] at hK
   (have zz:=aI @hn1 (aI @Cb.r C0.r);(repeat'(first|apply jb<;>intro _|simp(disch:=first|exact qk|fail) only[FE,h1,h2,h3,hn1,zK hb,Cb.q,C0.q,hn1,Cb.r,C0.r,r8,δ,ε])))
   exact hK _ q2.bk
  rw[if_neg h3] at hK;have h3:(d.ty=[])=True:=eq_true (by simpa using h3);by_cases h4:d.hi<d.lo
  ·rw[if_pos h4] at hK
   (have zz:=aI @hn1 (aI @Cb.r C0.r);(repeat'(first|apply jb<;>intro _|simp(disch:=first|exact qk|fail) only[FE,h1,h2,h3,h4,hn1,zK hb,Cb.q,C0.q,hn1,Cb.r,C0.r,r8,δ,ε])))
   exact hK _ q2.bk
  rw[if_neg h4] at hK;by_cases h5:1024<=d.hi - d.lo
  ·rw[if_pos h5] at hK
   (have zz:=aI @hn1 (aI @Cb.r C0.r);(repeat'(first|apply jb<;>intro _|simp(disch:=first|exact qk|fail) only[FE,h1,h2,h3,h4,h5,hn1,zK hb,Cb.q,C0.q,hn1,Cb.r,C0.r,r8,δ,ε])))
   exact hK _ q2.bk
  rw[if_neg h5] at hK
  (have zz:=aI @hn1 (aI @Cb.r C0.r);(repeat'(first|apply jb<;>intro _|simp(disch:=first|exact qk|fail) only[FE,h1,h2,h3,h4,h5,hn1,Cb.q,C0.q,hn1,Cb.r,C0.r,r8,δ,ε])))
  refine mk _ _ _ S1 q2 (by(first|omega|(simp only[je,jg,jo,jk,jj];first|done|omega))) (ckX) Cv ?_ ?_ ?_ hK;all_goals simp(disch:=decide) only[jf,jn]
theorem GZ {s:St}:∀ {cs:List AV},cs.all pc=true->lall AV.cell cs=true->Xg (fz 9 s.h) cs=cs
 |[],_,_=>wM
 |v :: l,hp,hc=>by
  rw[Qaz,χ] at hp;have h1:v.cell=true/\lall AV.cell l=true:=by
   have:cond v.cell (lall AV.cell l) false=true:=hc;cases h:v.cell with
   |true=>rw[h] at this;exact⟨rfl,this⟩
   |false=>rw[h] at this;cases this
  exact yw (Yz 8 hp.1) h1.1 (GZ hp.2 h1.2)
theorem jrj {α:Type}{enc:α->List AV}{z:Nat}(hz:∀ x,(enc x).length=z){xs:List α}{k:IntKind}{i:Nat}(hi:i<=xs.length){st:St}{K:AV->St->Prop}:ji (YU z (.lst xs.length (fl enc xs)) none (some (.int k (i:Int))) st) K=K (.lst i (fl enc (xs.take i))) st:=by
 have e1:Qck (Qcm i z) (jP (fl enc xs))=true:=by
  rw[jO,Jn hz];exact qD (Qax z hi)
 simp only[YU,optA,uE,qD hi,qD (Qaa i),e1,cond_true,ji,qW,yR];have e2:(fl enc xs).drop (Qcm 0 z)=fl enc xs:=by rw[show Qcm 0 z=0 from QaP z];rfl
 have e3:Qcm (Qcn i 0) z=i * z:=rfl;rw[e2,e3,jdo hz];rfl
theorem jmT (hb:NB base)(xs:List AsT)(hl:xs.length<=1000000)(a:AsT)(st:St){q:Nat}(C:Cl st q (asE a))(n:Nat)(hn:n=xs.length)(K Kp:AV->St->Prop) :
  XB γ base 134 [.lst n (fl asE xs),.fn 135 [.ptr q 0]] st K Kp=K (.bool (decide (0<=fi (λx=>decide (x.name=a.name)) xs))) st:=by
 subst hn;refine(jmS hb xs (by unfold BIG;omega) a).xb (yb rfl (qr ?_ JB)) (λst=>hb.no 134 dc _ _) K Kp;show(JV st.h [.ptr q 0]).map (AV.fn 135)=_;have:Zm st.h (.ptr q 0)=some (.lptr (asE a) 0):=QR C (GZ (QJ a) (ga a));simp only[JV,this];rfl
theorem jek (hb:NB base){p:Nat}{v1 v2 v3 mm:AV}{vars:List VarT}{enums:List EnumT}{fm:Bool}{st:St}(C:Ck p v1 v2 v3 mm vars enums fm st)(hl:vars.length<=1000000)(s:List Nat)(K Kp:AV->St->Prop) :
  XB γ base 133 [.ptr p 0,.str s] st K Kp=K (.int .i64 (qm vars s)) st:=by
 obtain⟨r,hr⟩:=C.lend;exact(kF hb vars (by unfold BIG;omega) s _).xb (qr hr (yb rfl JB)) (λst=>hb.no 133 dc _ _) K Kp
def mvc:List MoveT->List AV->List AV
 |m :: ms,u :: us=>(eE m.when ++ [u]) ++ mvc ms us
 |_,_=>[]
theorem jdb:∀ {ms:List MoveT} {us:List AV} {m:MoveT} {u:AV},us.length=ms.length->mvc (ms ++ [m]) (us ++ [u])=mvc ms us ++ (eE m.when ++ [u])
 |[],[],m,u,_=>by simp[mvc]
 |m' :: ms,u' :: us,m,u,h=>by
  show(eE m'.when ++ [u']) ++ mvc (ms ++ [m]) (us ++ [u])=((eE m'.when ++ [u']) ++ mvc ms us) ++ (eE m.when ++ [u]);rw[jdb (by simpa using h)];simp only[QaE]
 |[],u' :: us,m,u,h=>by simp at h
 |m' :: ms,[],m,u,h=>by simp at h
def UU (lo hi:Nat)(s:St)(v3:AV):List MoveT->List AV->Prop
 |[],[]=>True
 |m :: ms,u :: us=>(Lv lo hi s u m.acts.length (fl seE m.acts) 7/\Df v3 u)/\UU lo hi s v3 ms us
 |_,_=>False
theorem UU.imp {lo hi lo' hi':Nat}{s s':St}{v3 v3':AV}(f:∀ u n cs,Lv lo hi s u n cs 7/\Df v3 u->Lv lo' hi' s' u n cs 7/\Df v3' u):∀ {ms:List MoveT} {us:List AV},UU lo hi s v3 ms us->UU lo' hi' s' v3' ms us
 |[],[],_=>trivial
 |m :: ms,u :: us,h=>⟨f _ _ _ h.1,UU.imp f h.2⟩
theorem UU.len {lo hi:Nat}{s:St}{v3:AV}:∀ {ms:List MoveT} {us:List AV},UU lo hi s v3 ms us->us.length=ms.length
 |[],[],_=>rfl
 |m :: ms,u :: us,h=>by simp[UU.len h.2]
theorem UU.app {lo hi:Nat}{s:St}{v3:AV}{m:MoveT}{u:AV}(hu:Lv lo hi s u m.acts.length (fl seE m.acts) 7/\Df v3 u):∀ {ms:List MoveT} {us:List AV},UU lo hi s v3 ms us->UU lo hi s v3 (ms ++ [m]) (us ++ [u])
 |[],[],_=>⟨hu,trivial⟩
 |m' :: ms,u' :: us,h=>⟨h.1,UU.app hu h.2⟩
structure MR (p mb lo hi:Nat)(m:ModT)(ts:List (List Nat))(v1 v2 v3:AV)(us:List AV)(s:St):Prop where
 cp:Cl s p [v1,v2,v3,.map mb,.bool false]
 mp:Mp s mb ts
 l1:Lv lo hi s v1 m.vars.length (fl vaE m.vars) 7
 l2:Lv lo hi s v2 m.enums.length (fl enE m.enums) 4
 l3:Lv lo hi s v3 m.moves.length (mvc m.moves us) 7
 uu:UU lo hi s v3 m.moves us
 d13:Df v3 v1
 d23:Df v3 v2
 hp:p<lo
 hm:mb<lo
 pm:p≠mb
 lo:lo<=hi
 hi:hi<=s.nx
def MZ (p mb lo:Nat)(m:ModT)(ts:List (List Nat))(s:St):Prop:=∃ v1 v2 v3 us,MR p mb lo s.nx m ts v1 v2 v3 us s
theorem Df.symm2 {v w:AV}(h:Df v w):Df w v:=by
 unfold Df at *;cases v<;>cases w<;>first|trivial|exact λe=>h e.symm
section
variable {p mb lo hi:Nat} {m:ModT} {ts us:List (List Nat)} {v1 v2 v3:AV} {ws:List AV} {s t:St}
theorem MS.mr (S:MS p mb lo hi m ts v1 v2 v3 s)(h:m.moves=[]):MR p mb lo hi m ts v1 v2 v3 [] s:=by
 obtain⟨C,M,l1,l2,l3,d12,d13,d23,hp,hm,pm,h1,h2⟩:=S;refine⟨C,M,l1,l2,?_,?_,Df.symm2 d13,Df.symm2 d23,hp,hm,pm,h1,h2⟩
 ·rw[h] at l3 ⊢;exact l3
 ·rw[h];trivial
theorem MR.ck (S:MR p mb lo hi m ts v1 v2 v3 ws s):Ck p v1 v2 v3 (.map mb) m.vars m.enums false s:=by
 obtain⟨C,M,l1,l2,l3,uu,d13,d23,hp,hm,pm,h1,h2⟩:=S;refine⟨C,l1.lr,l2.lr,?_,?_⟩
 ·intro b k z x e;rcases l1 with ⟨h,_⟩|⟨c,h,h2,_⟩
  ·rw[h] at e;cases e
  ·rw[h] at e;cases e;omega
 ·intro b k z x e;rcases l2 with ⟨h,_⟩|⟨c,h,h2,_⟩
  ·rw[h] at e;cases e
  ·rw[h] at e;cases e;omega
theorem MR.imp (S:MR p mb lo hi m ts v1 v2 v3 ws s){hi':Nat}(C:Cl t p [v1,v2,v3,.map mb,.bool false])(M:Mp t mb us)(f:∀ v n cs z,Lv lo hi s v n cs z->Lv lo hi' t v n cs z)(h1:hi<=hi')(h2:hi'<=t.nx):MR p mb lo hi' m us v1 v2 v3 ws t:=
 ⟨C,M,f _ _ _ _ S.l1,f _ _ _ _ S.l2,f _ _ _ _ S.l3,S.uu.imp λu n cs h=>⟨f _ _ _ _ h.1,h.2⟩,S.d13,S.d23,S.hp,S.hm,S.pm,ψ S.lo h1,h2⟩
theorem MR.nw (S:MR p mb lo hi m ts v1 v2 v3 ws s)(ds:List AV):MR p mb lo hi m ts v1 v2 v3 ws (Go.Sy.nw s ds):=by
 have C:=S.cp;have h1:=S.hp;have h2:=S.hi;have h3:=S.lo;exact S.imp (ckX) (S.mp.nw ds) (λv n cs z h=>ckX) (μ _) (by rw[je];omega)
theorem MR.wr (S:MR p mb lo hi m ts v1 v2 v3 ws s){c:Nat}(hc:hi<=c)(o:Nat)(ds:List AV):MR p mb lo hi m ts v1 v2 v3 ws (Go.Sy.wr s c o ds):=by
 have C:=S.cp;have h1:=S.hp;have h2:=S.hi;have h3:=S.lo;have h4:=S.hm;exact S.imp (ckX) (S.mp.wr om o ds) (λv n cs z h=>ckX) (μ _) (by rw[jg];omega)
theorem MR.take (S:MR p mb lo hi m ts v1 v2 v3 ws s)(us:List (List Nat)):MR p mb lo hi m us v1 v2 v3 ws (Go.Sy.mp s mb (mpl us)):=
 S.imp (by rw[WG S.pm];exact S.cp) S.mp.put (λv n cs z h=>h.mp S.hm) (μ _) S.hi
theorem MR.keep (S:MR p mb lo hi m ts v1 v2 v3 ws s)(k:Keep p s t)(C':Cl t p [v1,v2,v3,.map mb,.bool false]):MR p mb lo hi m ts v1 v2 v3 ws t:=
 S.imp C' (S.mp.keep k.nx (k.get mb S.mp.lt (λe=>S.pm e.symm))) (λv n cs z h=>k.lv h (.inl S.hp)) (μ _) (ψ S.hi k.nx)
theorem MR.up (S:MR p mb lo hi m ts v1 v2 v3 ws s){hi':Nat}(h:hi<=hi')(h2:hi'<=s.nx):MR p mb lo hi' m ts v1 v2 v3 ws s:=
 S.imp S.cp S.mp (λv n cs z k=>k.up h) h h2
theorem MR.bare (S:MR p mb lo hi m ts v1 v2 v3 ws s):MR p mb lo hi m ts v1 v2 v3 ws s.bare:=
 S.imp S.cp.bar ⟨S.mp.lt,S.mp.get⟩ (λv n cs z h=>by rw[jH];exact h) (μ _) S.hi
theorem MR.ofbk {u:St}(S:MR p mb lo hi m ts v1 v2 v3 ws s):MR p mb lo hi m ts v1 v2 v3 ws (bk u s):=by
 have e:∀ b cs,Cl s b cs->Cl (bk u s) b cs:=λb cs h=>⟨h.lt,h.row,h.len,h.cell⟩;exact S.imp (e _ _ S.cp) ⟨S.mp.lt,S.mp.get⟩ (λv n cs z h=>h.imp id λ⟨c,h1,h2,h3,h4,h5,h6⟩=>⟨c,h1,h2,h3,e _ _ h4,h5,h6⟩) (μ _) S.hi
theorem MR.aps (S:MR p mb lo hi m ts v1 v2 v3 ws s){lo' hi' n' z':Nat}{v':AV}{cs':List AV}(V:Lv lo' hi' s v' n' cs' z')(h:hi<=lo')(ds:List AV):MR p mb lo hi m ts v1 v2 v3 ws (Go.Sy.aps v' s ds):=by
 have h0:=S.hp;have h1:=S.hm;have h2:=S.lo;have h3:=S.hi;exact S.imp (S.cp.aps V (.inl om)) (S.mp.keep (by rw[jk];omega) (V.get s ds mb (.inl om) S.mp.lt)) (λv n cs z k=>k.aps V (.inl h)) (μ _) (by rw[jk];omega)
theorem Lv.low {lo lo' hi n z:Nat}{s:St}{v:AV}{cs:List AV}(h:Lv lo' hi s v n cs z)(h2:lo<=lo'):Lv lo hi s v n cs z:=h.imp id λ⟨c,h1,h3,h4,h5,h6,h7⟩=>⟨c,h1,h3,h4,h5,om,h7⟩
theorem MR.move (S:MR p mb lo hi m ts v1 v2 v3 ws s)(e:MoveT){u:AV}{z:Nat}(V:Lv z s.nx s u e.acts.length (fl seE e.acts) 7)(hz:hi<=z):MR p mb lo (s.nx+1) { m with moves:=m.moves ++ [e] } ts v1 v2 (apv 7 v3 s) (ws ++ [u]) (Go.Sy.wr (Go.Sy.aps v3 s (eE e.when ++ [u])) p 2 [apv 7 v3 s]):=by
 obtain⟨C,M,l1,l2,l3,uu,d13,d23,hp,hm,pm,h1,h2⟩:=S;have h4:=C.lt;have hn:(Go.Sy.wr (Go.Sy.aps v3 s (eE e.when ++ [u])) p 2 [apv 7 v3 s]).nx=s.nx+1:=by rw[jg,jk]
 refine⟨?_,?_,?_,?_,?_,?_,(Df.put l1 h2).1,(Df.put l2 h2).1,hp,hm,pm,om,by rw[hn];exact μ _⟩
 ·exact(cast (l3.cl s (eE e.when ++ [u]) _ p (.inl hp) h4).symm C:Cl (Go.Sy.aps v3 s (eE e.when ++ [u])) p _).wr 2 [apv 7 v3 s]
 ·exact M.keep (by rw[hn];omega) (by rw[zI (λh=>pm h.symm)];exact l3.get s (eE e.when ++ [u]) mb (.inl hm) M.lt)
 ·rw[jC (.inl hp)];exact(l1.apsD d13).up om
 ·rw[jC (.inl hp)];exact(l2.apsD d23).up om
 ·rw[jC (.inl hp),υ,jdb uu.len];exact l3.put (by rw[υ,Jd];rfl) om rfl
 ·refine UU.app ?_ (uu.imp λu n cs h=>?_)
  ·rw[jC (.inl hp)];refine⟨((V.aps l3 (.inr hz)).up om).low om,?_⟩;have V':Lv lo s.nx s u e.acts.length (fl seE e.acts) 7:=V.low om;exact(Df.put V' (μ _)).1
  ·rw[jC (.inl hp)];exact⟨(h.1.apsD h.2).up om,(Df.put h.1 h2).1⟩
end
def vz:VarT:=⟨[],0,[],0,0,false,0⟩
def Xz (vars:List VarT)(enums:List EnumT):List SetT->List AsT->List AsT->KR (List SetT)
 |acc,done,[]=>.ok acc
 |acc,done,a :: rest=>if qm vars a.name<0 then .er 161 a.line a.col
  else if 0<=fi (λx=>decide (x.name=a.name)) done then .er 162 a.line a.col
  else match yU vars enums false a.to (vars.getD (qm vars a.name).toNat vz).kind (vars.getD (qm vars a.name).toNat vz).enum with
   |.er x y z=>.er x y z
   |.ok y=>Xz vars enums (acc ++ [⟨qm vars a.name,y⟩]) (done ++ [a]) rest
def Ze (m:ModT)(ts:List (List Nat))(r:RuleT):KR (ModT×List (List Nat)):=match yU m.vars m.enums false r.when 2 [] with
 |.er a b c=>.er a b c
 |.ok w=>match Xz m.vars m.enums [] [] r.acts with
  |.er a b c=>.er a b c
  |.ok ss=>.ok ({ m with moves:=m.moves ++ [⟨w,ss⟩] },ts)
def KZ (p mb lo:Nat)(st:St)(r:KR (ModT×List (List Nat)))(K Kp:AV->St->Prop):Prop:=match r with
 |.ok y=>∀ s',Kq p mb lo st s'->MZ p mb lo y.1 y.2 s'->K (.tup []) s'
 |.er c l k=>∀ s',Kq p mb lo st s'->Kp (kf c l k) s'
def moL (w:Ex)(vl:AV):List AV:=[.int .i64 w.op,.int .i64 w.num,.str w.name,.lst w.kids.length (fl eE w.kids),.int .i64 w.line,.int .i64 w.col,vl]
theorem jpw (w:Ex)(vl:AV):eE w ++ [vl]=moL w vl:=by rw[qt];rfl
def rQ (st:St)(K:AV->St->Prop):Out->Prop:=QZ γ y64.res λv s=>K v (back st s)
structure RS (p mb lo q z:Nat)(m:ModT)(ts:List (List Nat))(v1 v2 v3:AV)(ws:List AV)(r:RuleT)(w:Ex)(acc:List SetT)(vl:AV)(st:St)(L:Sl)(s:St):Prop where
 S:MR p mb lo q m ts v1 v2 v3 ws s
 k:Kq p mb lo st.bare s
 qz:q<z
 nx:z+1<=s.nx
 c3:Cl s q (ruE r)
 c4:Cl s z (moL w vl)
 lv:Lv (z+1) s.nx s vl acc.length (fl seE acc) 7
 i0:Has L 0 (.ptr p 0)
 i3:Has L 3 (.ptr q 0)
 i4:Has L 4 (.ptr z 0)
theorem RS.push {p mb lo q z:Nat}{m:ModT}{ts:List (List Nat)}{v1 v2 v3:AV}{ws:List AV}{r:RuleT}{w:Ex}{acc:List SetT}{vl:AV}{st:St}{L:Sl}{s:St}(D:RS p mb lo q z m ts v1 v2 v3 ws r w acc vl st L s){c:Nat}{v:AV}(h:c≠0/\c≠3/\c≠4):RS p mb lo q z m ts v1 v2 v3 ws r w acc vl st ((c,v) :: L) s:=by
 obtain⟨S,k,qz,nx,c3,c4,lv,i0,i3,i4⟩:=D;exact⟨S,k,qz,nx,c3,c4,lv,by rw[jf h.1];exact i0,by rw[jf h.2.1];exact i3,by rw[jf h.2.2];exact i4⟩
theorem r12:type_of%(a8 @jd @jm @jW @jl @jc @jp @jq (a4 @jt @ju @jr @rzZ)):=a8 @jd @jm @jW @jl @jc @jp @jq (a4 @jt @ju @jr @rzZ)
set_option maxHeartbeats 4000000 in
theorem jpf (hb:NB base){p mb lo q z:Nat}{m:ModT}{ts:List (List Nat)}{v1 v2 v3:AV}{ws:List AV}{r:RuleT}{w:Ex}{acc:List SetT}{vl:AV}{st:St}{L:Sl}{s:St}(D:RS p mb lo q z m ts v1 v2 v3 ws r w acc vl st L s)(hM:m.moves.length<=1000000)(K Kp:AV->St->Prop)
  (hK:KZ p mb lo st (.ok ({ m with moves:=m.moves ++ [⟨w,acc⟩] },ts)) K Kp):xC γ base jd4 L s (rQ st K) (dP st Kp):=by
 obtain⟨S,k,qz,nx,C3,C4,lv,i0,i3,i4⟩:=D;have C:=S.cp;have l3:=S.l3;have hp:=S.hp;have hlo:=S.lo;have hhi:=S.hi;have ve3:=l3.eqs;have vc:∀ l,lall AV.cell (vl :: l)=lall AV.cell l:=λl=>by show cond vl.cell _ false=_;rw[lv.cell];rfl
 have Ap:=λst' bv xc xx K h hv=>@JR lo q m.moves.length 7 st' v3 (mvc m.moves ws) K 96 bv xc xx h dc om om hv;have hqp:q≠p/\z≠p:=om
 have lv2:Lv (z+1) (Go.Sy.nw s (moL w vl)).nx (Go.Sy.nw s (moL w vl)) vl acc.length (fl seE acc) 7:=by
  refine Lv.up (hi:=s.nx) ?_ (by(first|omega|(simp only[je,jg,jo,jk,jj];first|done|omega)))
  exact ckX
 have S3:=(S.nw (moL w vl)).move ⟨w,acc⟩ (u:=vl) lv2 om;rw[jpw] at S3;have q2:=(((k.nw om (moL w vl)).aps l3 (by(first|omega|(simp only[je,jg,jo,jk,jj];first|done|omega))) (moL w vl)).wr (.inl rfl) 2 [apv 7 v3 (Go.Sy.nw s (moL w vl))]).bk;have S2:=(S3.up (by(first|omega|(simp only[je,jg,jo,jk,jj];first|done|omega))) (μ _)).ofbk (u:=st);have gp:rat s.h p 2=v3:=C.cell 2 (by simp only[ν,φ];omega);clear S3 lv2;unfold moL at *;unfold rQ dP y64;rw[(by unfold jd4;simp only[qq];rfl:jd4=_)]
 (have zz:=a8 @vc @l3.ln @l3.rts @jC @jG @jJ @l3 (a4 @jB @jI @jM (aI C3.r (aI C4.r C.r)));(repeat'(first|apply jb<;>intro _|simp(disch:=first|exact qk|fail) only[ja i0,ja i3,ja i4,Ap,l3.at,jB,C3.q,C4.q,C.q,vc,l3.ln,l3.rts,jC,jG,jJ,l3,jB,jI,jM,C3.r,C4.r,C.r,r12,δ,ε])))
 exact hK _ q2 ⟨_,_,_,_,S2⟩
theorem jrx:Go.Ev.isAgg γ 123=some false:=by kernel_rfl
theorem jrw:Go.Ev.sizeOf γ 123=some 1:=by kernel_rfl
theorem jo5 {b o:Nat}{v:AV}{h:T AO}(ho:o<qh h b)(hv:rat h b o=v)(hc:eqs v=true):(jY γ 123 (.ptr b o) v h=true)=True:=eq_true (Qq jrx jrw ho hv hc)
def zA9:List AV:=[.str [],.int .i64 0,.int .i64 0,.str [],.nils,.int .i64 0,.int .i64 0,.int .i64 0,.int .i64 0]
theorem jaO {vars:List VarT}{enums:List EnumT}{acc:List SetT}{xs:List AsT}{k:Nat}(hk:k<xs.length):Xz vars enums acc (xs.take k) (xs.drop k)=if qm vars xs[k].name<0 then .er 161 xs[k].line xs[k].col
  else if 0<=fi (λx=>decide (x.name=xs[k].name)) (xs.take k) then .er 162 xs[k].line xs[k].col
  else match yU vars enums false xs[k].to (vars.getD (qm vars xs[k].name).toNat vz).kind (vars.getD (qm vars xs[k].name).toNat vz).enum with
   |.er x y z=>.er x y z
   |.ok y=>Xz vars enums (acc ++ [⟨qm vars xs[k].name,y⟩]) (xs.take (k+1)) (xs.drop (k+1)):=by
 have e:xs.drop k=xs[k] :: xs.drop (k+1):=(QbH hk).symm;rw[e,Xz,<-zr hk]<;>rfl
set_option maxHeartbeats 8000000 in
theorem jpg (hb:NB base){p mb lo q z:Nat}{m:ModT}{ts:List (List Nat)}{v1 v2 v3:AV}{ws:List AV}{r:RuleT}{w:Ex}{st:St}{L:Sl}{s:St}(D:RS p mb lo q z m ts v1 v2 v3 ws r w [] .nils st L s)(V:VarsOK m.vars m.enums)(hx:∀ a∈r.acts,OkE a.to)(hbl:r.acts.length<=1000000)(hM:m.moves.length<=1000000)(K Kp:AV->St->Prop)
  (hK:KZ p mb lo st (match Xz m.vars m.enums [] [] r.acts with | .er a b c=>.er a b c | .ok ss=>.ok ({ m with moves:=m.moves ++ [⟨w,ss⟩] },ts)) K Kp):xC γ base jd5 L s (rQ st K) (dP st Kp):=by
 have i0:=D.i0;have i3:=D.i3;have i4:=D.i4;have C3:=D.c3;rw[(by unfold jd5;simp only[qq];rfl:jd5=_)]
 (have zz:=C3.r;(repeat'(first|apply jb<;>intro _|simp(disch:=first|exact qk|fail) only[ja i0,ja i3,ja i4,C3.q,C3.r,r12,δ,ε])))
 refine jZ r.acts.length (λk L s=>(∃ acc vl,acc.length=k/\Xz m.vars m.enums [] [] r.acts=Xz m.vars m.enums acc (r.acts.take k) (r.acts.drop k)/\RS p mb lo q z m ts v1 v2 v3 ws r w acc vl st L s)/\Has L 14 (.lst r.acts.length (fl asE r.acts))) ?_ (λk L s hk hI hi hn=>?_) (λL s hI=>?_) (hc:=(λk L s v h=>(by obtain⟨⟨acc,vl,h0,h1,h2⟩,h3⟩:=h;refine⟨⟨acc,vl,h0,h1,h2.push dc⟩,?_⟩;simp(disch:=decide) only[jf];assumption))) (hI:=(λk L s v h=>(by obtain⟨⟨acc,vl,h0,h1,h2⟩,h3⟩:=h;refine⟨⟨acc,vl,h0,h1,h2.push dc⟩,?_⟩;simp(disch:=decide) only[jf];assumption)))
 ·refine⟨⟨[],.nils,rfl,rfl,((D.push dc).push dc).push dc⟩,?_⟩;simp(disch:=decide) only[jf,jn]
 ·obtain⟨⟨acc,vl,hacc,h1,D⟩,i14⟩:=hI;obtain⟨S,k0,qz,nx,C3,C4,lv,i0,i3,i4⟩:=D;obtain⟨x1,x2⟩:=hx _ (Qaf hk);have hlo:=S.lo;have hhi:=S.hi;have hp:=S.hp;have hqm:q≠p/\z≠p:=om
  have zl9:(asE r.acts[k]).length=zA9.length:=by rw[ww];rfl
  have S1:=(S.nw zA9).wr (c:=s.nx) om 0 (asE r.acts[k]);have k1:=(k0.nw om zA9).wr (c:=s.nx) (.inr om) 0 (asE r.acts[k]);have C6:=(Cl.new s zA9).wr0 zl9;have D3:Cl (Go.Sy.wr (Go.Sy.nw s zA9) s.nx 0 (asE r.acts[k])) q (ruE r):=ckX
  have D4:Cl (Go.Sy.wr (Go.Sy.nw s zA9) s.nx 0 (asE r.acts[k])) z (moL w vl):=ckX
  have lv1:Lv (z+1) s.nx (Go.Sy.wr (Go.Sy.nw s zA9) s.nx 0 (asE r.acts[k])) vl acc.length (fl seE acc) 7:=ckX
  have hn1:(Go.Sy.wr (Go.Sy.nw s zA9) s.nx 0 (asE r.acts[k])).nx=s.nx+1:=rfl;have VC:=λnm K Kp=>jek hb S1.ck V.len nm K Kp;have HA:=λK Kp=>jmT hb (r.acts.take k) (by rw[Qam];omega) r.acts[k] _ C6 k (by rw[Qam];omega) K Kp;have SL:=λst K=>@jrj _ asE 9 ww r.acts .i64 k (QbE hk) st K;rw[h1,jaO hk] at hK;unfold zA9 at *
  (have zz:=aI C3.r C4.r;(repeat'(first|apply jb<;>intro _|simp(disch:=first|exact qk|fail) only[ja i0,ja i3,ja i4,ja i14,ja hi,ja hn,C3.q,C4.q,C3.r,C4.r,r12,δ,ε])))
  generalize Go.Sy.wr (Go.Sy.nw s [.str [],.int .i64 0,.int .i64 0,.str [],.nils,.int .i64 0,.int .i64 0,.int .i64 0,.int .i64 0]) s.nx 0 (asE r.acts[k])=t1 at *;have C1:=S1.cp;by_cases c1:qm m.vars r.acts[k].name<0
  ·rw[if_pos c1] at hK
   (have zz:=aI D3.r (aI D4.r C6.r);(repeat'(first|apply jb<;>intro _|simp(disch:=first|exact qk|fail) only[ja i0,ja i3,ja i4,VC,c1,zK hb,D3.q,D4.q,C6.q,D3.r,D4.r,C6.r,r12,δ,ε])))
   exact hK _ k1.bk
  rw[if_neg c1] at hK;by_cases c2:0<=fi (λx=>decide (x.name=r.acts[k].name)) (r.acts.take k)
  ·rw[if_pos c2] at hK
   (have zz:=aI D3.r (aI D4.r C6.r);(repeat'(first|apply jb<;>intro _|simp(disch:=first|exact qk|fail) only[ja i0,ja i3,ja i4,VC,c1,HA,SL,c2,zK hb,D3.q,D4.q,C6.q,D3.r,D4.r,C6.r,r12,δ,ε])))
   exact hK _ k1.bk
  rw[if_neg c2] at hK;have hlt:qm m.vars r.acts[k].name<(m.vars.length:Int):=WA;have hi2:(qm m.vars r.acts[k].name).toNat<m.vars.length:=om
  have eg:m.vars.getD (qm m.vars r.acts[k].name).toNat vz=m.vars[(qm m.vars r.acts[k].name).toNat]:=by simp[ω,hi2]
  rw[eg] at hK;have Lw:=S1.l1;rcases id Lw with ⟨_,e0,_⟩|⟨b,rfl,b1,b2,Ce,b5,b6⟩
  ·omega
  have gl:qh t1.h b=m.vars.length * 7:=by rw[Ce.len,Jn Xx]
  have ge1:rat t1.h b ((qm m.vars r.acts[k].name).toNat * 7+1)=.int .i64 m.vars[(qm m.vars r.acts[k].name).toNat].kind:=by
   rw[Ce.cell _ (by rw[Jn Xx];omega),vi Xx hi2 dc];rfl
  have ge2:rat t1.h b ((qm m.vars r.acts[k].name).toNat * 7+2)=.str m.vars[(qm m.vars r.acts[k].name).toNat].enum:=by
   rw[Ce.cell _ (by rw[Jn Xx];omega),vi Xx hi2 dc];rfl
  have gp:rat t1.h p 0=.slice b 0 m.vars.length m.vars.length 7 false:=C1.cell 0 (by simp only[ν,φ];omega);unfold moL at D4 C4
  (have zz:=a4 @gl @ge1 @ge2 (a4 C1.r D3.r D4.r C6.r);(repeat'(first|apply jb<;>intro _|simp(disch:=first|exact qk|fail) only[ja i0,ja i3,ja i4,VC,c1,HA,SL,c2,ge1,ge2,XY,WT,WS (base:=base),C1.q,D3.q,D4.q,C6.q,gl,ge1,ge2,C1.r,D3.r,D4.r,C6.r,r12,δ,ε])))
  rw[<-qt];refine VO hb V _ x2 (XZ _ x1) _ _ S1.ck _ _ ?_;cases hr:yU m.vars m.enums false r.acts[k].to m.vars[(qm m.vars r.acts[k].name).toNat].kind m.vars[(qm m.vars r.acts[k].name).toNat].enum with
  |er a b c=>
   rw[hr] at hK;intro s' k2;repeat'(first|apply jb<;>intro _|simp(disch:=first|exact dzG|fail) only[XY,WT,WS (base:=base),r12,δ,ε])
   exact hK _ (k1.keep k2 om).bk
  |ok y=>
   rw[hr] at hK;dsimp only at hK;intro s' k2 C2;have hs':=k2.nx;have k3:=k1.keep k2 om;have S3:=S1.keep k2 C2;have E3:=k2.cl D3 hqm.1;have E4:=k2.cl D4 hqm.2;have lv2:=k2.lv lv1 (.inl om);have ve:=lv2.eqs;have gz:rat s'.h z 6=vl:=E4.cell 6 (by simp only[ν,φ];omega);have Ap:=λst' bv xc xx K h hv=>@JR (z+1) s.nx acc.length 7 st' vl (fl seE acc) K 80 bv xc xx h dc om om hv;have a59:jY γ 123 (.ptr z 6) vl t1.h=true:=(jo5 (by rw[D4.len];simp only[ν,φ];omega) (D4.cell 6 (by simp only[ν,φ];omega)) ve).mpr trivial;clear S1 k1 k2 C2 C6 D3 D4 C3 C4 S k0 VC HA SL ge1 ge2 gl gp Ce Lw C1 lv lv1;have hzp:p≠z:=λe=>hqm.2 e.symm;have lv3:Lv (z+1) (Go.Sy.nw s' (seE ⟨qm m.vars r.acts[k].name,y⟩)).nx (Go.Sy.nw s' (seE ⟨qm m.vars r.acts[k].name,y⟩)) vl acc.length (fl seE acc) 7:=by
    refine Lv.up (hi:=s.nx) ?_ (by(first|omega|(simp only[je,jg,jo,jk,jj];first|done|omega)))
    exact ckX
   have S4:=((S3.nw (seE ⟨qm m.vars r.acts[k].name,y⟩)).aps lv3 om (seE ⟨qm m.vars r.acts[k].name,y⟩)).wr (c:=z) om 6 [apv 7 vl (Go.Sy.nw s' (seE ⟨qm m.vars r.acts[k].name,y⟩))];have k4:=((k3.nw om (seE ⟨qm m.vars r.acts[k].name,y⟩)).aps (lv3.low (lo:=lo) om) (by(first|omega|(simp only[je,jg,jo,jk,jj];first|done|omega))) (seE ⟨qm m.vars r.acts[k].name,y⟩)).wr (c:=z) (.inr om) 6 [apv 7 vl (Go.Sy.nw s' (seE ⟨qm m.vars r.acts[k].name,y⟩))];have hlz:z+1<=s'.nx:=om
   (have zz:=a8 @lv2.ln @lv2.rts @jC @jG @jJ @lv2 @jB (a4 @jI @jM @ve (aI E3.r E4.r));(repeat'(first|apply jb<;>intro _|simp(disch:=first|exact qk|fail) only[ja i0,ja i3,ja i4,Ap,lv2.at,jo5,ve,jB,E3.q,E4.q,lv2.ln,lv2.rts,jC,jG,jJ,lv2,jB,jI,jM,ve,E3.r,E4.r,r12,δ,ε])))
   refine⟨a59,⟨⟨acc ++ [⟨qm m.vars r.acts[k].name,y⟩],_,?_,h1.trans ?_,S4,k4,qz,?_,?_,Cl.wr (?_:Cl _ z (moL w vl)) 6 [apv 7 vl (Go.Sy.nw s' (seE ⟨qm m.vars r.acts[k].name,y⟩))],?_,?_,?_,?_⟩,?_⟩,?_,?_⟩
   ·rw[υ,hacc];rfl
   ·rw[jaO hk,if_neg c1,if_neg c2,eg,hr]
   ·rw[jg,jk,je];omega
   ·have:=(E3.nw (seE ⟨qm m.vars r.acts[k].name,y⟩)).aps lv3 (.inl om) (news:=seE ⟨qm m.vars r.acts[k].name,y⟩)
    exact ckX
   ·exact(E4.nw (seE ⟨qm m.vars r.acts[k].name,y⟩)).aps lv3 (.inl om)
   ·rw[jC (.inl om),υ,QY,JX];exact lv3.put (Wa _) (by(first|omega|(simp only[je,jg,jo,jk,jj];first|done|omega))) (by(first|omega|(simp only[je,jg,jo,jk,jj];first|done|omega)))
   all_goals exact hsX
 ·obtain⟨⟨acc,vl,hacc,h1,D⟩,i14⟩:=hI;rw[Qah,QbV,Xz] at h1;rw[h1] at hK;repeat'(first|apply jb<;>intro _|simp(disch:=first|exact dzG|fail) only[r12,δ,ε])
  exact jpf hb D hM K Kp hK
def z7:List AV:=[.int .i64 0,.int .i64 0,.str [],.nils,.int .i64 0,.int .i64 0,.nils]
set_option maxHeartbeats 4000000 in
theorem jpe (hb:NB base){p mb lo:Nat}{m:ModT}{ts:List (List Nat)}{st:St}(r:RuleT)(V:VarsOK m.vars m.enums)(hw:OkE r.when)(hx:∀ a∈r.acts,OkE a.to)(hbl:r.acts.length<=1000000)(hM:m.moves.length<=1000000)(H:MZ p mb lo m ts st)(K Kp:AV->St->Prop)(hK:KZ p mb lo st (Ze m ts r) K Kp):XB γ base 95 [.ptr p 0,.agg (ruE r)] st K Kp:=by
 obtain⟨v1,v2,v3,ws,S⟩:=H;have hp:=S.hp;have hlo:=S.lo;have hhi:=S.hi;refine yr x64 (by rfl) (hb.at0 95 dc dc _ _) ?_;simp only[y64,jh,ζ,η,θ,κ];rw[(by unfold z64;simp only[qq];rfl:z64=_)];have hnx:st.bare.nx=st.nx:=rfl;have S0:=S.bare.nw (ruE r);have q1:=(Kq.refl:Kq p mb lo st.bare st.bare).nw om (ruE r);have Cb:Cl (Go.Sy.nw st.bare (ruE r)) st.nx (ruE r):=Cl.new st.bare (ruE r);unfold Ze at hK
 (have zz:=@Cb.r;(repeat'(first|apply jb<;>intro _|simp(disch:=first|exact qk|fail) only[Cb.q,Cb.r,r12,δ,ε])))
 rw[<-qt];have hn0:(Go.Sy.nw st.bare (ruE r)).nx=st.nx+1:=rfl;refine VO hb V _ hw.2 (XZ _ hw.1) _ _ S0.ck _ _ ?_;cases hr:yU m.vars m.enums false r.when 2 [] with
 |er a b c=>
  rw[hr] at hK;intro s' k2;exact hK _ (q1.keep k2 om).bk
 |ok y=>
  rw[hr] at hK;dsimp only at hK;intro s' k2 C2;have hs':=k2.nx;have k3:=q1.keep k2 om;have S3:=S0.keep k2 C2;have E3:=k2.cl Cb om;rw[qt];have S4:=(S3.nw z7).wr (c:=s'.nx) om 0 (moL y .nils);have k4:=(k3.nw om z7).wr (c:=s'.nx) (.inr om) 0 (moL y .nils);have C4:=(Cl.new s' z7).wr0 (c':=moL y .nils) rfl;unfold z7 moL at *;repeat'(first|apply jb<;>intro _|simp(disch:=first|exact dzG|fail) only[r12,δ,ε])
  refine jpg hb ⟨S4,k4,?_,by(first|omega|(simp only[je,jg,jo,jk,jj];first|done|omega)),ckX,C4,Lv.nil,?_,?_,?_⟩ V hx hbl hM K Kp hK
  ·omega
  all_goals simp(disch:=decide) only[jf,jn]
def fcl (c l k:Int):List AV:=[.int .i64 c,.int .i64 l,.int .i64 k]
theorem jsj (c l k:Int)(st:St)(K:AV->St->Prop):ji (K9 γ 71 (kf c l k) st) K=K (.tup [.agg (fcl c l k),.bool true]) st:=by
 have:K9 γ 71 (kf c l k) st=.ok (.tup [.agg (fcl c l k),.bool true]) st:=by kernel_rfl
 rw[this];rfl
theorem jp3 (c l k:Int)(st:St)(K:AV->St->Prop):ji (JI γ .eql 20 true (kf c l k) .nilif st) K=K (.bool false) st:=by
 have:JI γ .eql 20 true (kf c l k) .nilif st=.ok (.bool false) st:=by kernel_rfl
 rw[this];rfl
theorem K3 {fb:Nat}(st:St)(K:Md->St->Prop):DX γ base 91 [.ptr fb 0] .calm st.bare K=K .calm st.bare:=by
 refine KX (λK hK=>?_) K;refine ZD joy (by rfl) rfl ?_;simp only[gh,jh,ζ,η,θ,QN,Xl];rw[(by unfold uT;simp only[qq];rfl:uT=_)];repeat'(first|apply jb<;>intro _|simp(disch:=first|exact dzG|fail) only[jbJ,wR,r12,δ,ε])
 exact hK
theorem HR {fb:Nat}(c l k:Int)(st:St)(h:qh st.h fb=3)(hn:fb<st.nx)(K:Md->St->Prop) :
  DX γ base 91 [.ptr fb 0] (.pan (kf c l k)) st.bare K=K .done (wr (wr (nw st.bare [.int .i64 0,.int .i64 0,.int .i64 0]) st.nx 0 (fcl c l k)) fb 0 (fcl c l k)):=by
 have C:Cl st.bare fb (rats st.h fb 0 3):=(Cl.of_rats hn h (QO _ _ _ _) dc rfl).bar;have hcs:(rats st.h fb 0 3).length=3:=QO _ _ _ _;refine KX (λK hK=>?_) K;refine ZD joy (by rfl) rfl ?_;simp only[gh,jh,ζ,η,θ,QN,Xl];rw[(by unfold uT;simp only[qq];rfl:uT=_)];have hl:=C.lt;have l0:=C.len;have hB:st.bare.nx=st.nx:=rfl;have hne:¬ fb=st.bare.nx:=om
 unfold fcl at *;have A:=jsj c l k;unfold fcl at A
 (have zz:=aI @l0 @hcs;(repeat'(first|apply jb<;>intro _|simp(disch:=first|exact qk|fail) only[jp3,jhm,A,wR,l0,hcs,r12,δ,ε])))
 exact hK
theorem jtH {n:Nat}(h:0<n)(cs:List AV)(st:St)(K:AV->St->Prop):ji (JI γ .eql 141 true (.lst n cs) .nils st) K=K (.bool false) st:=by
 obtain⟨k,rfl⟩:∃ k,n=k+1:=⟨n - 1,om⟩;have:JI γ .eql 141 true (.lst (k+1) cs) .nils st=.ok (.bool false) st:=by kernel_rfl
 rw[this];rfl
theorem jtO {n:Nat}{cs:List AV}(h0:0<n)(hl:cs.length=n)(hn:n<=1000000)(K:AV->St->Prop):ji (Xo 1 16 (.slice 0 0 0 0 1 true) (.lst n cs) (nw st0 [])) K=K (.slice 1 0 n n 1 false) (nw (nw st0 []) cs):=by
 have hg:jx (nw st0 []).h 0=some (.row 0 0 [] .e):=by kernel_rfl
 have e1:Qcm n 1=n:=QaB n;have e2:Qck n (jP cs)=true:=qD (by rw[jO];omega);have e3:yi cs n=cs:=by rw[qW,<-hl,Qah]
 have e4:Qci (jP cs) n=true:=YJ (by rw[jO,hl]);have e5:Qcl 0 n=n:=Qag n;have e6:Qck n 0=false:=jfw h0;have e7:Qck (Qcm n 16) 140737488355328=true:=qD (by show n * 16<=_;omega);have e8:Qck n 9223372036854775807=true:=qD om;have e9:Qcm 0 1=0:=rfl;have e10:Qck (Qcl 0 0) 0=true:=rfl;have e11:jT 0 [] .e 0 0=[]:=rfl;have e12:yS [] cs=cs:=by rw[yv];rfl
 simp only[Xo,JN,firstCells,jE,e1,e2,cond_true,e3,qS,e4,hg,yh,e5,e6,cond_false,e7,e8,e9,e10,e11,e12,St.alloc_eq,ji];conv=>rhs;unfold nw
 rw[hl];rfl
set_option maxHeartbeats 1000000 in
theorem jm1 (hb:NB base)(vs:List (List Nat))(hv:0<vs.length)(hl:vs.length<=1000000):Tot base 127 [.lst vs.length (vs.map .str)] (.lst vs.length (vs.map .str)):=by
 refine hb.tot ?_ rfl rfl;have N:=jtH hv (vs.map .str);have A:=λK=>jtO (cs:=vs.map .str) hv (by simp) hl K;refine jF x99 (by rfl) (hb.pur 127 1 dc) ?_;simp only[y99,jh,ζ,η,θ,κ];rw[(by unfold z99;simp only[qq];rfl:z99=_)];repeat'(first|apply jb<;>intro _|simp(disch:=first|exact dzG|fail) only[N,jeT,A,r12,δ,ε])
 have C:Cl (nw (nw st0 []) (vs.map .str)) 1 (vs.map .str):=Cl.new (nw st0 []) _;refine FzD.slice C.rw_ (by simp) (Qaa _) ?_;rw[QaB,<-Qaq (f:=AV.str),Qah];refine FzsD.pc ?_;simp[pc]
def zU {α β:Type}(f:β->α->KR β):β->List α->KR β
 |b,[]=>.ok b
 |b,x :: xs=>match f b x with
  |.er a c d=>.er a c d
  |.ok b=>zU f b xs
theorem Wx {α β:Type}{f:β->α->KR β}{b:β}{xs:List α}{k:Nat}(hk:k<xs.length):zU f b (xs.drop k)=match f b xs[k] with
  |.er a c d=>.er a c d
  |.ok b=>zU f b (xs.drop (k+1)):=by
 have e:xs.drop k=xs[k] :: xs.drop (k+1):=(QbH hk).symm;rw[e,zU]
abbrev MT:=ModT×List (List Nat)
def Z3 (b:MT)(p:ProcT):KR MT:=match Q6 b.2 p.name p.line p.col with
 |.er a c d=>.er a c d
 |.ok ts=>zU (λb r=>Ze b.1 b.2 r) (b.1,ts) p.rules
def md0:ModT:=⟨[],[],[]⟩
def Vs (b:MT)(l:List EnumT):KR MT:=zU (λb e=>vT b.1 b.2 e) b l
def vp (b:MT)(l:List DeclT):KR MT:=zU (λb e=>Zq b.1 b.2 e) b l
def Xs (b:MT)(l:List ProcT):KR MT:=zU Z3 b l
def JA (s:SrcT):KR MT:=match Vs (md0,[]) s.enums with
 |.er a c d=>.er a c d
 |.ok b=>match vp b s.vars with
  |.er a c d=>.er a c d
  |.ok b=>Xs b s.procs
def VQ (r:KR MT):AV:=match r with
 |.er c l k=>.tup [.agg (mdE md0),.agg (fcl c l k)]
 |.ok b=>.tup [.agg (mdE b.1),.agg (fcl 0 0 0)]
def mQ (base:Bs)(r:KR MT):Out->Prop:=U6 γ base y26.res (Qm G0 (.ok (VQ r))) (Qg G0 (.ok (VQ r)))
def mP (base:Bs)(r:KR MT):AV->Sl->St->Prop:=uD γ base y26.res (Qm G0 (.ok (VQ r))) (Qg G0 (.ok (VQ r)))
structure QS (src:SrcT)(L:Sl)(s:St):Prop where
 c0:Cl s 0 (srE src)
 c1:Cl s 1 [.nils,.nils,.nils]
 c2:Cl s 2 [.int .i64 0,.int .i64 0,.int .i64 0]
 fr:s.fr=[(91,[.ptr 2 0])]
 i1:Has L 1 (.ptr 0 0)
 i2:Has L 2 (.ptr 1 0)
 i3:Has L 3 (.ptr 2 0)
 i4:Has L 4 (.ptr 4 0)
section
variable {src:SrcT} {L:Sl} {s t:St}
theorem QS.push (h:QS src L s){c:Nat}{v:AV}(hc:c≠1/\c≠2/\c≠3/\c≠4):QS src ((c,v) :: L) s:=by
 obtain⟨c0,c1,c2,fr,i1,i2,i3,i4⟩:=h;exact⟨c0,c1,c2,fr,by rw[jf hc.1];exact i1,by rw[jf hc.2.1];exact i2,by rw[jf hc.2.2.1];exact i3,by rw[jf hc.2.2.2];exact i4⟩
theorem QS.kq (h:QS src L s)(k:Kq 4 3 5 s t):QS src L t:=
 ⟨k.cl h.c0 dc dc dc,k.cl h.c1 dc dc dc,k.cl h.c2 dc dc dc,k.fr.trans h.fr,h.i1,h.i2,h.i3,h.i4⟩
theorem jgY {m d:Nat}{s:St}:FzD m (d+3) s (.agg [.nils,.nils,.nils]) (.agg (mdE md0)):=FzD.agg (.cons FzD.nils (.cons FzD.nils (.cons FzD.nils .nil)))
theorem r11:type_of%(a8 @jd @jm @jW @jl @jc @qK @qJ (a4 @jp @jq @jt (aI @ju (aI @jr @rzZ)))):=a8 @jd @jm @jW @jl @jc @qK @qJ (a4 @jp @jq @jt (aI @ju (aI @jr @rzZ)))
theorem Uc {c l k:Int}(h:QS src L s):mP base (.er c l k) (kf c l k) L s:=by
 obtain⟨c0,c1,c2,fr,i1,i2,i3,i4⟩:=h;have l2:=c2.len;have n2:=c2.lt;unfold mP y26
 (have zz:=aI @c0.r (aI @c1.r @c2.r);(repeat'(first|apply jb<;>intro _|simp(disch:=first|exact qk|fail) only[ja i2,ja i3,Jh (f:=91) (vs:=[.ptr 2 0]),zd (f:=91) (vs:=[.ptr 2 0]),K3,HR,c0.q,c1.q,c2.q,c0.r,c1.r,c2.r,r11,δ,ε])))
 exact FzD.tup (.cons jgY (.cons (.agg (.pc (by rfl))) .nil))
end
theorem jgV {m lo hi d:Nat}{s:St}{v3:AV}(hm:m<=lo):∀ {ms:List MoveT} {us:List AV},UU lo hi s v3 ms us->FzsD m (d+3) s (mvc ms us) (fl moE ms)
 |[],[],_=>.nil
 |e :: ms,u :: us,h=>by
  show FzsD m (d+3) s ((eE e.when ++ [u]) ++ mvc ms us) (moE e ++ fl moE ms);refine FzsD.append ?_ (jgV hm h.2);exact FzsD.append (FzsD.pc (q9 _)) (.cons (h.1.1.fz hm (zN ZY _)) .nil)
set_option maxHeartbeats 4000000 in
theorem m_d {src:SrcT}{L:Sl}{s:St}(D:QS src L s){m:ModT}{ts:List (List Nat)}(H:MZ 4 3 5 m ts s):xC γ base jd8 L s (mQ base (.ok (m,ts))) (mP base (.ok (m,ts))):=by
 obtain⟨v1,v2,v3,ws,S⟩:=H;obtain⟨c0,c1,c2,fr,i1,i2,i3,i4⟩:=D;have C4:=S.cp;have l2:=c2.len;have n2:=c2.lt;have vc:∀ l,lall AV.cell (v1 :: v2 :: v3 :: l)=lall AV.cell l:=λl=>by
  show cond v1.cell (cond v2.cell (cond v3.cell _ false) false) false=_;rw[S.l1.cell,S.l2.cell,S.l3.cell];rfl
 unfold mQ mP y26;rw[(by unfold jd8;simp only[qq];rfl:jd8=_)]
 (have zz:=a4 @vc @c0.r @c1.r (aI @c2.r C4.r);(repeat'(first|apply jb<;>intro _|simp(disch:=first|exact qk|fail) only[ja i1,ja i2,ja i3,ja i4,gn i3,Yr,Jh (f:=91) (vs:=[.ptr 2 0]),zd (f:=91) (vs:=[.ptr 2 0]),K3,HR,c0.q,c1.q,c2.q,C4.q,vc,c0.r,c1.r,c2.r,C4.r,r11,δ,ε])))
 have f:∀ v n cs z,Lv 5 s.nx s v n cs z->Lv 5 s.nx (Go.Sy.wr (Go.Sy.wr s 1 0 [v1,v2,v3]) 2 0 [.int .i64 0,.int .i64 0,.int .i64 0]).bare v n cs z:=λv n cs z h=>by
  rw[jH,jC (.inl dc),jC (.inl dc)];exact h
 refine FzD.tup (.cons (FzD.agg (.cons ((f _ _ _ _ S.l1).fz (Qaa _) (zN Yl _)) (.cons ((f _ _ _ _ S.l2).fz (Qaa _) (zN JE _)) (.cons ?_ .nil)))) (.cons (.agg (.pc (by rfl))) .nil))
 ·have u3:=S.uu.imp (λu n cs h=>(⟨f _ _ _ _ h.1,h.2⟩:Lv 5 s.nx (Go.Sy.wr (Go.Sy.wr s 1 0 [v1,v2,v3]) 2 0 [.int .i64 0,.int .i64 0,.int .i64 0]).bare u n cs 7/\Df v3 u));rcases f _ _ _ _ S.l3 with ⟨rfl,h1,h2⟩|⟨b,rfl,h1,h2,C,h3,h4⟩
  ·have:m.moves=[]:=QaY h1;show FzD _ _ _ _ (.lst m.moves.length (fl moE m.moves));rw[this];exact FzD.nils
  ·refine FzD.slice C.rw_ (QaS h2.symm) (Qaa _) ?_;rw[<-h2,Qah];exact jgV (Qaa _) u3
structure ProcOK (p:ProcT):Prop where
 len:p.rules.length<=1000
 rules:∀ r∈p.rules,OkE r.when/\(∀ a∈r.acts,OkE a.to)/\r.acts.length<=1000000
structure DeclOK (d:DeclT):Prop where
 ex:∀ x∈d.begins,OkE x
 len:d.begins.length<=1000000
 lo : -100000000<=d.lo/\d.lo<=100000000
 hi : -100000000<=d.hi/\d.hi<=100000000
structure SrcOK (s:SrcT):Prop where
 ne:s.enums.length<=1000
 nv:s.vars.length<=1000
 np:s.procs.length<=100
 vals:∀ e∈s.enums,0<e.vals.length/\e.vals.length<=1000000
 vars:∀ d∈s.vars,DeclOK d
 procs:∀ p∈s.procs,ProcOK p
theorem U5 {m:ModT}{ts:List (List Nat)}{e:EnumT}{b:MT}(h:vT m ts e=.ok b):b.1={ m with enums:=m.enums ++ [e] }:=by
 unfold vT at h;split at h
 ·cases h
 ·cases h;rfl
theorem jaQ {m:ModT}{ts:List (List Nat)}{r:RuleT}{b:MT}(h:Ze m ts r=.ok b):∃ e,b.1={ m with moves:=m.moves ++ [e] }:=by
 unfold Ze at h;split at h
 ·cases h
 ·split at h
  ·cases h
  ·cases h;exact⟨_,rfl⟩
theorem Gf {vars:List VarT}{enums:List EnumT}:∀ {xs:List Ex} {v u:VarT},JK vars enums v xs=.ok u->u.lo=v.lo/\u.hi=v.hi/\u.kind=v.kind/\u.enum=v.enum/\u.name=v.name
 |[],v,u,h=>by rw[JK] at h;cases h;exact⟨rfl,rfl,rfl,rfl,rfl⟩
 |x :: xs,v,u,h=>by
  rw[JK] at h;split at h
  ·cases h
  ·split at h
   ·cases h
   ·split at h
    ·cases h
    ·have:=Gf h;exact this
theorem jj8 {enums:List EnumT}{d:DeclT}{v:VarT}(hv:∀ e∈enums,e.vals.length<=1000000)(hd:DeclOK d)(h:Wt enums d=.ok v) : -100000000<=v.lo/\v.lo<=100000000/\-100000000<=v.hi/\v.hi<=100000000:=by
 unfold Wt at h;split at h
 ·cases h;dsimp only;omega
 ·split at h
  ·rename_i h2;cases h;dsimp only;have hlt:Qo enums d.ty<(enums.length:Int):=WA;have hi2:(Qo enums d.ty).toNat<enums.length:=om
   have eg:enums.getD (Qo enums d.ty).toNat en0=enums[(Qo enums d.ty).toNat]:=by simp[ω,hi2]
   rw[eg];have:=hv _ (Qaf hi2);omega
  ·split at h
   ·cases h
   ·split at h
    ·cases h
    ·split at h
     ·cases h
     ·cases h;exact⟨hd.lo.1,hd.lo.2,hd.hi.1,hd.hi.2⟩
theorem jbT {m:ModT}{ts:List (List Nat)}{d:DeclT}{b:MT}(hv:∀ e∈m.enums,e.vals.length<=1000000)(hd:DeclOK d)(h:Zq m ts d=.ok b):∃ v:VarT,b.1={ m with vars:=m.vars ++ [v] }/\(-100000000<=v.lo/\v.lo<=100000000/\-100000000<=v.hi/\v.hi<=100000000):=by
 unfold Zq at h;split at h
 ·cases h
 ·split at h
  ·cases h
  ·rename_i v hk;unfold ua at h;split at h
   ·cases h
   ·rename_i u hu;unfold gI at h;split at h
    ·cases h
    ·cases h;have hb:=Gf hu;refine⟨u,rfl,?_⟩;rw[hb.1,hb.2.1];exact jj8 hv hd hk
section
variable {src:SrcT} {L:Sl} {s t:St} {m:ModT} {ts:List (List Nat)}
theorem MX.box (h:MX 4 3 5 m ts s)(z cs:List AV):MX 4 3 5 m ts (Go.Sy.wr (Go.Sy.nw s z) s.nx 0 cs):=by
 obtain⟨v1,v2,v3,S⟩:=h;exact⟨v1,v2,v3,((S.nw z).wr (c:=s.nx) (μ _) 0 cs).up (by rw[jg,je];omega) (μ _)⟩
theorem MZ.box (h:MZ 4 3 5 m ts s)(z cs:List AV):MZ 4 3 5 m ts (Go.Sy.wr (Go.Sy.nw s z) s.nx 0 cs):=by
 obtain⟨v1,v2,v3,ws,S⟩:=h;exact⟨v1,v2,v3,ws,((S.nw z).wr (c:=s.nx) (μ _) 0 cs).up (by rw[jg,je];omega) (μ _)⟩
theorem MZ.nx5 (h:MZ 4 3 5 m ts s):5<=s.nx:=by obtain⟨v1,v2,v3,ws,S⟩:=h;exact S.lo
theorem MX.nx5 (h:MX 4 3 5 m ts s):5<=s.nx:=by obtain⟨v1,v2,v3,S⟩:=h;exact S.lo
theorem Ku (h:5<=s.nx)(z cs:List AV):Kq 4 3 5 s (Go.Sy.wr (Go.Sy.nw s z) s.nx 0 cs):=(Kq.refl.nw h z).wr (.inr h) 0 cs
end
theorem MZ.take {m:ModT}{ts:List (List Nat)}{s:St}(h:MZ 4 3 5 m ts s)(us:List (List Nat)):MZ 4 3 5 m us (Go.Sy.mp s 3 (mpl us)):=by
 obtain⟨v1,v2,v3,ws,S⟩:=h;exact⟨v1,v2,v3,ws,S.take us⟩
def zr7:List AV:=[.int .i64 0,.int .i64 0,.str [],.nils,.int .i64 0,.int .i64 0,.nils]
def zp4:List AV:=[.str [],.nils,.int .i64 0,.int .i64 0]
set_option maxHeartbeats 8000000 in
theorem m_c (hb:NB base){src:SrcT}{L:Sl}{s:St}(D:QS src L s){m:ModT}{ts:List (List Nat)}(V:VarsOK m.vars m.enums)(hm:m.moves=[])(O:SrcOK src)(H:MZ 4 3 5 m ts s):xC γ base jd9 L s (mQ base (Xs (m,ts) src.procs)) (mP base (Xs (m,ts) src.procs)):=by
 have c0:=D.c0;have i1:=D.i1;have onp:=O.np;generalize hR:Xs (m,ts) src.procs=R;rw[(by unfold jd9;simp only[qq];rfl:jd9=_)]
 (have zz:=@c0.r;(repeat'(first|apply jb<;>intro _|simp(disch:=first|exact qk|fail) only[ja i1,c0.q,c0.r,r11,δ,ε])))
 refine jZ src.procs.length (λk L s=>(∃ b:MT,Xs b (src.procs.drop k)=R/\b.1.vars=m.vars/\b.1.enums=m.enums/\b.1.moves.length<=1000 * k/\MZ 4 3 5 b.1 b.2 s/\QS src L s)/\Has L 39 (.lst src.procs.length (fl prE src.procs))) ?_ (λk L s hk hI hi hn=>?_) (λL s hI=>?_) (hc:=(λk L s v h=>(by obtain⟨⟨b,h1,h2,h3,h4,h5,h6⟩,h7⟩:=h;refine⟨⟨b,h1,h2,h3,h4,h5,h6.push dc⟩,?_⟩;simp(disch:=decide) only[jf];assumption))) (hI:=(λk L s v h=>(by obtain⟨⟨b,h1,h2,h3,h4,h5,h6⟩,h7⟩:=h;refine⟨⟨b,h1,h2,h3,h4,h5,h6.push dc⟩,?_⟩;simp(disch:=decide) only[jf];assumption)))
 ·refine⟨⟨(m,ts),by rw[Qba];exact hR,rfl,rfl,by rw[hm];exact Qaa _,H,((D.push dc).push dc).push dc⟩,?_⟩;simp(disch:=decide) only[jf,jn]
 ·clear D c0 i1;obtain⟨⟨b,h1,h2,h3,h4,H,D⟩,i39⟩:=hI;obtain⟨c0,c1,c2,fr,i1,i2,i3,i4⟩:=id D;have hP:=O.procs _ (Qaf hk);have n5:=H.nx5;have H1:=H.box zp4 (prE src.procs[k]);have k1:=Ku n5 zp4 (prE src.procs[k]);have D1:=D.kq k1;have C10:=(Cl.new s zp4).wr0 (c':=prE src.procs[k]) rfl;unfold Xs at h1;rw[Wx hk] at h1;unfold zp4 at *;repeat'(first|apply jb<;>intro _|simp(disch:=first|exact dzG|fail) only[ja i1,ja i2,ja i3,ja i4,ja i39,ja hi,ja hn,r11,δ,ε])
  obtain⟨v1,v2,v3,ws,S⟩:=id H1;refine kL hb S.cp S.mp _ _ _ _ _ ?_;have S1mp:=S.mp;clear S;by_cases hin:src.procs[k].name∈b.2
  ·rw[if_pos hin];have hp:Z3 b src.procs[k]=.er 162 src.procs[k].line src.procs[k].col:=by unfold Z3 Q6;rw[if_pos hin]
   rw[hp] at h1;rw[<-h1];exact Uc (D1.push dc)
  ·rw[if_neg hin];have hp:Z3 b src.procs[k]=zU (λb r=>Ze b.1 b.2 r) (b.1,b.2 ++ [src.procs[k].name]) src.procs[k].rules:=by unfold Z3 Q6;rw[if_neg hin]
   have H2:=H1.take (b.2 ++ [src.procs[k].name]);have D2:=D1.kq ((Kq.refl:Kq 4 3 5 _ _).mp (mpl (b.2 ++ [src.procs[k].name])));have C10:Cl (Go.Sy.mp (Go.Sy.wr (Go.Sy.nw s [.str [],.nils,.int .i64 0,.int .i64 0]) s.nx 0 (prE src.procs[k])) 3 (mpl (b.2 ++ [src.procs[k].name]))) s.nx (prE src.procs[k]):=by rw[WG om];exact C10
   have hrl:=hP.len;generalize Go.Sy.mp (Go.Sy.wr (Go.Sy.nw s [.str [],.nils,.int .i64 0,.int .i64 0]) s.nx 0 (prE src.procs[k])) 3 (mpl (b.2 ++ [src.procs[k].name]))=t1 at *;clear D1 H1 k1 S1mp
   (have zz:=C10.r;(repeat'(first|apply jb<;>intro _|simp(disch:=first|exact qk|fail) only[ja i1,ja i2,ja i3,ja i4,ja i39,ja hi,ja hn,C10.q,C10.r,r11,δ,ε])))
   refine jZ src.procs[k].rules.length (λky L s=>(∃ c:MT,zU (λb r=>Ze b.1 b.2 r) c (src.procs[k].rules.drop ky)=Z3 b src.procs[k]/\c.1.vars=m.vars/\c.1.enums=m.enums/\c.1.moves.length<=1000 * k+ky/\MZ 4 3 5 c.1 c.2 s/\QS src L s)/\Has L 54 (.lst src.procs[k].rules.length (fl ruE src.procs[k].rules))/\Has L 39 (.lst src.procs.length (fl prE src.procs))/\Has L 41 (.int .i64 k)/\Has L 40 (.int .i64 src.procs.length)) ?_ (λky Ly sy hky hIy hiy hny=>?_) (λLy sy hIy=>?_) (hc:=(λk L s v h=>(by obtain⟨⟨c,g1,g2,g3,g4,g5,g6⟩,g7,g8,g9,g10⟩:=h;refine⟨⟨c,g1,g2,g3,g4,g5,g6.push dc⟩,?_,?_,?_,?_⟩<;>exact hsX))) (hI:=(λk L s v h=>(by obtain⟨⟨c,g1,g2,g3,g4,g5,g6⟩,g7,g8,g9,g10⟩:=h;refine⟨⟨c,g1,g2,g3,g4,g5,g6.push dc⟩,?_,?_,?_,?_⟩<;>exact hsX)))
   ·refine⟨⟨(b.1,b.2 ++ [src.procs[k].name]),by rw[Qba];exact hp.symm,h2,h3,om,H2,(((D2.push dc).push dc).push dc).push dc⟩,?_⟩;simp(disch:=decide) only[jf,jn,true_and];exact⟨i39,hi,hn⟩
   ·obtain⟨⟨c,g1,g2,g3,g4,H3,D3⟩,j54,j39,j41,j40⟩:=hIy;obtain⟨c0',c1',c2',fr',i1',i2',i3',i4'⟩:=id D3;have hr:=hP.rules _ (Qaf hky);have n5':=H3.nx5;have H4:=H3.box zr7 (ruE src.procs[k].rules[ky]);have k4:=Ku n5' zr7 (ruE src.procs[k].rules[ky]);have D4:=D3.kq k4;have hlr:(ruE src.procs[k].rules[ky]).length=zr7.length:=by rw[vK];rfl
    have C12:=(Cl.new sy zr7).wr0 hlr;rw[Wx hky] at g1;unfold zr7 at *;repeat'(first|apply jb<;>intro _|simp(disch:=first|exact dzG|fail) only[ja i1',ja i2',ja i3',ja i4',ja j54,ja hiy,ja hny,r11,δ,ε])
    refine jpe hb _ (by rw[g2,g3];exact V) hr.1 hr.2.1 hr.2.2 om H4 _ _ ?_;cases hk1:Ze c.1 c.2 src.procs[k].rules[ky] with
    |er x y z=>
     rw[hk1] at g1;rw[<-g1] at h1;intro s' k5;rw[<-h1];exact Uc ((D4.kq k5).push dc)
    |ok d=>
     rw[hk1] at g1;intro s' k5 H5;obtain⟨e,he⟩:=jaQ hk1;repeat'(first|apply jb<;>intro _|simp(disch:=first|exact dzG|fail) only[r11,δ,ε])
     refine⟨⟨⟨d,g1,by rw[he];exact g2,by rw[he];exact g3,by rw[he];simp only[υ,ν,φ];omega,H5,(D4.kq k5).push dc⟩,?_,?_,?_,?_⟩,?_,?_⟩<;>exact hsX
   ·obtain⟨⟨c,g1,g2,g3,g4,H3,D3⟩,j54,j39,j41,j40⟩:=hIy;rw[QbV,zU] at g1;rw[<-g1] at h1;repeat'(first|apply jb<;>intro _|simp(disch:=first|exact dzG|fail) only[r11,δ,ε])
    refine⟨⟨⟨c,h1,g2,g3,om,H3,D3⟩,?_⟩,?_,?_⟩<;>assumption
 ·obtain⟨⟨b,h1,h2,h3,h4,H,D⟩,i39⟩:=hI;rw[QbV] at h1;unfold Xs at h1;rw[zU] at h1;rw[<-h1];repeat'(first|apply jb<;>intro _|simp(disch:=first|exact dzG|fail) only[r11,δ,ε])
  exact m_d D H
theorem MX.mz {m:ModT}{ts:List (List Nat)}{s:St}(h:MX 4 3 5 m ts s)(hm:m.moves=[]):MZ 4 3 5 m ts s:=by
 obtain⟨v1,v2,v3,S⟩:=h;exact⟨v1,v2,v3,[],S.mr hm⟩
def zd7:List AV:=[.str [],.str [],.int .i64 0,.int .i64 0,.nils,.int .i64 0,.int .i64 0]
def ze4:List AV:=[.str [],.nils,.int .i64 0,.int .i64 0]
set_option maxHeartbeats 8000000 in
theorem m_b (hb:NB base){src:SrcT}{L:Sl}{s:St}(D:QS src L s){m:ModT}{ts:List (List Nat)}(V:VarsOK m.vars m.enums)(hm:m.moves=[])(hv0:m.vars=[])(O:SrcOK src)(H:MX 4 3 5 m ts s)(R:KR MT)(hR:(match vp (m,ts) src.vars with | .er a c d=>.er a c d | .ok b=>Xs b src.procs)=R):xC γ base jea L s (mQ base R) (mP base R):=by
 have c0:=D.c0;have i1:=D.i1;have onv:=O.nv;rw[(by unfold jea;simp only[qq];rfl:jea=_)]
 (have zz:=@c0.r;(repeat'(first|apply jb<;>intro _|simp(disch:=first|exact qk|fail) only[ja i1,c0.q,c0.r,r11,δ,ε])))
 refine jZ src.vars.length (λk L s=>(∃ b:MT,(match vp b (src.vars.drop k) with | .er a c d=>.er a c d | .ok b=>Xs b src.procs)=R/\b.1.moves=[]/\b.1.vars.length<=k/\VarsOK b.1.vars b.1.enums/\MX 4 3 5 b.1 b.2 s/\QS src L s)/\Has L 28 (.lst src.vars.length (fl qo src.vars))) ?_ (λk L s hk hI hi hn=>?_) (λL s hI=>?_) (hc:=(λk L s v h=>(by obtain⟨⟨b,h1,h2,h3,h4,h5,h6⟩,h7⟩:=h;refine⟨⟨b,h1,h2,h3,h4,h5,h6.push dc⟩,?_⟩;simp(disch:=decide) only[jf];assumption))) (hI:=(λk L s v h=>(by obtain⟨⟨b,h1,h2,h3,h4,h5,h6⟩,h7⟩:=h;refine⟨⟨b,h1,h2,h3,h4,h5,h6.push dc⟩,?_⟩;simp(disch:=decide) only[jf];assumption)))
 ·refine⟨⟨(m,ts),by rw[Qba];exact hR,hm,by rw[hv0];exact Qaa _,V,H,((D.push dc).push dc).push dc⟩,?_⟩;simp(disch:=decide) only[jf,jn]
 ·clear D c0 i1 H V hm hv0;obtain⟨⟨b,h1,hm,h3,V,H,D⟩,i28⟩:=hI;obtain⟨c0,c1,c2,fr,i1,i2,i3,i4⟩:=id D;have hd:=O.vars _ (Qaf hk);have n5:=H.nx5;have H1:=H.box zd7 (qo src.vars[k]);have k1:=Ku n5 zd7 (qo src.vars[k]);have D1:=D.kq k1;have C10:=(Cl.new s zd7).wr0 (c':=qo src.vars[k]) rfl;unfold vp at h1;rw[Wx hk] at h1;unfold zd7 at *;repeat'(first|apply jb<;>intro _|simp(disch:=first|exact dzG|fail) only[ja i1,ja i2,ja i3,ja i4,ja i28,ja hi,ja hn,r11,δ,ε])
  refine jqe hb _ V om hd.ex hd.len hd.lo hd.hi H1 _ _ ?_;cases hk1:Zq b.1 b.2 src.vars[k] with
  |er x y z=>
   rw[hk1] at h1;intro s' k5;rw[<-h1];exact Uc ((D1.kq k5).push dc)
  |ok d=>
   rw[hk1] at h1;intro s' k5 H5;obtain⟨v,he,hv⟩:=jbT V.vals hd hk1;repeat'(first|apply jb<;>intro _|simp(disch:=first|exact dzG|fail) only[r11,δ,ε])
   refine⟨⟨⟨d,h1,by rw[he];exact hm,by rw[he];simp only[υ,ν,φ];omega,?_,H5,(D1.kq k5).push dc⟩,?_⟩,?_,?_⟩
   ·rw[he];refine⟨by simp only[υ,ν,φ];omega,V.len2,V.vals,λu hu=>?_⟩;rcases QaQ.1 hu with hu|hu
    ·exact V.ends u hu
    ·simp only[QbF] at hu;rw[hu];exact hv
   all_goals exact hsX
 ·obtain⟨⟨b,h1,hm,h3,V,H,D⟩,i28⟩:=hI;rw[QbV] at h1;unfold vp at h1;rw[zU] at h1;dsimp only at h1;rw[<-h1];repeat'(first|apply jb<;>intro _|simp(disch:=first|exact dzG|fail) only[r11,δ,ε])
  exact m_c hb D V hm O (H.mz hm)
set_option maxHeartbeats 8000000 in
theorem m_a (hb:NB base){src:SrcT}{L:Sl}{s:St}(D:QS src L s)(O:SrcOK src)(H:MX 4 3 5 md0 [] s):xC γ base jeb L s (mQ base (JA src)) (mP base (JA src)):=by
 have c0:=D.c0;have i1:=D.i1;have one:=O.ne;generalize hR:JA src=R;unfold JA at hR;rw[(by unfold jeb;simp only[qq];rfl:jeb=_)]
 (have zz:=@c0.r;(repeat'(first|apply jb<;>intro _|simp(disch:=first|exact qk|fail) only[ja i1,c0.q,c0.r,r11,δ,ε])))
 refine jZ src.enums.length (λk L s=>(∃ b:MT,(match Vs b (src.enums.drop k) with | .er a c d=>.er a c d | .ok b=>(match vp b src.vars with | .er a c d=>.er a c d | .ok b=>Xs b src.procs))=R/\b.1.moves=[]/\b.1.vars=[]/\b.1.enums.length<=k/\(∀ e∈b.1.enums,e.vals.length<=1000000)/\MX 4 3 5 b.1 b.2 s/\QS src L s)/\Has L 17 (.lst src.enums.length (fl enE src.enums))) ?_ (λk L s hk hI hi hn=>?_) (λL s hI=>?_) (hc:=(λk L s v h=>(by obtain⟨⟨b,h1,h2,h3,h4,h4b,h5,h6⟩,h7⟩:=h;refine⟨⟨b,h1,h2,h3,h4,h4b,h5,h6.push dc⟩,?_⟩;simp(disch:=decide) only[jf];assumption))) (hI:=(λk L s v h=>(by obtain⟨⟨b,h1,h2,h3,h4,h4b,h5,h6⟩,h7⟩:=h;refine⟨⟨b,h1,h2,h3,h4,h4b,h5,h6.push dc⟩,?_⟩;simp(disch:=decide) only[jf];assumption)))
 ·refine⟨⟨(md0,[]),by rw[Qba];exact hR,rfl,rfl,Qaa _,(λe he=>by cases he),H,((D.push dc).push dc).push dc⟩,?_⟩;simp(disch:=decide) only[jf,jn]
 ·clear D c0 i1 H;obtain⟨⟨b,h1,hm,h3,h4,hv,H,D⟩,i17⟩:=hI;obtain⟨c0,c1,c2,fr,i1,i2,i3,i4⟩:=id D;have hd:=O.vals _ (Qaf hk);have n5:=H.nx5;have H1:=H.box ze4 (enE src.enums[k]);have k1:=Ku n5 ze4 (enE src.enums[k]);have D1:=D.kq k1;have C10:=(Cl.new s ze4).wr0 (c':=enE src.enums[k]) rfl;unfold Vs at h1;rw[Wx hk] at h1;unfold ze4 at *;repeat'(first|apply jb<;>intro _|simp(disch:=first|exact dzG|fail) only[ja i1,ja i2,ja i3,ja i4,ja i17,ja hi,ja hn,r11,δ,ε])
  refine jp7 hb (λvs h h2=>jm1 hb vs h h2) _ hd.1 hd.2 om H1 _ _ ?_;cases hk1:vT b.1 b.2 src.enums[k] with
  |er x y z=>
   rw[hk1] at h1;intro s' k5;rw[<-h1];exact Uc ((D1.kq k5).push dc)
  |ok d=>
   rw[hk1] at h1;intro s' k5 H5;have he:=U5 hk1;repeat'(first|apply jb<;>intro _|simp(disch:=first|exact dzG|fail) only[r11,δ,ε])
   refine⟨⟨⟨d,h1,by rw[he];exact hm,by rw[he];exact h3,by rw[he];simp only[υ,ν,φ];omega,?_,H5,(D1.kq k5).push dc⟩,?_⟩,?_,?_⟩
   ·rw[he];intro u hu;rcases QaQ.1 hu with hu|hu
    ·exact hv u hu
    ·simp only[QbF] at hu;rw[hu];exact hd.2
   all_goals exact hsX
 ·obtain⟨⟨b,h1,hm,h3,h4,hv,H,D⟩,i17⟩:=hI;rw[QbV] at h1;unfold Vs at h1;rw[zU] at h1;dsimp only at h1;repeat'(first|apply jb<;>intro _|simp(disch:=first|exact dzG|fail) only[r11,δ,ε])
  exact m_b hb D ⟨by rw[h3];exact Qaa _,om,hv,λv hv=>by rw[h3] at hv;cases hv⟩ hm h3 O H R h1
set_option maxHeartbeats 8000000 in
theorem jmD (hb:NB base)(src:SrcT)(O:SrcOK src):Tot base 66 [.agg (srE src)] (VQ (JA src)):=by
 refine hb.tot ?_ (by first|rfl|simp[pa,pc,q9,QJ,Wc,JE,Jj,HO,kM,Yl,ZY,Z6,QD,Zk]) rfl;refine Wd x26 (hb.pur 66 1 dc) ?_;simp only[y26,jh,ζ,η,θ,κ];rw[(by unfold z26;simp only[qq];rfl:z26=_)];repeat'(first|apply jb<;>intro _|simp(disch:=first|exact dzG|fail) only[Yh,jr0,jro,r11,δ,ε])
 obtain⟨X,hX⟩:∃ X,X=Go.Sy.nw (Go.Sy.nw (Go.Sy.nw st0 (srE src)) [.nils,.nils,.nils]) [.int .i64 0,.int .i64 0,.int .i64 0]:=⟨_,rfl⟩;have X2:Cl X 2 [.int .i64 0,.int .i64 0,.int .i64 0]:=by rw[hX];exact Cl.new _ _
 have X1:Cl X 1 [.nils,.nils,.nils]:=by rw[hX];exact(Cl.new _ _).nw _
 have X0:Cl X 0 (srE src):=by rw[hX];exact((Cl.new _ _).nw _).nw _
 have Xn:X.nx=3:=by rw[hX];rfl
 have Xf:X.fr=[]:=by rw[hX];rfl
 rw[<-hX];have hn4:(nmp (df (91,[.ptr 2 0]) X)).nx=4:=by show X.nx+1=4;omega
 have hc:(AV.nils :: AV.nils :: AV.nils :: upd [AV.nilm,AV.bool false] 0 (AV.map 3).cells)=[.nils,.nils,.nils,.map 3,.bool false]:=rfl;rw[hn4,hc];have Y:∀ c cs,c<3->Cl X c cs->Cl (Go.Sy.nw (nmp (df (91,[.ptr 2 0]) X)) [.nils,.nils,.nils,.map 3,.bool false]) c cs:=λc cs h3 h=>by
  refine h.keep ?_ ?_
  ·rw[je,hn4];omega
  ·rw[yn om,jho,if_neg (by show c≠X.nx;omega)];rfl
 have C4:Cl (Go.Sy.nw (nmp (df (91,[.ptr 2 0]) X)) [.nils,.nils,.nils,.map 3,.bool false]) 4 [.nils,.nils,.nils,.map 3,.bool false]:=hn4▸Cl.new (nmp (df (91,[.ptr 2 0]) X)) _;have M3:Mp (Go.Sy.nw (nmp (df (91,[.ptr 2 0]) X)) [.nils,.nils,.nils,.map 3,.bool false]) 3 []:=by
  have h:Mp (nmp (df (91,[.ptr 2 0]) X)) X.nx []:=Mp.new (df (91,[.ptr 2 0]) X);rw[Xn] at h;exact h.nw _
 have n5:(Go.Sy.nw (nmp (df (91,[.ptr 2 0]) X)) [.nils,.nils,.nils,.map 3,.bool false]).nx=5:=by rw[je,hn4]
 refine m_a hb ⟨Y _ _ dc X0,Y _ _ dc X1,Y _ _ dc X2,?_,?_,?_,?_,?_⟩ O ⟨.nils,.nils,.nils,C4,M3,Lv.nil,Lv.nil,Lv.nil,trivial,trivial,trivial,dc,dc,dc,om,μ _⟩
 ·show(91,[AV.ptr 2 0]) :: X.fr=_;rw[Xf]
 all_goals simp(disch:=decide) only[jf,jn]
def jeq (r:KR Ex):AV:=match r with
 |.er c l k=>.tup [.agg (eE ex0),.agg (fcl c l k)]
 |.ok y=>.tup [.agg (eE y),.agg (fcl 0 0 0)]
set_option maxHeartbeats 4000000 in
theorem jhv (hb:NB base)(m:ModT)(V:VarsOK m.vars m.enums)(x:Ex)(hx:OkE x):PX γ base 68 [.agg (mdE m),.agg (eE x)] (.ok (jeq (yU m.vars m.enums true x 2 []))):=by
 refine Wd x25 (hb.pur 68 1 dc) ?_;simp only[y25,jh,ζ,η,θ,κ];rw[(by unfold z25;simp only[qq];rfl:z25=_)];have uq:upd [.nils,.nils,.nils,.nilm,.bool false] 0 (mdE m)=[.lst m.vars.length (fl vaE m.vars),.lst m.enums.length (fl enE m.enums),.lst m.moves.length (fl moE m.moves),.nilm,.bool false]:=rfl;repeat'(first|apply jb<;>intro _|simp(disch:=first|exact dzG|fail) only[Yh,XY,WT,WS (base:=base),uq,r11,δ,ε])
 obtain⟨X,hX⟩:∃ X,X=Go.Sy.nw (Go.Sy.nw (Go.Sy.nw (Go.Sy.nw st0 (mdE m)) (eE x)) [.int .i64 0,.int .i64 0,.str [],.nils,.int .i64 0,.int .i64 0]) [.int .i64 0,.int .i64 0,.int .i64 0]:=⟨_,rfl⟩;rw[<-hX];have X3:Cl X 3 [.int .i64 0,.int .i64 0,.int .i64 0]:=by rw[hX];exact Cl.new _ _
 have X2:Cl X 2 [.int .i64 0,.int .i64 0,.str [],.nils,.int .i64 0,.int .i64 0]:=by rw[hX];exact(Cl.new _ _).nw _
 have X1:Cl X 1 (eE x):=by rw[hX];exact((Cl.new _ _).nw _).nw _
 have Xn:X.nx=4:=by rw[hX];rfl
 have Xf:X.fr=[]:=by rw[hX];rfl
 obtain⟨S,hS⟩:∃ S,S=Go.Sy.nw (df (91,[.ptr 3 0]) X) [.lst m.vars.length (fl vaE m.vars),.lst m.enums.length (fl enE m.enums),.lst m.moves.length (fl moE m.moves),.nilm,.bool true]:=⟨_,rfl⟩;rw[<-hS];have hn4:(df (91,[.ptr 3 0]) X).nx=4:=Xn;have Y:∀ c cs,c<4->Cl X c cs->Cl S c cs:=λc cs h3 h=>by
  rw[hS];refine h.keep ?_ ?_
  ·rw[je,hn4];omega
  ·rw[yn om];rfl
 have C1:=Y _ _ dc X1;have C2:=Y _ _ dc X2;have C3:=Y _ _ dc X3;have C4:Cl S 4 [.lst m.vars.length (fl vaE m.vars),.lst m.enums.length (fl enE m.enums),.lst m.moves.length (fl moE m.moves),.nilm,.bool true]:=by rw[hS];exact hn4▸Cl.new (df (91,[.ptr 3 0]) X) _
 have Sf:S.fr=[(91,[.ptr 3 0])]:=by
  rw[hS];show(91,[AV.ptr 3 0]) :: X.fr=_;rw[Xf]
 clear hS Y X1 X2 X3 Xn Xf hX uq hn4;refine VO hb V _ hx.2 (XZ _ hx.1) _ _ (fm:=true) (mm:=.nilm) (v3:=.lst m.moves.length (fl moE m.moves)) ⟨C4,.inl rfl,.inl rfl,(λb k z x h=>by cases h),(λb k z x h=>by cases h)⟩ _ _ ?_;cases hr:yU m.vars m.enums true x 2 [] with
 |er a b c=>
  intro s' k2;have E1:=k2.cl C1 dc;have E2:=k2.cl C2 dc;have E3:=k2.cl C3 dc;have l3:=E3.len;have n3:=E3.lt;have hf:s'.fr=[(91,[.ptr 3 0])]:=k2.fr.trans Sf
  (have zz:=a4 @QB C1.r C2.r (a4 C3.r E1.r E2.r E3.r);(repeat'(first|apply jb<;>intro _|simp(disch:=first|exact qk|fail) only[XY,WT,WS (base:=base),Qy,Yr,Jh (f:=91) (vs:=[.ptr 3 0]),zd (f:=91) (vs:=[.ptr 3 0]),K3,HR,C1.q,C2.q,C3.q,E1.q,E2.q,E3.q,QB,C1.r,C2.r,C3.r,E1.r,E2.r,E3.r,r11,δ,ε])))
  exact FzD.tup (.cons XU (.cons (.agg (.pc (by rfl))) .nil))
 |ok y=>
  intro s' k2 D4;have E1:=k2.cl C1 dc;have E2:=k2.cl C2 dc;have E3:=k2.cl C3 dc;have l3:=E3.len;have n3:=E3.lt;have hf:s'.fr=[(91,[.ptr 3 0])]:=k2.fr.trans Sf
  (have zz:=a4 @QB C1.r C2.r (a4 C3.r E1.r E2.r E3.r);(repeat'(first|apply jb<;>intro _|simp(disch:=first|exact qk|fail) only[XY,WT,WS (base:=base),Qy,Yr,Jh (f:=91) (vs:=[.ptr 3 0]),zd (f:=91) (vs:=[.ptr 3 0]),K3,HR,C1.q,C2.q,C3.q,E1.q,E2.q,E3.q,QB,C1.r,C2.r,C3.r,E1.r,E2.r,E3.r,r11,δ,ε])))
  exact FzD.tup (.cons (.agg (.pc (q9 y))) (.cons (.agg (.pc (by rfl))) .nil))
theorem jhu (hb:NB base)(m:ModT)(V:VarsOK m.vars m.enums)(x:Ex)(hx:OkE x):Tot base 68 [.agg (mdE m),.agg (eE x)] (jeq (yU m.vars m.enums true x 2 [])):=hb.tot (jhv hb m V x hx) (by first|rfl|simp[pa,pc,q9,QJ,Wc,JE,Jj,HO,kM,Yl,ZY,Z6,QD,Zk]) rfl
mutual
theorem jaS:∀ (d:Nat) (x:Ex),zt d x=true->JL x=true/\Zi x=true
 |0,_,h=>by cases h
 |d+1,.mk op num name ks l c,h=>by
  rw[UR] at h;simp only[χ,decide_eq_true_eq] at h;obtain⟨⟨⟨⟨h1,h2⟩,h3⟩,h4⟩,h5⟩:=h;have h3:(ks.length:Int)=if 5<=op/\op<=13 then 1 else if 14<=op/\op<31 then 2 else 0:=h3
  obtain⟨k1,k2⟩:=Gr d ks h5;refine⟨?_,?_⟩
  ·rw[JL,χ,decide_eq_true_eq];refine⟨?_,k1⟩;split at h3
   ·omega
   ·split at h3<;>omega
  ·rw[Zi,χ,QaA,χ,decide_eq_true_eq,decide_eq_true_eq,decide_eq_true_eq];refine⟨?_,k2⟩;by_cases ho:op=1
   ·right;unfold Ws at h4;rw[if_pos (show Ex.op (.mk op num name ks l c)=1 from ho)] at h4;simp only[χ,decide_eq_true_eq] at h4;have h6:(0:Int)<=num:=h4.1.1;have h7:num<=1000000:=h4.1.2;omega
   ·exact .inl ho
theorem Gr:∀ (d:Nat) (xs:List Ex),xs.all (zt d)=true->Jy xs=true/\JU xs=true
 |_,[],_=>⟨rfl,rfl⟩
 |d,x :: xs,h=>by
  rw[Qaz,χ] at h;obtain⟨a1,a2⟩:=jaS d x h.1;obtain⟨b1,b2⟩:=Gr d xs h.2;rw[Jy,JU,χ,χ];exact⟨⟨a1,b1⟩,⟨a2,b2⟩⟩
end
theorem vC {ts:List Tk}(W:Wds ts){i j:Nat}{x:Ex}(hi:i<ts.length)(h:yT ts i=.ok x j):OkE x:=jaS 60 x (yH W hi h).2.2.2
theorem jfU:∀ {ts:List Tk} {n i j:Nat} {vs ws:List (List Nat)},vs.length<=32->Yj ts n i vs=.ok ws j->vs.length<ws.length/\ws.length<=32
 |ts,0,i,j,vs,ws,hv,h=>by cases h
 |ts,n+1,i,j,vs,ws,hv,h=>by
  rw[Yj] at h;split at h
  ·split at h
   ·cases h
   ·split at h
    ·have:=jfU (by simp;omega) h;simp at this;omega
    ·split at h
     ·cases h;simp;omega
     ·cases h
  ·cases h
theorem jp5 {ts:List Tk}{i j:Nat}{e:EnumT}(h:wi ts i=.ok e j):0<e.vals.length/\e.vals.length<=1000000:=by
 unfold wi at h;split at h
 ·split at h
  ·split at h
   ·rename_i vs k hv;cases h;have:=jfU (by simp) hv;dsimp only;omega
   ·cases h
  ·cases h
 ·cases h
theorem jlA {ts:List Tk}(N:Nbs ts){i j:Nat}{n:Int}(h:Yw ts i=.ok n j) : -100000000<=n/\n<=100000000:=by
 unfold Yw at h;split at h
 ·split at h
  ·have:=N (i+1);cases h;omega
  ·cases h
 ·split at h
  ·have:=N i;cases h;omega
  ·cases h
theorem jrp {ts:List Tk}(N:Nbs ts){i j:Nat}{y:List Nat×Int×Int}(h:u0 ts i=.ok y j):(-100000000<=y.2.1/\y.2.1<=100000000)/\(-100000000<=y.2.2/\y.2.2<=100000000):=by
 unfold u0 at h;split at h
 ·cases h;dsimp only;omega
 ·split at h
  ·cases h;dsimp only;omega
  ·split at h
   ·cases h
   ·rename_i lo k h1;split at h
    ·split at h
     ·cases h
     ·rename_i hi k2 h2;cases h;exact⟨jlA N h1,jlA N h2⟩
    ·cases h
theorem jsh {ts:List Tk}(W:Wds ts){i j:Nat}{bs:List Ex}(hi:i<ts.length)(h:um ts i=.ok bs j):(∀ x∈bs,OkE x)/\bs.length<=1:=by
 unfold um at h;split at h
 ·rename_i c;have hi1:=W.isM hi c;split at h
  ·cases h
  ·rename_i x k hx;split at h
   ·cases h;exact⟨λy hy=>by simp at hy;rw[hy];exact vC W hi1 hx,by simp⟩
   ·cases h
 ·split at h
  ·cases h;exact⟨(λy hy=>by cases hy),by simp⟩
  ·cases h
theorem jqc {ts:List Tk}(W:Wds ts)(N:Nbs ts){i j:Nat}{d:DeclT}(hi:i<ts.length)(h:wm ts i=.ok d j):DeclOK d:=by
 unfold wm at h;split at h
 ·rename_i k1;have hi1:=W.next i hi om
  split at h
  ·rename_i c1;have hi2:=W.isM hi1 c1;split at h
   ·cases h
   ·rename_i y k hy;have hk:=jgo W hi2 hy;split at h
    ·cases h
    ·rename_i bs k2 hb;cases h;obtain⟨a,b⟩:=jrp N hy;obtain⟨c,d⟩:=jsh W hk.2 hb;exact⟨c,by dsimp only;omega,a,b⟩
  ·cases h
 ·cases h
theorem jh4 {ts:List Tk}(W:Wds ts):∀ {n i j:Nat} {vs ws:List AsT},i<ts.length->(∀ a∈vs,OkE a.to)->vs.length<=32->XP ts n i vs=.ok ws j->(∀ a∈ws,OkE a.to)/\ws.length<=32
 |0,i,j,vs,ws,hi,hv,hl,h=>by cases h
 |n+1,i,j,vs,ws,hi,hv,hl,h=>by
  rw[XP] at h;by_cases k1:(tk ts i).kind=1
  ·simp only[if_pos k1] at h;have hi1:=W.next i hi om
   by_cases h32:32<=vs.length
   ·simp only[if_pos h32] at h;cases h
   simp only[if_neg h32] at h;by_cases c1:isM (tk ts (i+1)) [[58,61]]=true
   ·simp only[if_pos c1] at h;have hi2:=W.isM hi1 c1;cases h1:yT ts (i+2) with
    |er t=>rw[h1] at h;cases h
    |ok x k=>
     rw[h1] at h;dsimp only at h;have hj:=yH W hi2 h1;have hx:=vC W hi2 h1;have hv2:∀ l c nm,∀ a∈vs ++ [(⟨nm,x,l,c⟩:AsT)],OkE a.to:=λl c nm a ha=>by
      rcases QaQ.1 ha with ha|ha
      ·exact hv a ha
      ·simp at ha;rw[ha];exact hx
     by_cases c2:isM (tk ts k) [[44]]=true
     ·simp only[if_pos c2] at h;exact jh4 W (W.isM hj.2.1 c2) (hv2 _ _ _) (by simp;omega) h
     ·simp only[if_neg c2] at h;split at h
      ·cases h;exact⟨hv2 _ _ _,by simp;omega⟩
      ·cases h
   ·simp only[if_neg c1] at h;cases h
  ·simp only[if_neg k1] at h;cases h
theorem jpc {ts:List Tk}(W:Wds ts){i j:Nat}{r:RuleT}(hi:i<ts.length)(h:Zd ts i=.ok r j):OkE r.when/\(∀ a∈r.acts,OkE a.to)/\r.acts.length<=1000000:=by
 unfold Zd at h;cases h1:yT ts i with
 |er t=>rw[h1] at h;cases h
 |ok x k=>
  rw[h1] at h;dsimp only at h;have hj:=yH W hi h1;by_cases c1:isM (tk ts k) [[100,111]]=true
  ·simp only[if_pos c1] at h;cases h2:XP ts ts.length (k+1) [] with
   |er t=>rw[h2] at h;cases h
   |ok vs k2=>
    rw[h2] at h;cases h;have:=jh4 (vs:=[]) W (W.isM hj.2.1 c1) (λa ha=>by cases ha) (Qaa _) h2;exact⟨vC W hi h1,this.1,by dsimp only;omega⟩
  ·simp only[if_neg c1] at h;cases h
theorem jcV {ts:List Tk}(W:Wds ts):∀ {n i j:Nat} {vs ws:List RuleT},i<ts.length->(∀ r∈vs,OkE r.when/\(∀ a∈r.acts,OkE a.to)/\r.acts.length<=1000000)->vs.length<=32->QM ts n i vs=.ok ws j->(∀ r∈ws,OkE r.when/\(∀ a∈r.acts,OkE a.to)/\r.acts.length<=1000000)/\ws.length<=32
 |0,i,j,vs,ws,hi,hv,hl,h=>by cases h
 |n+1,i,j,vs,ws,hi,hv,hl,h=>by
  rw[QM] at h;by_cases c1:isM (tk ts i) [[119,104,101,110]]=true
  ·simp only[if_pos c1] at h;have hi1:=W.isM hi c1;by_cases h32:32<=vs.length
   ·simp only[if_pos h32] at h;cases h
   simp only[if_neg h32] at h;cases h1:Zd ts (i+1) with
   |er t=>rw[h1] at h;cases h
   |ok r k=>
    rw[h1] at h;dsimp only at h;refine jcV W (gF W hi1 h1).2 (λa ha=>?_) (by simp;omega) h;rcases QaQ.1 ha with ha|ha
    ·exact hv a ha
    ·simp at ha;rw[ha];exact jpc W hi1 h1
  ·simp only[if_neg c1] at h;split at h
   ·cases h;exact⟨hv,hl⟩
   ·cases h
theorem jpo {ts:List Tk}(W:Wds ts){i j:Nat}{p:ProcT}(hi:i<ts.length)(h:Z2 ts i=.ok p j):ProcOK p:=by
 unfold Z2 at h;split at h
 ·rename_i k1;have hi1:=W.next i hi om
  split at h
  ·rename_i c1;have hi2:=W.isM hi1 c1;split at h
   ·rename_i vs k hv;cases h;have:=jcV (vs:=[]) W hi2 (λa ha=>by cases ha) (Qaa _) hv;exact⟨by dsimp only;omega,this.1⟩
   ·cases h
  ·cases h
 ·cases h
theorem HC {ts:List Tk}(W:Wds ts)(N:Nbs ts):∀ {n i j:Nat} {m w:SrcT},i<ts.length->SrcOK m->m.enums.length<=32->m.vars.length<=32->m.procs.length<=32->YT ts n i m=.ok w j->SrcOK w/\w.enums.length<=32/\w.vars.length<=32/\w.procs.length<=32
 |0,i,j,m,w,hi,hm,h1,h2,h3,h=>by cases h
 |n+1,i,j,m,w,hi,hm,h1,h2,h3,h=>by
  rw[YT] at h;by_cases c:isM (tk ts i) [[101,110,117,109],[118,97,114],[112,114,111,99,101,115,115]]=true
  ·simp only[if_pos c] at h;have hi1:=W.isM hi c;by_cases c1:(tk ts i).text=[101,110,117,109]
   ·simp only[if_pos c1] at h;by_cases hr:32<=m.enums.length
    ·simp only[if_pos hr] at h;cases h
    simp only[if_neg hr] at h;cases he:wi ts (i+1) with
    |er t=>rw[he] at h;cases h
    |ok e k=>
     rw[he] at h;refine HC (m:={ m with enums:=m.enums ++ [e] }) W N (jdv W hi1 he).2 ⟨by simp;omega,hm.nv,hm.np,λa ha=>?_,hm.vars,hm.procs⟩ (by simp;omega) h2 h3 h;rcases QaQ.1 ha with ha|ha
     ·exact hm.vals a ha
     ·simp at ha;rw[ha];exact jp5 he
   simp only[if_neg c1] at h;by_cases c2:(tk ts i).text=[118,97,114]
   ·simp only[if_pos c2] at h;by_cases hr:32<=m.vars.length
    ·simp only[if_pos hr] at h;cases h
    simp only[if_neg hr] at h;cases he:wm ts (i+1) with
    |er t=>rw[he] at h;cases h
    |ok e k=>
     rw[he] at h;refine HC (m:={ m with vars:=m.vars ++ [e] }) W N (jdz W hi1 he).2 ⟨hm.ne,by simp;omega,hm.np,hm.vals,λa ha=>?_,hm.procs⟩ h1 (by simp;omega) h3 h;rcases QaQ.1 ha with ha|ha
     ·exact hm.vars a ha
     ·simp at ha;rw[ha];exact jqc W N hi1 he
   ·simp only[if_neg c2] at h;by_cases hr:32<=m.procs.length
    ·simp only[if_pos hr] at h;cases h
    simp only[if_neg hr] at h;cases he:Z2 ts (i+1) with
    |er t=>rw[he] at h;cases h
    |ok e k=>
     rw[he] at h;refine HC (m:={ m with procs:=m.procs ++ [e] }) W N (jc5 W hi1 he).2 ⟨hm.ne,hm.nv,by simp;omega,hm.vals,hm.vars,λa ha=>?_⟩ h1 h2 (by simp;omega) h;rcases QaQ.1 ha with ha|ha
     ·exact hm.procs a ha
     ·simp at ha;rw[ha];exact jpo W hi1 he
  ·simp only[if_neg c] at h;split at h
   ·cases h;exact⟨hm,h1,h2,h3⟩
   ·cases h
theorem jcS {l:List Nat}(h:(zO l).2.1=0):SrcOK (zO l).1:=by
 unfold zO at h ⊢;by_cases c:(qi l).2.1≠0
 ·rw[if_pos c] at h;exact absurd h c
 ·rw[if_neg c] at h ⊢;have c0:(qi l).2.1=0:=by simpa using c
  obtain⟨W,ne,_⟩:=K1 c0;cases hr:YT (qi l).1 (qi l).1.length 0 WZ with
  |er t=>rw[hr] at h;exact absurd h (λh=>by cases h)
  |ok m j=>exact(HC W (jhN c0) (QbU.2 ne) ⟨dc,dc,dc,(λa ha=>by cases ha),(λa ha=>by cases ha),(λa ha=>by cases ha)⟩ dc dc dc hr).1
theorem jkj {l:List Nat}(h:(yD l).2.1=0):OkE (yD l).1:=by
 unfold yD at h ⊢;by_cases c:(qi l).2.1≠0
 ·rw[if_pos c] at h;exact absurd h c
 ·rw[if_neg c] at h ⊢;have c0:(qi l).2.1=0:=by simpa using c
  obtain⟨W,ne,_⟩:=K1 c0;cases hr:yT (qi l).1 0 with
  |er t=>rw[hr] at h;exact absurd h (λh=>by cases h)
  |ok x j=>
   rw[hr] at h;dsimp only at h ⊢;by_cases k5:(tk (qi l).1 j).kind=5
   ·rw[if_pos k5];exact vC W (QbU.2 ne) hr
   ·rw[if_neg k5] at h;exact absurd h (λh=>by cases h)
def Bad (c:Int):Prop:=c≠0
theorem jeI {vars:List VarT}{enums:List EnumT}{x:Ex}{c l k:Int}(h:zZ vars enums x=.er c l k):Bad c:=by
 unfold zZ at h;split at h
 ·cases h
 ·split at h
  ·cases h;exact λh=>by cases h
  ·cases h
mutual
theorem GX {vars:List VarT}{enums:List EnumT}:∀ (fm:Bool) (x:Ex) {a b d:Int},y8 vars enums fm x=.er a b d->Bad a
 |fm,.mk op num name ks l c,a,b,d,h=>by
  rw[y8] at h;split at h
  ·cases h
  ·split at h
   ·cases h
   ·split at h
    ·exact jeI h
    ·split at h
     ·rename_i hr;cases h;exact Kv _ _ hr
     ·unfold ZJ at h;split at h
      ·cases h;exact λh=>by cases h
      ·split at h
       ·cases h
       ·split at h
        ·cases h;exact λh=>by cases h
        ·cases h
theorem Kv {vars:List VarT}{enums:List EnumT}:∀ (fm:Bool) (xs:List Ex) {a b d:Int},qC vars enums fm xs=.er a b d->Bad a
 |fm,[],a,b,d,h=>by rw[qC] at h;cases h
 |fm,x :: xs,a,b,d,h=>by
  rw[qC] at h;cases hx:y8 vars enums fm x with
  |er p q r=>rw[hx] at h;cases h;exact GX fm x hx
  |ok y=>
   rw[hx] at h;cases hr:qC vars enums fm xs with
   |er p q r=>rw[hr] at h;cases h;exact Kv fm xs hr
   |ok r=>rw[hr] at h;cases h
end
theorem Yo {vars:List VarT}{enums:List EnumT}{fm:Bool}{x:Ex}{w:Int}{en:List Nat}{a b c:Int}(h:yU vars enums fm x w en=.er a b c):Bad a:=by
 unfold yU at h;split at h
 ·rename_i hr;cases h;exact GX fm x hr
 ·split at h
  ·cases h;exact λh=>by cases h
  ·cases h
theorem WX {ts:List (List Nat)}{n:List Nat}{l c a b d:Int}(h:Q6 ts n l c=.er a b d):Bad a:=by
 unfold Q6 at h;split at h
 ·cases h;exact λh=>by cases h
 ·cases h
theorem kK {l c:Int}:∀ {ns ts:List (List Nat)} {a b d:Int},zf l c ts ns=.er a b d->Bad a
 |[],ts,a,b,d,h=>by cases h
 |n :: ns,ts,a,b,d,h=>by
  rw[zf] at h;split at h
  ·rename_i hr;cases h;exact WX hr
  ·exact kK h
theorem jhI {m:ModT}{ts:List (List Nat)}{e:EnumT}{a b d:Int}(h:vT m ts e=.er a b d):Bad a:=by
 unfold vT at h;split at h
 ·rename_i hr;cases h;exact kK hr
 ·cases h
theorem jb7 {vars:List VarT}{enums:List EnumT}:∀ {xs:List Ex} {v:VarT} {a b d:Int},JK vars enums v xs=.er a b d->Bad a
 |[],v,a,b,d,h=>by rw[JK] at h;cases h
 |x :: xs,v,a,b,d,h=>by
  rw[JK] at h;split at h
  ·rename_i hr;cases h;exact Yo hr
  ·split at h
   ·cases h;exact λh=>by cases h
   ·split at h
    ·cases h;exact λh=>by cases h
    ·exact jb7 h
theorem jhM {m:ModT}{ts:List (List Nat)}{e:DeclT}{a b d:Int}(h:Zq m ts e=.er a b d):Bad a:=by
 unfold Zq at h;split at h
 ·rename_i hr;cases h;exact WX hr
 ·split at h
  ·rename_i hr;cases h;unfold Wt at hr;split at hr
   ·cases hr
   ·split at hr
    ·cases hr
    ·split at hr
     ·cases hr;exact λh=>by cases h
     ·split at hr
      ·cases hr;exact λh=>by cases h
      ·split at hr
       ·cases hr;exact λh=>by cases h
       ·cases hr
  ·unfold ua at h;split at h
   ·rename_i hr;cases h;exact jb7 hr
   ·unfold gI at h;split at h
    ·cases h;exact λh=>by cases h
    ·cases h
theorem Gp {vars:List VarT}{enums:List EnumT}:∀ {xs done:List AsT} {acc:List SetT} {a b d:Int},Xz vars enums acc done xs=.er a b d->Bad a
 |[],done,acc,a,b,d,h=>by rw[Xz] at h;cases h
 |x :: xs,done,acc,a,b,d,h=>by
  rw[Xz] at h;split at h
  ·cases h;exact λh=>by cases h
  ·split at h
   ·cases h;exact λh=>by cases h
   ·split at h
    ·rename_i hr;cases h;exact Yo hr
    ·exact Gp h
theorem jgB {m:ModT}{ts:List (List Nat)}{e:RuleT}{a b d:Int}(h:Ze m ts e=.er a b d):Bad a:=by
 unfold Ze at h;split at h
 ·rename_i hr;cases h;exact Yo hr
 ·split at h
  ·rename_i hr;cases h;exact Gp hr
  ·cases h
theorem ZC {α β:Type}{f:β->α->KR β}(hf:∀ b x a c d,f b x=.er a c d->Bad a):∀ {xs:List α} {b:β} {a c d:Int},zU f b xs=.er a c d->Bad a
 |[],b,a,c,d,h=>by rw[zU] at h;cases h
 |x :: xs,b,a,c,d,h=>by
  rw[zU] at h;split at h
  ·rename_i hr;cases h;exact hf _ _ _ _ _ hr
  ·exact ZC hf h
theorem Kh {s:SrcT}{a b d:Int}(h:JA s=.er a b d):Bad a:=by
 unfold JA at h;split at h
 ·rename_i hr;cases h;exact ZC (λb x a c d h=>jhI h) hr
 ·split at h
  ·rename_i hr;cases h;exact ZC (λb x a c d h=>jhM h) hr
  ·refine ZC (λb x a c d h=>?_) h;unfold Z3 at h;split at h
   ·rename_i hr;cases h;exact WX hr
   ·exact ZC (λb x a c d h=>jgB h) h
theorem jrz:Go.Ev.isAgg γ 32=some true:=by kernel_rfl
theorem jry:Go.Ev.sizeOf γ 32=some 3:=by kernel_rfl
theorem jtF {b o:Nat}{cs:List AV}{h:T AO}(ho:o+3<=qh h b)(hv:rats h b o 3=cs)(hc:cs.all eqs=true):(jY γ 32 (.ptr b o) (.agg cs) h=true)=True:=eq_true (Yt jrz jry dc ho hv hc)
structure RdT where
 m:ModT
 x:Ex
 c:Int
 l:Int
 k:Int
def Js (l f:List Nat):RdT:=
 if(zO l).2.1≠0 then⟨md0,ex0,(zO l).2.1,(zO l).2.2.1,(zO l).2.2.2⟩ else match JA (zO l).1 with
 |.er a b c=>⟨md0,ex0,a,b,c⟩
 |.ok m=>if(yD f).2.1≠0 then⟨md0,ex0,(yD f).2.1,(yD f).2.2.1,(yD f).2.2.2⟩ else match yU m.1.vars m.1.enums true (yD f).1 2 [] with
  |.er a b c=>⟨md0,ex0,a,b,c⟩
  |.ok y=>⟨m.1,y,0,0,0⟩
def kJ (r:RdT):AV:=.tup [.agg (mdE r.m),.agg (eE r.x),.agg (fcl r.c r.l r.k)]
theorem jjC {s:St}{r:RdT}{a b c:List AV}(h1:a=mdE r.m)(h2:b=eE r.x)(h3:c=fcl r.c r.l r.k):G0 (kJ r) (.tup [.agg a,.agg b,.agg c]) s:=by
 subst h1 h2 h3;exact FzD.tup (.cons (.agg (.pc (QD _))) (.cons (.agg (.pc (q9 _))) (.cons (.agg (.pc rfl)) .nil)))
theorem u4 {s:St}{r:RdT}{c:List AV}(h1:r.m=md0)(h2:r.x=ex0)(h3:c=fcl r.c r.l r.k):G0 (kJ r) (.tup [.agg [.nils,.nils,.nils],.agg [.int .i64 0,.int .i64 0,.str [],.nils,.int .i64 0,.int .i64 0],.agg c]) s:=by
 subst h3;unfold kJ;rw[h1,h2];exact FzD.tup (.cons jgY (.cons XU (.cons (.agg (.pc rfl)) .nil)))
theorem J8 {α β:Type}{f:β->α->KR β}{P:Nat->β->Prop}:∀ {xs:List α} {n:Nat} {b b':β},(∀ k b x b',x∈xs->P k b->f b x=.ok b'->P (k+1) b')->P n b->zU f b xs=.ok b'->P (n+xs.length) b'
 |[],n,b,b',_,h,e=>by rw[zU] at e;cases e;exact h
 |x :: xs,n,b,b',hs,h,e=>by
  rw[zU] at e;split at e
  ·cases e
  ·rename_i c hc;have:=J8 (n:=n+1) (λk b y b' hy=>hs k b y b' (by simp[hy])) (hs n b x c (by simp) h hc) e;rw[ν,show n+(xs.length+1)=n+1+xs.length by omega];exact this
theorem ja4 {b b':MT}{p:ProcT}(h:Z3 b p=.ok b'):b'.1.vars=b.1.vars/\b'.1.enums=b.1.enums:=by
 unfold Z3 at h;split at h
 ·cases h
 ·rename_i ts _;refine J8 (n:=0) (P:=λ_ c=>c.1.vars=b.1.vars/\c.1.enums=b.1.enums) (λk c x c' _ hc hr=>?_) ⟨rfl,rfl⟩ h;obtain⟨e,he⟩:=jaQ hr;rw[he];exact hc
theorem jko {src:SrcT}(O:SrcOK src){b:MT}(h:Vs (md0,[]) src.enums=.ok b):b.1.vars=[]/\b.1.moves=[]/\b.1.enums.length<=1000/\(∀ e∈b.1.enums,e.vals.length<=1000000):=by
 have H:=J8 (n:=0) (P:=λk (c:MT)=>c.1.vars=[]/\c.1.moves=[]/\c.1.enums.length<=k/\(∀ e∈c.1.enums,e.vals.length<=1000000)) (λk c x c' hx hc hr=>?_) ⟨rfl,rfl,μ _,λe he=>by cases he⟩ h
 ·have:=O.ne;exact⟨H.1,H.2.1,by have:=H.2.2.1;omega,H.2.2.2⟩
 ·rw[U5 hr];refine⟨hc.1,hc.2.1,by have:=hc.2.2.1;simp;omega,λu hu=>?_⟩;rcases QaQ.1 hu with hu|hu
  ·exact hc.2.2.2 u hu
  ·simp only[QbF] at hu;rw[hu];exact(O.vals x hx).2
theorem jkt {src:SrcT}(O:SrcOK src){b c:MT}(V:VarsOK b.1.vars b.1.enums)(h0:b.1.vars=[])(h:vp b src.vars=.ok c):VarsOK c.1.vars c.1.enums:=by
 have:=J8 (n:=0) (P:=λk (c:MT)=>(∀ v∈c.1.vars,-100000000<=v.lo/\v.lo<=100000000/\-100000000<=v.hi/\v.hi<=100000000)/\c.1.enums=b.1.enums/\c.1.vars.length=k) (λk c x c' hx hc hr=>?_) ⟨V.ends,rfl,by rw[h0];rfl⟩ h
 ·have hn:=O.nv;exact⟨om,by rw[this.2.1];exact V.len2,by rw[this.2.1];exact V.vals,this.1⟩
 ·obtain⟨v,he,hv⟩:=jbT (by rw[hc.2.1];exact V.vals) (O.vars x hx) hr;rw[he];refine⟨λu hu=>?_,hc.2.1,by simp[hc.2.2]⟩;rcases QaQ.1 hu with hu|hu
  ·exact hc.1 u hu
  ·simp only[QbF] at hu;rw[hu];exact hv
theorem jlD {src:SrcT}(O:SrcOK src){m:MT}(h:JA src=.ok m):VarsOK m.1.vars m.1.enums:=by
 unfold JA at h;split at h
 ·cases h
 ·rename_i b h1;obtain⟨e1,e2,e3,e4⟩:=jko O h1;split at h
  ·cases h
  ·rename_i c h2;have V:=jkt O ⟨by rw[e1];exact Qaa _,om,e4,λv hv=>by rw[e1] at hv;cases hv⟩ e1 h2;have:=J8 (n:=0) (P:=λ_ (d:MT)=>d.1.vars=c.1.vars/\d.1.enums=c.1.enums) (λk d x d' _ hd hr=>?_) ⟨rfl,rfl⟩ h
   ·rw[this.1,this.2];exact V
   ·have:=ja4 hr;rw[this.1,this.2];exact hd
set_option maxHeartbeats 8000000 in
theorem jqK (hb:NB base)(hP:PI base)(l f:List Nat)(hl:l.length<=9223372036854775807)(hf:f.length<=9223372036854775807):Tot base 36 [.str l,.str f] (kJ (Js l f)):=by
 refine hb.tot ?_ rfl rfl;have hS:=jkE hb hP l hl K1 jhN;have hX:=jqV hb hP f hf K1;refine jF x24 (by rfl) (hb.pur 36 1 dc) ?_;simp only[y24,jh,ζ,η,θ,κ];rw[(by unfold z24;simp only[qq];rfl:z24=_)];unfold Js;by_cases h1:(zO l).2.1≠0
 ·have h1':¬ ((zO l).2.1:Int)=0:=om
  rw[if_pos h1];have e:zu (zO l).2=[.int .i64 ((zO l).2.1:Int),.int .i64 ((zO l).2.2.1:Int),.int .i64 ((zO l).2.2.2:Int)]:=rfl;rw[e] at hS;repeat'(first|apply jb<;>intro _|simp(disch:=first|exact dzG|fail) only[hS,h1',Yr,Qy,vG,r11,δ,ε])
  exact u4 rfl rfl rfl
 rw[if_neg h1];have h1z:(zO l).2.1=0:=by simpa using h1
 have O:=jcS h1z;have e0:(zO l).2=(0,0,0):=by
  unfold zO at h1z ⊢;by_cases c:(qi l).2.1≠0
  ·rw[if_pos c] at h1z;exact absurd h1z c
  ·rw[if_neg c] at h1z ⊢;cases hr:YT (qi l).1 (qi l).1.length 0 WZ with
   |er t=>rw[hr] at h1z;exact absurd h1z (λh=>by cases h)
   |ok m j=>rfl
 rw[e0] at hS;have e0':zu (0,0,0)=[.int .i64 0,.int .i64 0,.int .i64 0]:=rfl;rw[e0'] at hS;have hM:=jmD hb (zO l).1 O;unfold VQ at hM;cases hm:JA (zO l).1 with
 |er a b c=>
  have ha:¬ a=0:=Kh hm;rw[hm] at hM;unfold fcl at hM;repeat'(first|apply jb<;>intro _|simp(disch:=first|exact dzG|fail) only[hS,hM,ha,Yr,Qy,vG,r11,δ,ε])
  exact u4 rfl rfl rfl
 |ok m=>
  rw[hm] at hM;unfold fcl at hM;dsimp only at hM ⊢;have V:=jlD O hm;by_cases h2:(yD f).2.1≠0
  ·have h2':¬ ((yD f).2.1:Int)=0:=om
   rw[if_pos h2];have e:zu (yD f).2=[.int .i64 ((yD f).2.1:Int),.int .i64 ((yD f).2.2.1:Int),.int .i64 ((yD f).2.2.2:Int)]:=rfl;rw[e] at hX;repeat'(first|apply jb<;>intro _|simp(disch:=first|exact dzG|fail) only[hS,hM,hX,h2',Yr,Qy,vG,r11,δ,ε])
   exact u4 rfl rfl rfl
  rw[if_neg h2];have h2z:(yD f).2.1=0:=by simpa using h2
  have OX:=jkj h2z;have e2:(yD f).2=(0,0,0):=by
   unfold yD at h2z ⊢;by_cases c:(qi f).2.1≠0
   ·rw[if_pos c] at h2z;exact absurd h2z c
   ·rw[if_neg c] at h2z ⊢;cases hr:yT (qi f).1 0 with
    |er t=>rw[hr] at h2z;exact absurd h2z (λh=>by cases h)
    |ok x j=>
     rw[hr] at h2z;dsimp only at h2z ⊢;by_cases k5:(tk (qi f).1 j).kind=5
     ·rw[if_pos k5]
     ·rw[if_neg k5] at h2z;exact absurd h2z (λh=>by cases h)
  rw[e2,e0'] at hX;have hF:=jhu hb m.1 V (yD f).1 OX;unfold jeq at hF;cases hr:yU m.1.vars m.1.enums true (yD f).1 2 [] with
  |er a b c=>
   have ha:¬ a=0:=Yo hr;rw[hr] at hF;unfold fcl at hF;repeat'(first|apply jb<;>intro _|simp(disch:=first|exact dzG|fail) only[hS,hM,hX,hF,ha,Yr,Qy,vG,r11,δ,ε])
   exact u4 rfl rfl rfl
  |ok y=>
   rw[hr] at hF;unfold fcl at hF
   (have zz:=aI @QB @jlE;(repeat'(first|apply jb<;>intro _|simp(disch:=first|exact qk|fail) only[hS,hM,hX,hF,Yr,Qy,jtF,vG,QB,jlE,r11,δ,ε])))
   exact jjC rfl rfl rfl
theorem jtK (a b c d e f:Int):(eqF γ 20 71).run (.agg [.int .i64 a,.int .i64 b,.int .i64 c]) (.agg [.int .i64 d,.int .i64 e,.int .i64 f])=some (decide (a=d/\b=e/\c=f)):=by
 have h:(eqF γ 20 71).run (.agg [.int .i64 a,.int .i64 b,.int .i64 c]) (.agg [.int .i64 d,.int .i64 e,.int .i64 f])=cond (eqI a d) (cond (eqI b e) (cond (eqI c f) (some true) (some false)) (some false)) (some false):=by kernel_rfl
 rw[h,Xw,Xw,Xw];by_cases h1:a=d<;>by_cases h2:b=e<;>by_cases h3:c=f<;>simp[h1,h2,h3]
theorem fEq (a b c d e f:Int)(st:St)(K:AV->St->Prop):ji (JI γ .eql 71 false (.agg [.int .i64 a,.int .i64 b,.int .i64 c]) (.agg [.int .i64 d,.int .i64 e,.int .i64 f]) st) K=K (.bool (decide (a=d/\b=e/\c=f))) st:=by
 have h:JI γ .eql 71 false (.agg [.int .i64 a,.int .i64 b,.int .i64 c]) (.agg [.int .i64 d,.int .i64 e,.int .i64 f]) st=jR ((eqF γ 20 71).run (.agg [.int .i64 a,.int .i64 b,.int .i64 c]) (.agg [.int .i64 d,.int .i64 e,.int .i64 f])) λb=>.ok (.bool b) st:=by kernel_rfl
 rw[h,jtK];simp[jR,ji]
def YL (vars:List VarT):Prop:=∀ v∈vars,v.kind=2->v.enum=[]
theorem jeP {enums:List EnumT}{d:DeclT}{v:VarT}(h:Wt enums d=.ok v):v.kind=2->v.enum=[]:=by
 unfold Wt at h;split at h
 ·cases h;exact λ_=>rfl
 ·split at h
  ·cases h;intro h;cases h
  ·split at h
   ·cases h
   ·split at h
    ·cases h
    ·split at h
     ·cases h
     ·cases h;intro h;cases h
theorem jfl {m:ModT}{ts:List (List Nat)}{d:DeclT}{b:MT}(hm:YL m.vars)(h:Zq m ts d=.ok b):YL b.1.vars:=by
 unfold Zq at h;split at h
 ·cases h
 ·split at h
  ·cases h
  ·rename_i v hk;unfold ua at h;split at h
   ·cases h
   ·rename_i u hu;unfold gI at h;split at h
    ·cases h
    ·cases h;have hb:=Gf hu;intro w hw;rcases QaQ.1 hw with hw|hw
     ·exact hm w hw
     ·simp only[QbF] at hw;rw[hw,hb.2.2.1,hb.2.2.2.1];exact jeP hk
theorem jmH {src:SrcT}{m:MT}(h:JA src=.ok m):YL m.1.vars:=by
 unfold JA at h;split at h
 ·cases h
 ·rename_i b h1;have hb:YL b.1.vars:=J8 (n:=0) (P:=λ_ (c:MT)=>YL c.1.vars) (λk c x c' _ hc hr=>by rw[U5 hr];exact hc) (λv hv=>by cases hv) h1;split at h
  ·cases h
  ·rename_i c h2;have hc:YL c.1.vars:=J8 (n:=0) (P:=λ_ (c:MT)=>YL c.1.vars) (λk c x c' _ hc hr=>jfl hc hr) hb h2;exact J8 (n:=0) (P:=λ_ (c:MT)=>YL c.1.vars) (λk c x c' _ hc hr=>by rw[(ja4 hr).1];exact hc) hc h
theorem X4 {α:Type}{f:α->Nat}:∀ {l:List α} {x:α},x∈l->f x<=(l.map f).sum
 |y :: l,x,h=>by
  rw[ζ,List.sum_cons];rcases QaU.1 h with rfl|h
  ·omega
  ·have:=X4 (f:=f) h;omega
theorem X5 {α:Type}{f:α->Nat}(hf:∀ x,1<=f x):∀ l:List α,l.length<=(l.map f).sum
 |[]=>Qaa _
 |y :: l=>by
  rw[ζ,List.sum_cons,ν];have:=X5 hf l;have:=hf y;omega
theorem jjE {xs:List Ex}{x:Ex}(h:x∈xs):szE x<=zg xs:=by rw[<-JG];exact X4 h
theorem jmi (xs:List Ex):xs.length<=zg xs:=by rw[<-JG];exact X5 gA xs
theorem joE {m:SrcT}(h:szS m<=1048576):WrS m:=by
 unfold szS at h;have hB:(1048576:Nat)<=BIG:=dc
 have l1:=X5 (f:=szN) (λe=>by unfold szN;omega) m.enums;have l2:=X5 (f:=szD) (λe=>by unfold szD;omega) m.vars;have l3:=X5 (f:=szP) (λe=>by unfold szP;omega) m.procs;refine⟨om,λe he=>?_,om,λd hd=>?_,om,λp hp=>?_⟩
 ·have h0:=X4 (f:=szN) he;have e0:szN e=e.name.length+(e.vals.map szV).sum+1:=rfl;have lv:=X5 (f:=szV) (λe=>by unfold szV;omega) e.vals;refine⟨om,om,λv hv=>?_⟩;have h1:=X4 (f:=szV) hv;have e1:szV v=v.length+1:=rfl;omega
 ·have h0:=X4 (f:=szD) hd;have e0:szD d=d.name.length+d.ty.length+zg d.begins+1:=rfl;have:=jmi d.begins;refine⟨om,om,om,λx hx=>?_⟩;have:=jjE hx;omega
 ·have h0:=X4 (f:=szP) hp;have e0:szP p=p.name.length+(p.rules.map szR).sum+1:=rfl;have lr:=X5 (f:=szR) (λe=>by unfold szR;omega) p.rules;refine⟨om,om,λr hr=>?_⟩;have h1:=X4 (f:=szR) hr;have e1:szR r=szE r.when+(r.acts.map szA).sum+1:=rfl;have la:=X5 (f:=szA) (λe=>by unfold szA;omega) r.acts;refine⟨om,om,λa ha=>?_⟩;have h2:=X4 (f:=szA) ha;have e2:szA a=a.name.length+szE a.to+1:=rfl;omega
section
variable {st:St} {K:AV->St->Prop}
theorem jlj (a b c:AV):ji (WC 0 (.tup [a,b,c]) st) K=K a st:=nr rfl
theorem jli (a b c:AV):ji (WC 1 (.tup [a,b,c]) st) K=K b st:=nr rfl
theorem jlh (a b c:AV):ji (WC 2 (.tup [a,b,c]) st) K=K c st:=nr rfl
end
theorem jaW {l f:List Nat}(h:(Js l f).c=0):VarsOK (Js l f).m.vars (Js l f).m.enums/\YL (Js l f).m.vars:=by
 unfold Js at h ⊢;by_cases h1:(zO l).2.1≠0
 ·rw[if_pos h1] at h;exact absurd (show((zO l).2.1:Int)=0 from h) om
 ·rw[if_neg h1] at h ⊢;have O:=jcS (l:=l) (by simpa using h1);cases hm:JA (zO l).1 with
  |er a b c=>
   rw[hm] at h;exact absurd h (Kh hm)
  |ok m=>
   rw[hm] at h;dsimp only at h ⊢;by_cases h2:(yD f).2.1≠0
   ·rw[if_pos h2] at h;exact absurd (show((yD f).2.1:Int)=0 from h) om
   ·rw[if_neg h2] at h ⊢;cases hr:yU m.1.vars m.1.enums true (yD f).1 2 [] with
    |er a b c=>
     rw[hr] at h;exact absurd h (Yo hr)
    |ok y=>exact⟨jlD O hm,jmH hm⟩
end Go.Sy
end
noncomputable section
namespace Go.Sy
open Go.Ev Go.RowKit
def Lw (lo hi:Nat)(s:St)(v:AV)(n:Nat)(cs:List AV)(z:Nat):Prop:=∃ b ex,v=.slice b 0 n n z ex/\(ex=true->n=0)/\cs.length=n * z/\Cl s b cs/\lo<=b/\b<hi
theorem Lw.new {s:St}{z lo hi:Nat}(h1:lo<=s.nx)(h2:s.nx<hi):Lw lo hi (nw s []) (.slice s.nx 0 0 0 z true) 0 [] z:=⟨s.nx,true,rfl,λ_=>rfl,by simp,Cl.new s [],h1,h2⟩
theorem Lw.fz {lo hi n z m d:Nat}{s:St}{v:AV}{cs:List AV}(h:Lw lo hi s v n cs z)(hm:m<=lo)(hp:cs.all pc=true):FzD m (d+2) s v (.lst n cs):=by
 obtain⟨b,ex,rfl,_,h3,h4,h5,h6⟩:=h;refine FzD.slice h4.rw_ (QaS h3.symm) om ?_;rw[<-h3,Qah];exact FzsD.pc hp
theorem Lw.nwO {lo hi n z:Nat}{s:St}{v:AV}{cs:List AV}(h:Lw lo hi s v n cs z)(ds:List AV):Lw lo hi (nw s ds) v n cs z:=by
 obtain⟨b,ex,h1,h2,h3,h4,h5,h6⟩:=h;exact⟨b,ex,h1,h2,h3,h4.nw ds,h5,h6⟩
structure ApL (lo:Nat)(s s':St):Prop where
 nx:s.nx<=s'.nx
 fr:s'.fr=s.fr
 hp:∀ c,c<lo->c<s.nx->jx s'.h c=jx s.h c
theorem ApL.cl {lo:Nat}{s s':St}(a:ApL lo s s')(c:Nat)(ds:List AV)(hc:c<lo)(C:Cl s c ds):Cl s' c ds:=C.keep a.nx (a.hp c hc C.lt)
theorem Lw.keep {lo hi lo2 n z:Nat}{s s':St}{v:AV}{cs:List AV}(h:Lw lo hi s v n cs z)(a:ApL lo2 s s')(hh:hi<=lo2):Lw lo hi s' v n cs z:=by
 obtain⟨b,ex,h1,h2,h3,h4,h5,h6⟩:=h;exact⟨b,ex,h1,h2,h3,a.cl b cs om h4,h5,h6⟩
theorem ApL.nwO (s:St)(ds:List AV):ApL s.nx s (nw s ds):=⟨by rw[je];omega,by rw[Zo],λc hc h=>yn om⟩
theorem ApL.trans {lo lo2:Nat}{s t u:St}(a:ApL lo s t)(b:ApL lo2 t u)(h:lo<=lo2):ApL lo s u:=⟨ψ a.nx b.nx,b.fr.trans a.fr,λc hc h=>(b.hp c om (Qat h a.nx)).trans (a.hp c hc h)⟩
theorem jtN {lo hi n z n2 bytes:Nat}{s:St}{v:AV}{cs cs2:List AV}(h:Lw lo hi s v n cs z)(hhi:hi<=s.nx)(hl:cs2.length=n2 * z)(hz:0<z)(hby:(n+n2) * bytes<=140737488355328)(h63:n+n2<=9223372036854775807) :
  ∃ v' s',(∀ K:AV->St->Prop,ji (Xo z bytes v (.lst n2 cs2) s) K=K v' s')/\Lw lo s'.nx s' v' (n+n2) (cs ++ cs2) z/\ApL lo s s':=by
 obtain⟨b,ex,rfl,hex,h3,h4,h5,h6⟩:=h;obtain⟨m',zl',zz',ks',hg'⟩:=h4.row;have h4l:=h4.len;rw[zX hg'] at h4l;have e1:Qck (Qcm n2 z) (jP cs2)=true:=qD (by rw[jO];exact QaS hl.symm);have e2:yi cs2 (Qcm n2 z)=cs2:=by rw[qW];exact(by rw[show Qcm n2 z=cs2.length from hl.symm,Qah])
 have e3:Qci (jP cs2) (Qcm n2 z)=true:=YJ (by rw[jO];exact hl);by_cases h0:n2=0
 ·subst h0;have hc:cs2=[]:=List.length_eq_zero_iff.1 om;subst hc;refine⟨_,s,λK=>?_,⟨b,ex,rfl,by simpa using hex,by simpa using h3,by simpa using h4,h5,om⟩,⟨μ _,rfl,λ_ _ _=>rfl⟩⟩;have e4:Qck (Qcl n 0) n=true:=qD (μ _);have e5:Qci 0 0=true:=rfl;simp only[Xo,JN,firstCells,e1,cond_true,e2,qS,e3,hg',yh,jE,e4,e5,ji];rfl
 ·have e4:Qck (Qcl n n2) n=false:=jfw (by show n<n+n2;omega);have e5:Qck (Qcm (Qcl n n2) bytes) 140737488355328=true:=qD hby;have e6:Qck (Qcl n n2) 9223372036854775807=true:=qD h63;cases ex with
  |true=>
   have hn:=hex rfl;subst hn;have hc:cs=[]:=List.length_eq_zero_iff.1 om;subst hc;have e7:Qck (Qcl 0 (Qcm 0 z)) m'=true:=qD (by show 0+0 * z<=m';omega);have e8:jT zl' zz' ks' (Qcm 0 z) 0=[]:=by rw[qy,show Qcm 0 z=0 from QaP z];rfl
   have e9:yS [] cs2=cs2:=by rw[yv];rfl
   refine⟨.slice s.nx 0 (0+n2) (0+n2) z false,nw s cs2,λK=>?_,⟨s.nx,false,rfl,(λh=>by cases h),by rw[Qaj,hl,Qag],Cl.new s _,om,by rw[je];omega⟩,⟨by rw[je];omega,by rw[Zo],λc hc h=>yn om⟩⟩;simp only[Xo,JN,firstCells,e1,cond_true,e2,qS,e3,hg',yh,jE,e4,e5,e6,cond_false,e7,e8,e9,St.alloc_eq,ji];conv=>rhs;unfold nw
   rw[show Qcm (Qcl 0 n2) z=cs2.length by rw[hl];exact congrArg (· * z) (Qag n2)];rfl
  |false=>
   have e7:Qci z z=true:=YJ rfl;have e8:Qci 0 0=true:=rfl;have e9:Qci (Qcm n z) m'=true:=YJ (by rw[h4l,h3];rfl);have e10:Qcm (Qcl n n2) z=m'+cs2.length:=by rw[hl,h4l,h3];exact QaD n n2 z
   have ea:ap s b cs2=⟨s.nx+1,(j1 (jK s.nx)).run (.row (m'+cs2.length) zl' zz' (qj cs2 ks' m')) ((j1 (jK b)).run .dead s.h),min s.dirty b,s.fr⟩:=by
    unfold ap apO;rw[hg']
   have hne:b≠s.nx:=om
   refine⟨.slice s.nx 0 (n+n2) (n+n2) z false,ap s b cs2,λK=>?_,⟨s.nx,false,rfl,(λh=>by cases h),by rw[υ,h3,hl,QaD],h4.ap cs2,om,by rw[ea];exact Qbb _⟩,⟨by rw[ea];exact Qbg _,by rw[ea],λc hc h=>gT om om⟩⟩;simp only[Xo,JN,firstCells,e1,cond_true,e2,qS,e3,hg',yh,jE,e4,e5,e6,cond_false,e7,e8,e9,St.put_eq,St.alloc_eq,ji];rw[e10,ea];rfl
end Go.Sy
end
noncomputable section
set_option maxRecDepth 100000
namespace Go.Sy
def bt (n:Int)(i:Nat):Bool:=decide (n / 2 ^ i % 2=1)
def Jw (lo hi:Int)(w:Nat):Prop:=-(2 ^ (w - 1))<=lo/\hi<2 ^ (w - 1)
theorem p2 (k:Nat):(0:Int)<2 ^ k:=Int.pow_pos dc
theorem V8 (n:Int)(k:Nat):n % 2 ^ (k+1)=n % 2 ^ k+if bt n k then 2 ^ k else 0:=by
 have hq:=p2 k;unfold bt;rw[Int.pow_succ];generalize (2:Int) ^ k=q at hq;have h1:=Int.mul_ediv_add_emod n q;have h2:=Int.mul_ediv_add_emod (n / q) 2;have h3:=Int.emod_nonneg n (show q≠0 by omega);have h4:=Int.emod_lt_of_pos n hq;have h7:n=(n % q+q * (n / q % 2))+(q * 2) * (n / q / 2):=by
  rw[Int.mul_assoc,Int.add_assoc,<-Int.mul_add,Int.add_comm (n / q % 2),h2,Int.add_comm];exact h1.symm
 have h8:n / q % 2=0\/n / q % 2=1:=om
 have h9:((n % q+q * (n / q % 2))+(q * 2) * (n / q / 2)) % (q * 2)=n % q+q * (n / q % 2):=by
  rw[Int.add_mul_emod_self_left];refine Int.emod_eq_of_lt ?_ ?_<;>rcases h8 with e|e<;>rw[e]<;>omega
 rw[<-h7] at h9;rw[h9];rcases h8 with e|e<;>rw[e]<;>simp
theorem V7 (n:Int)(k:Nat):0<=n % 2 ^ k/\n % 2 ^ k<2 ^ k:=⟨Int.emod_nonneg _ (by have:=p2 k;omega),Int.emod_lt_of_pos _ (p2 k)⟩
theorem uQ {n:Int}{w i:Nat}(h:Jw n n w)(hi:w - 1<=i):bt n i=decide (n<0):=by
 have hq:=p2 i;have hle:(2:Int) ^ (w - 1)<=2 ^ i:=by
  have:=Qbq (n:=2) dc hi
  exact_mod_cast this
 obtain⟨h1,h2⟩:=h;unfold bt;generalize (2:Int) ^ i=q at hq hle;by_cases h0:0<=n
 ·rw[Int.ediv_eq_zero_of_lt h0 om];simp;omega
 ·have e:n / q=-1:=by
   have e1:=Int.mul_ediv_add_emod n q;have e3:=Int.emod_nonneg n (show q≠0 by omega);have e4:=Int.emod_lt_of_pos n hq;have e5:n / q<0:=Int.ediv_neg_of_neg_of_pos om hq;have e6 : -1<=n / q:=by
    rcases Int.lt_or_le (n / q) (-1) with h|h
    ·have:q * (n / q)<=q * (-2):=Int.mul_le_mul_of_nonneg_left om om;omega
    ·exact h
   omega
  rw[e];simp;omega
theorem vj {n:Int}{w:Nat}(h:Jw n n w)(hw:1<=w):n=n % 2 ^ w - if bt n (w - 1) then 2 ^ w else 0:=by
 obtain⟨k,rfl⟩:∃ k,w=k+1:=⟨w - 1,om⟩;have e:=uQ h (μ _);obtain⟨h1,h2⟩:=h;rw[QbY] at *;rw[e,Int.pow_succ];have hq:=p2 k;generalize (2:Int) ^ k=q at *;by_cases h0:0<=n
 ·rw[Int.emod_eq_of_lt h0 om];simp;omega
 ·have e2:n % (q * 2)=n+q * 2:=by
   have e:(n+q * 2) % (q * 2)=n % (q * 2):=Int.add_emod_right ..;rw[<-e];exact Int.emod_eq_of_lt om om
  rw[e2];simp;omega
theorem jdq {a b n:Int}{v w:Nat}(h:Jw a b v)(h1:a<=n)(h2:n<=b)(hw:v<=w):Jw n n w:=by
 have:(2:Int) ^ (v - 1)<=2 ^ (w - 1):=by
  have:=Qbq (n:=2) dc (Nat.sub_le_sub_right hw 1)
  exact_mod_cast this
 exact⟨by have:=h.1;omega,by have:=h.2;omega⟩
theorem jm5 {n m:Int}{w:Nat}(hw:1<=w)(h:Jw n n w)(k:Jw m m w):((Qab w).all λi=>bt n i == bt m i)=decide (n=m):=by
 by_cases e:n=m
 ·subst e;simp
 ·rw[decide_eq_false e,Qce];intro ha;rw[Qae] at ha;have hb:∀ i,i<w->bt n i=bt m i:=λi hi=>by simpa using ha i (Qbp.2 hi)
  have key:∀ j,j<=w->n % 2 ^ j=m % 2 ^ j:=by
   intro j;induction j with
   |zero=>intro _;simp[Int.emod_one]
   |succ j ih=>intro hj;rw[V8,V8,ih om,hb j om]
  refine e ?_;rw[vj h hw,vj k hw,key w (μ _),hb (w - 1) om]
def QG (p q:Nat->Bool):Nat->Bool
 |0=>false
 |k+1=>if p k=q k then QG p q k else q k
theorem GO (n m:Int):∀ k,QG (bt n) (bt m) k=decide (n % 2 ^ k<m % 2 ^ k)
 |0=>by simp[QG,Int.emod_one]
 |k+1=>by
  have h1:=V7 n k;have h2:=V7 m k;rw[QG,GO n m k,V8,V8];generalize (2:Int) ^ k=q at *;cases bt n k<;>cases bt m k<;>simp<;>omega
theorem UE {p q p' q':Nat->Bool}:∀ {k:Nat},(∀ i,i<k->p i=p' i/\q i=q' i)->QG p q k=QG p' q' k
 |0,_=>rfl
 |k+1,h=>by
  rw[QG,QG,(h k om).1,(h k om).2,UE λi hi=>h i om]
def swp (w:Nat)(p q:Nat->Bool)(i:Nat):Bool:=if i=w - 1 then q i else p i
theorem jmK {n m:Int}{w:Nat}(hw:1<=w)(h:Jw n n w)(k:Jw m m w):QG (swp w (bt n) (bt m)) (swp w (bt m) (bt n)) w=decide (n<m):=by
 obtain⟨j,rfl⟩:∃ j,w=j+1:=⟨w - 1,om⟩;have e1:=vj h hw;have e2:=vj k hw;have s1:=uQ h (μ _);have s2:=uQ k (μ _);have b1:=V7 n j;have b2:=V7 m j;rw[QG,UE (p':=bt n) (q':=bt m) λi hi=>by
  unfold swp;rw[if_neg om,if_neg om];exact⟨rfl,rfl⟩,GO]
 unfold swp;rw[QbY] at *;rw[V8,Int.pow_succ] at e1 e2;rw[if_pos rfl,if_pos rfl,s1,s2];rw[s1] at e1;rw[s2] at e2;generalize (2:Int) ^ j=q at *;by_cases n0:n<0<;>by_cases m0:m<0<;>simp[n0,m0] at e1 e2 ⊢<;>omega
def wd (lo hi:Int):Nat:=match (Qab 32).find? λk=>decide (-(2 ^ k:Int)<=lo/\hi<2 ^ k) with
 |some k=>k+1
 |none=>0
theorem vD {lo hi:Int}(h1 : -100000000<=lo)(h2:hi<=100000000):1<=wd lo hi/\wd lo hi<=32/\Jw lo hi (wd lo hi)/\∀ j,j<wd lo hi - 1->¬ (-(2 ^ j:Int)<=lo/\hi<2 ^ j):=by
 unfold wd;cases e:(Qab 32).find? λk=>decide (-(2 ^ k:Int)<=lo/\hi<2 ^ k) with
 |none=>
  rw[List.find?_eq_none] at e;have:=e 27 dc;simp at this;omega
 |some k=>
  obtain⟨h3,aZ,bs,h4,h5⟩:=List.find?_eq_some_iff_append.1 e;have hk:k∈Qab 32:=by rw[h4];simp
  have hk:=Qbp.1 hk;refine⟨by simp,by simp;omega,by simpa[Jw] using h3,λj hj=>?_⟩;have hl:aZ.length=k:=by
   have:(Qab 32)[aZ.length]? = some k:=by rw[h4];simp
   rw[QbS (by have:=congrArg List.length h4;simp at this;omega)] at this;simpa using this
  have:aZ[j]? = some j:=by
   have e2:(Qab 32)[j]? = aZ[j]?:=by rw[h4,QbB (by simp at hj;omega)]
   rw[<-e2,QbS (by simp at hj;omega)]
  exact of_decide_eq_false (by simpa only[QaI] using h5 j (List.mem_of_getElem? this))
theorem jrg {lo hi n:Int}(h1 : -100000000<=lo)(h2:hi<=100000000)(h3:lo<=n)(h4:n<=hi):wd n n<=wd lo hi:=by
 obtain⟨a1,a2,a3,a4⟩:=vD (lo:=lo) (hi:=hi) h1 h2;obtain⟨b1,b2,b3,b4⟩:=vD (lo:=n) (hi:=n) om om;rcases Qar (wd lo hi) (wd n n) with h|h
 ·exact absurd ⟨by have:=a3.1;omega,by have:=a3.2;omega⟩ (b4 (wd lo hi - 1) om)
 ·exact h
open Go.Ev Go.RowKit
def bE (l:List AV):List AV:=[.lst l.length l]
def InB (s:St)(lo hi b0:Nat):List AV->List (List AV)->Prop
 |[],[]=>True
 |x :: xs,l :: ls=>(∃ c ex,x=.slice c 0 l.length l.length 1 ex/\Cl s c l/\lo<=c/\c<hi/\c≠b0/\l.all pc=true)/\InB s lo hi b0 xs ls
 |_,_=>False
section
variable {s s':St} {lo hi b0:Nat}
theorem InB.keep {hi' b1:Nat}(a:∀ c ds,lo<=c->c<hi->c≠b0->Cl s c ds->Cl s' c ds/\c<hi'/\c≠b1):∀ {xs:List AV} {ls:List (List AV)},InB s lo hi b0 xs ls->InB s' lo hi' b1 xs ls
 |[],[],_=>trivial
 |x :: xs,l :: ls,⟨⟨c,ex,h1,h2,h3,h4,h5,h6⟩,h7⟩=>have k:=a c l h3 h4 h5 h2;⟨⟨c,ex,h1,k.1,h3,k.2.1,k.2.2,h6⟩,InB.keep a h7⟩
 |[],_ :: _,h=>h.elim
 |_ :: _,[],h=>h.elim
theorem InB.app {x:AV}{l:List AV}(h:∃ c ex,x=.slice c 0 l.length l.length 1 ex/\Cl s c l/\lo<=c/\c<hi/\c≠b0/\l.all pc=true):∀ {xs:List AV} {ls:List (List AV)},InB s lo hi b0 xs ls->InB s lo hi b0 (xs ++ [x]) (ls ++ [l])
 |[],[],_=>⟨h,trivial⟩
 |y :: xs,k :: ls,q=>⟨q.1,InB.app h q.2⟩
 |[],_ :: _,q=>q.elim
 |_ :: _,[],q=>q.elim
theorem InB.fz {m d:Nat}(hm:m<=lo):∀ {xs:List AV} {ls:List (List AV)},InB s lo hi b0 xs ls->FzsD m (d+2) s xs (fl bE ls)
 |[],[],_=>FzsD.nil
 |x :: xs,l :: ls,⟨⟨c,ex,h1,C,h3,h4,_,h5⟩,h6⟩=>by
  subst h1;refine FzsD.cons (FzD.slice C.rw_ om om ?_) (InB.fz hm h6);rw[QaB,Qah];exact FzsD.pc h5
 |[],_ :: _,h=>h.elim
 |_ :: _,[],h=>h.elim
theorem InB.len:∀ {xs:List AV} {ls:List (List AV)},InB s lo hi b0 xs ls->xs.length=ls.length
 |[],[],_=>rfl
 |x :: xs,l :: ls,h=>by rw[ν,ν,InB.len h.2]
 |[],_ :: _,h=>h.elim
 |_ :: _,[],h=>h.elim
def LB (lo hi:Nat)(s:St)(v:AV)(ls:List (List AV)):Prop:=(v=.nils/\ls=[])\/∃ b cs,v=.slice b 0 ls.length ls.length 1 false/\0<ls.length/\Cl s b cs/\lo<=b/\b<hi/\InB s lo hi b cs ls
variable {v:AV} {ls:List (List AV)}
theorem LB.keep {lo2 hi':Nat}(h:LB lo hi s v ls)(a:ApL lo2 s s')(hh:hi<=lo2)(h2:hi<=hi'):LB lo hi' s' v ls:=h.imp id λ⟨b,cs,h1,h0,C,h3,h4,I⟩=>⟨b,cs,h1,h0,a.cl _ _ om C,h3,om,I.keep λc ds _ k k2 D=>⟨a.cl c ds om D,om,k2⟩⟩
theorem LB.fz {m d:Nat}(h:LB lo hi s v ls)(hm:m<=lo):FzD m (d+3) s v (.lst ls.length (fl bE ls)):=by
 rcases h with ⟨rfl,rfl⟩|⟨b,cs,rfl,h0,C,h3,h4,I⟩
 ·exact FzD.nils
 ·have hl:=I.len;refine FzD.slice C.rw_ om om ?_;rw[QaB,<-hl,Qah];exact I.fz hm
theorem LB.app {bytes bv xc c:Nat}{xx ex:Bool}{l:List AV}(h:LB lo hi s v ls)(C:Cl s bv [.slice c 0 l.length l.length 1 ex])(D:Cl s c l)(hp:l.all pc=true)(hcb:hi<=c)(hhi:lo<=hi)(hby:(ls.length+1) * bytes<=140737488355328)(h63:ls.length+1<=9223372036854775807) :
  ∃ v' s',(∀ K:AV->St->Prop,ji (Xo 1 bytes v (.slice bv 0 1 xc 1 xx) s) K=K v' s')/\LB lo s'.nx s' v' (ls ++ [l])/\s.nx<=s'.nx/\s'.fr=s.fr/\∀ b,(b<lo\/hi<=b)->b<s.nx->jx s'.h b=jx s.h b:=by
 have hn:=D.lt;have hr:rats s.h bv 0 1=[.slice c 0 l.length l.length 1 ex]:=by have:=C.ratsP 1 0 (by simp);simpa using this
 have V:∃ cs,Lv lo hi s v ls.length cs 1/\cs.length=ls.length/\∀ s':St,(∀ c ds,lo<=c->c<hi->(∀ b n m x,v=.slice b 0 n m 1 x->c≠b)->Cl s c ds->Cl s' c ds)->InB s' lo (s.nx+1) s.nx cs ls:=by
  rcases h with ⟨rfl,rfl⟩|⟨b,cs,rfl,h0,C,h3,h4,I⟩
  ·exact⟨[],Lv.nil,rfl,λ_ _=>trivial⟩
  ·exact⟨cs,.inr ⟨b,rfl,h0,by have:=I.len;omega,C,h3,h4⟩,I.len,λs' a=>I.keep λc ds k1 k2 k3 E=>⟨a c ds k1 k2 (λb n m x e=>by injection e with e1;exact e1▸k3) E,om,om⟩⟩
 obtain⟨cs,V,hl,I⟩:=V;refine⟨_,_,λK=>JR V dc hby h63 (by rw[C.len];exact μ 1),?_,by rw[jk];omega,YA _ _ _,λb hb hn=>V.get s _ b hb hn⟩;rw[hr,jk];have W:=V.app (news:=[.slice c 0 l.length l.length 1 ex]) rfl om;rcases W with ⟨_,e,_⟩|⟨b,e,h0,h1,E,h3,h4⟩
 ·exact absurd e (Nat.succ_ne_zero _)
 ·have eb:b=s.nx:=by
   unfold apv at e;split at e<;>(injection e with e1;exact e1.symm)
  subst eb;refine .inr ⟨_,_,by rw[υ];exact e,by rw[υ];omega,E,om,om,InB.app ⟨c,ex,rfl,D.aps V (.inr hcb),om,om,om,hp⟩ (I _ λd ds k1 k2 k3 F=>?_)⟩;unfold Go.Sy.aps;split
  ·rcases V with ⟨e,_⟩|⟨b',e,_⟩
   ·cases e
   ·have h1:=k3 _ _ _ _ e;injection e with e1
    exact F.apO om
  ·exact F.nw _
end
end Go.Sy
end
noncomputable section
set_option maxRecDepth 100000
namespace Go.Sy
open Go.Ev Go.Proofs
def zw9:XC:=(ou [IS 1 0,o9 2 [.nils,.nils,.nils],Os 3] (Oz [o6 10 3 1,Ou 11 37 10,oy 9 11,O0 12 9,O1 13 9,Tw 12,oz 5 13] [oy 14 5,OG 15 .neq 14 oB,oy 16 15,Ok 17 16 4,Ip 18 16 (.lenS 17),Td 19 16 .gtr 18 5000,On 20 16 I7 19] 20 [IA 21 [.nils,.nils,.nils] [],o7 3 2 21,Os 3] (oX [Tc 23,OE 24 36 23 (oY [116,114,117,101]),oy 22 24,O0 25 22,O1 26 22,Ia 27 22 2,o9 6 [.nils,.nils,.nils],ol 7 (.alloc (OY oB oB oH oB oB)),o9 8 [oB,oB,oB],o7 3 6 25,o7 6 7 26,o7 3 8 27] (.dops [OV 28 3 6 6 32 [],OV 29 3 8 8 71 [],IH (IA 30 [oB,oB,oB] []),IH (ol 31 (.gen .eql 71 false 29 30)),Tu 32 31,IE (Iq 33 32 (.ldA 3 6)) 6 32 [],(Iw (OS 34 (32,true) 33 [] [33]) 0 [(5,32)],I6),IH (Iq 35 32 (o8 .leq 34 1000)),IH (Ts 36 32 35),TC 3 2 28 [],IH (oz 3 36)]) .ret)))
def yw9:XF:=⟨[0],zw9,[(.cA 2 3),(.t 3)]⟩
theorem xw9:jv γ 9=some yw9:=by kernel_rfl
def jiG:XC:=(ou [IS 2 0,Os 4] (IX [OP 7,IR 8 7,ON 9 2,oF 10 9,IR 11 10,IU 12 .eql 8 11,oz 5 12] (IV [IJ 6] 0 (.seq (oL [oy 13 5,oy 14 13,I5 15 14 6,I5 16 14 1,Iq 17 14 (.len 16),Iq 18 14 (.bin .lss 15 17),On 19 14 18 Oj] 19 .skip (.exit 0)) (II 1 (.cops [Is (ON 22 2),OM 23 22,Om 24 6,Is (Ig 25 7 23 24),Is (Tf 26 25),OM 27 26,Om 28 1,Om 29 6,Is (TJ 30 28 29),OM 31 30,Is (IU 32 .leq 27 31),Om 33 32,Is (I5 34 33 1),Is (I5 35 33 6),Is (Iq 36 33 (.idxS 1 34 35)),Is (O2 37 33 36),Is (Te 38 33 0 2),Is (O2 39 33 38),Is (I5 40 33 6),Is (Iq 41 33 (.idxS 7 39 40)),Is (Te 42 33 4 41),Is (O2 43 33 42),Is (Iq 44 33 (.bin .leq 37 43)),Is (Ts 45 33 44),Is (oz 5 45)]) [oy 20 6,IP 21 20 1,oz 6 21]))) (OU 46 5 4 46)))
def jnP:XF:=⟨[0,1],jiG,[(.t 4)]⟩
theorem jsS:jv γ 10=some jnP:=by kernel_rfl
def jiF:XC:=(Oq [oK 0 .nilp] [ol 1 (.mkS 2 8 [Ox,Ox] OT OT),ol 2 .mkMap,IA 3 [.nils,.nils,.nilm] [((0,1),1),((2,1),2)],ol 4 (.box 3),oz 0 4])
def jnO:XF:=⟨[],jiF,[(.t 0)]⟩
theorem jsR:jv γ 11=some jnO:=by kernel_rfl
def jiE:XC:=(Oz [IS 2 0,OH 4,IJ 5] [o6 11 3 2,OP 12,OE 13 38 11 12,Tn 14 13] 14 [OH 4,Ol 5 191] (Tq [OH 6] [ON 15 2,Ot 16 15,IQ 17 16,IJ 18] 0 19 18 17 19 0 1 [oy 20 18,Ig 21 7 16 18,o6 22 7 21,o9 8 [oH,oB,oH,oB,oB,oV,oB],oz 7 20,o7 7 8 22] (Oz [OP 24,oy 25 7,TJ 26 24 25,oF 27 26,Ou 28 39 27,oy 23 28,O0 29 23,O1 30 23,oz 9 29,oz 10 30] [oy 31 10,Tg 32 31] 32 [OH 4,Ol 5 191] (.seq (ou [oy 34 9,Tf 35 8,oF 36 35,oD 37 4 8,oF 38 37,OE 39 41 36 38,OE 40 40 34 39,oy 33 40,O0 41 33,O1 42 33,oz 9 41,oz 10 42] (ID [oy 43 10,Tg 44 43] 44 [OH 4,Ol 5 191])) (.ops [oy 45 6,oy 46 9,TI 47 1 .nils [((0,1),46)],OW 48 1 24 45 47,oz 6 48]))) 49 18 1 18 49 [oy 50 6,Tw 50,IJ 5]))
def jnN:XF:=⟨[0,1],jiE,[(.t 4),(.t 5)]⟩
theorem jsQ:jv γ 12=some jnN:=by kernel_rfl
def jiD:XC:=(ou [oK 6 Ox,o9 7 [oB]] (Oz [o5 (.defer (oQ 42 []) [7])] [OP 10,IR 11 10,oy 12 2,IR 13 12,IG 14 .neq 11 13] 14 [oK 6 Ox,TK 7 (IM 191)] (IX [oK 8 (IB 1)] (Oh [OP 15,IQ 16 15,IJ 17] 0 (Tp 18 17 16) 18 0 1 (oX (OU 19 17 9 19) (.seq (.cops [Om 20 1,Om 21 9,Is (TJ 22 20 21),OM 23 22,Is (IR 24 23),Om 25 2,Om 26 9,Is (TJ 27 25 26),OM 28 27,Is (IR 29 28),Is (IG 30 .neq 24 29)]) (Tl 30 [oK 6 Ox,TK 7 (IM 191)] .skip)) (.cops [O9 31,Om 32 8,O9 33,Om 34 1,Om 35 9,Is (TJ 36 34 35),OM 37 36,Om 38 2,Om 39 9,Is (TJ 40 38 39),OM 41 40,(Ie 42 45 [33,37,41],I6),Is (O0 43 42),Is (O1 44 42),(OE 45 43 43 44,I6),Is (TI 46 2 Ox [((0,1),32),((1,1),45)]),(OE 47 44 31 46,I6),Is (O0 48 47),Is (O1 49 47),(OE 50 43 48 49,I6),Is (oz 8 50)])) 51 17 1 17 51) [oy 52 8,oz 6 52,TK 7 Ov])))
def jnM:XF:=⟨[0,1,2],jiD,[(.t 6),(.c1 7)]⟩
theorem jsP:jv γ 13=some jnM:=by kernel_rfl
def jiC:XC:=(ou [IS 4 1,oK 6 Ox,o9 7 [oB]] (Oq [o5 (.defer (oQ 42 []) [7])] [Ix 8,o6 9 3 4,IA 10 [.nilp,.nils,.nils,.nils] [((0,1),8),((1,3),9)],ol 11 (.box 10),oy 12 2,OE 13 46 11 12,oz 6 13,TK 7 Ov]))
def jnL:XF:=⟨[0,1,2],jiC,[(.t 6),(.c1 7)]⟩
theorem jsO:jv γ 14=some jnL:=by kernel_rfl
def jiB:XC:=(ou [Os 8,Os 9] (IX [Ix 13,OP 14,oy 15 2,TI 16 1 Ox [((0,1),15)],Ie 17 47 [13,14,16],oy 12 17,O0 18 12,O1 19 12,oz 10 18,oz 11 19] (ID [oy 20 3,OG 21 .neq 20 oB,oy 22 21,Ok 23 22 11,Ip 24 22 (oG .neq 23 oB),Iy 25 22 I7 24,oy 26 25,Ok 27 26 10,Ip 28 26 (.len 27),Td 29 26 .neq 28 1,On 30 26 I7 29] 30 [Os 8,Os 9]) [oy 31 10,TJ 32 31 Ov,oF 33 32,oz 8 33,oK 9 Ik]))
def jnK:XF:=⟨[0,1,2,3],jiB,[(.t 8),(.t 9)]⟩
theorem jsN:jv γ 15=some jnK:=by kernel_rfl
def jiA:XC:=(ou [OH 6,IJ 7] (Tq [OH 8] [oz 13 2,IQ 14 13,IJ 15] 0 16 15 14 16 0 1 [TJ 17 13 15,oF 18 17,oz 10 18] (Oz [Ix 20,OP 21,oy 22 10,Ie 23 48 [20,21,22],oy 19 23,O0 24 19,O1 25 19,oz 11 24,oz 12 25] [oy 26 12,Tg 27 26] 27 [OH 6,Ol 7 191] (.ops [oy 28 8,oy 29 11,TI 30 1 oB [((0,1),29)],OW 31 1 8 28 30,oz 8 31])) 32 15 1 15 32 [oy 33 8,oz 6 33,IJ 7]))
def jnJ:XF:=⟨[0,1,2],jiA,[(.t 6),(.t 7)]⟩
theorem jsM:jv γ 16=some jnJ:=by kernel_rfl
def jiz:XC:=(Oz [Os 4] [Ix 6,IR 7 6,OP 8,IR 9 8,IG 10 .neq 7 9] 10 [Os 4] (TG (Oh [Ix 11,IQ 12 11,IJ 13] 0 (Tp 14 13 12) 14 0 1 (oX (OU 15 13 5 15) (.cops [O9 16,Om 17 5,Is (TJ 18 16 17),OM 19 18,Om 20 1,Om 21 5,Is (TJ 22 20 21),OM 23 22,Is (IG 24 .neq 19 23)]) (Tl 24 [Os 4] .skip)) 25 13 1 13 25) [oK 4 Ik]))
def jnI:XF:=⟨[0,1],jiz,[(.t 4)]⟩
theorem jsL:jv γ 17=some jnI:=by kernel_rfl
def jiy:XC:=(Oz [IS 2 0,Os 4] [OP 7,IR 8 7,ON 9 2,oF 10 9,IR 11 10,IG 12 .neq 8 11] 12 [Os 4] (TG (Oh [ON 13 2,Ot 14 13,IQ 15 14,IJ 16] 0 (Tp 17 16 15) 17 0 1 (oX [oy 18 16,Ig 19 7 14 16,o6 20 7 19,o9 6 [oH,oB,oH,oB,oB,oV,oB],oz 5 18,o7 7 6 20] (.cops [Om 21 1,Om 22 5,Is (TJ 23 21 22),OM 24 23,Is (Tf 25 6),OM 26 25,Is (IU 27 .lss 24 26),Om 28 27,Is (Ok 29 28 1),Is (Ok 30 28 5),Is (Ip 31 28 (.idxS 1 29 30)),Is (OI 32 28 31),Is (OL 33 28 4 6),Is (OI 34 28 33),Is (Ip 35 28 (.bin .gtr 32 34)),Is (On 36 28 I7 35)]) (Tl 36 [Os 4] .skip)) 37 16 1 16 37) [oK 4 Ik]))
def jnH:XF:=⟨[0,1],jiy,[(.t 4)]⟩
theorem jsK:jv γ 38=some jnH:=by kernel_rfl
def jix:XC:=(ou [OH 2,IJ 3] (Oz [Ix 7,Ix 8,OE 9 41 7 8,Tw 9] [Tc 10,Tb 11 .eql 10] 11 [OH 2,Ol 3 111] (Tq [Tc 12,ol 13 (.mkS 1 4 [Ox] 12 12),oz 5 13] [oy 14 5,IQ 15 14,IJ 16] 0 17 16 15 17 0 1 (OU 18 16 6 18) (.ops [oy 19 5,oy 20 6,Ix 21,oy 22 6,ol 23 (.shf .shr 21 22),Ij 24 .and 23 1,ol 25 (.cvt .u32 24),TJ 26 19 20,TK 26 25]) 27 16 1 16 27 [oy 28 5,O4 28,IJ 3])))
def jnG:XF:=⟨[0],jix,[(.t 2),(.t 3)]⟩
theorem jsJ:jv γ 39=some jnG:=by kernel_rfl
def jiw:XC:=(Oz [OH 4,IJ 5] [Ix 7,TI 8 1 .nils [((0,1),7)],Ou 9 73 8,ol 10 (I0 9),oy 11 10,Ok 12 11 1,Ok 13 11 0,Ip 14 11 (.len 13),Ip 15 11 (.bin .lss 12 14),Iy 16 11 I7 15,oy 17 16,Ok 18 17 1,Td 19 17 .gtr 18 32,On 20 17 I7 19] 20 [OH 4,Ol 5 111] (IX [Ix 21,Ou 22 74 21,oz 6 22] (Id 0 (.seq (oL [oy 23 6,IR 24 23,OP 25,I3 26 24 25] 26 .skip (.exit 0)) (.block 1 (.ops [oy 27 6,Ix 28,Ix 29,IR 30 29,Ij 31 .sub 30 1,TJ 32 28 31,oF 33 32,TI 34 1 Ox [((0,1),33)],OW 35 1 4 27 34,oz 6 35])))) [oy 36 6,Tw 36,IJ 5]))
def jnF:XF:=⟨[0,1],jiw,[(.t 4),(.t 5)]⟩
theorem jsI:jv γ 40=some jnF:=by kernel_rfl
def jiv:XC:=(Oz [IJ 4] [Ix 7,OP 8,IG 9 .gtr 7 8] 9 [IJ 4] (TG (IV [Ol 5 1] 0 (.seq (oL [oy 10 5,O6 11 .leq 10 32] 11 .skip (.exit 0)) (II 1 (ou [oy 14 5,Ij 15 .sub 14 1,ol 16 (.shf .shl OT 15),oz 6 16] (ID [Ix 17,oy 18 6,ol 19 (.un .neg 18),IU 20 .geq 17 19,oy 21 20,I5 22 21 1,I5 23 21 6,Iq 24 21 (.bin .lss 22 23),On 25 21 24 Oj] 25 (OU 26 5 4 26))) [oy 12 5,IP 13 12 1,oz 5 13]))) [IJ 4]))
def jnE:XF:=⟨[0,1],jiv,[(.t 4)]⟩
theorem jsH:jv γ 41=some jnE:=by kernel_rfl
def jiu:XC:=(IX [oK 4 Ox] (Or [OP 5,Tg 6 5] 6 [OP 7,ol 8 (.iface 40 7),o5 (.pan 8)]) (IY (Ix 9) 4 9))
def jnD:XF:=⟨[0,1],jiu,[(.t 4)]⟩
theorem jsG:jv γ 43=some jnD:=by kernel_rfl
def jit:XC:=(Oz [oK 4 Ox,IJ 5] [Ix 11,OP 12,OE 13 75 11 12,Tn 14 13] 14 [oK 4 Ox,Ol 5 101] (Tq [oK 6 (IB 1)] [oz 15 1,IQ 16 15,IJ 17] 0 18 17 16 18 0 1 [TJ 19 15 17,oF 20 19,oz 8 20] (Oz [Ix 22,oy 23 6,oy 24 8,Ie 25 76 [22,23,24],oy 21 25,O0 26 21,O1 27 21,oz 9 26,oz 10 27] [oy 28 10,Tg 29 28] 29 [oy 30 10,oK 4 Ox,oz 5 30] (.ops (OU 31 9 6 31))) 32 17 1 17 32 [oy 33 6,Tw 33,IJ 5]))
def jnC:XF:=⟨[0,1],jit,[(.t 4),(.t 5)]⟩
theorem jsF:jv γ 44=some jnC:=by kernel_rfl
def jis:XC:=(ou [oK 6 Ox,IJ 7] (Oz [Ix 16,OP 17,oy 18 2,Ie 19 77 [16,17,18,Ov],oy 15 19,O0 20 15,O1 21 15,Ia 22 15 2,oz 8 20,oz 9 21,oz 10 22] [oy 23 10,Tg 24 23] 24 [oy 25 10,oK 6 Ox,oz 7 25] (IX [oy 26 8,IR 27 26,ol 28 (.mkS 1 4 [Ox] Ov 27),oz 11 28] (Oh [oy 29 8,IQ 30 29,IJ 31] 0 (Tp 32 31 30) 32 0 1 (oX (OU 33 31 12 33) (.cops [O9 35,Om 36 8,Om 37 12,Is (TJ 38 36 37),OM 39 38,Om 40 9,Om 41 12,Is (TJ 42 40 41),OM 43 42,(Ie 44 78 [35,39,43],I6),Om 34 44,Is (O0 45 34),Is (O1 46 34),Is (oz 13 45),Is (oz 14 46)]) (.seq (ID [oy 47 14,Tg 48 47] 48 [oy 49 14,oK 6 Ox,oz 7 49]) (.ops [oy 50 11,oy 51 13,TI 52 1 Ox [((0,1),51)],OW 53 1 4 50 52,oz 11 53]))) 54 31 1 31 54) [Ix 55,oy 56 11,OE 57 44 55 56,O0 58 57,O1 59 57,oz 6 58,oz 7 59])))
def jnB:XF:=⟨[0,1,2],jis,[(.t 6),(.t 7)]⟩
theorem jsE:jv γ 45=some jnB:=by kernel_rfl
def jir:XC:=(oX [oK 4 Ox] (Or [OP 8,IR 9 8,Ix 10,Iu 11 10,Ta 12 11,ON 13 12,oF 14 13,IR 15 14,IG 16 .neq 9 15] 16 [ol 17 (.iface 40 (IM 191)),o5 (.pan 17)]) (Tq [oK 5 (IB 1)] [Ix 18,Iu 19 18,Ta 20 19,ON 21 20,Ot 22 21,IQ 23 22,IJ 24] 0 25 24 23 25 0 1 [oy 26 24,Ig 27 7 22 24,o6 28 7 27,o9 7 [oH,oB,oH,oB,oB,oV,oB],oz 6 26,o7 7 7 28] (.dops [TF 29,IH (Iu 30 29),IK 31 0 30,O5 32 31 31 36,Tu 33 5,TF 34,IH (OP 35),Tu 36 6,IH (TJ 37 35 36),O5 38 37 37 58,IK 39 3 7,O5 40 39 39 2,IK 41 4 7,O5 42 41 41 2,(Iw (Ie 43 79 [34,38,40,42]) 0 [(10,36)],I6),IH (TI 44 2 Ox [((0,1),33),((1,1),43)]),(Iw (OE 45 44 32 44) 0 [],I6),IH (O0 46 45),IH (O1 47 45),(Iw (OE 48 43 46 47) 0 [],I6),IH (oz 5 48)]) 49 24 1 24 49 (OU 50 5 4 50)))
def jnA:XF:=⟨[0,1],jir,[(.t 4)]⟩
theorem jsD:jv γ 46=some jnA:=by kernel_rfl
def jiq:XC:=(Oz [OH 6,IJ 7] [Ix 17,oy 18 2,OE 19 75 17 18,Tn 20 19] 20 [OH 6,Ol 7 101] (oX [Ix 21,Iu 22 21,ON 23 22,oF 24 23,IR 25 24,ol 26 (.mkS 1 1 [oV] 25 25),o9 8 [.nils],TK 8 26] (Tr [Ix 27,Iu 28 27,Ta 29 28,Ot 30 29,IQ 31 30,IJ 32] 0 33 32 31 33 0 1 [oy 34 32,TJ 35 30 32,oF 36 35,oz 9 34,oz 10 36] (.cops [OM 37 8,Om 38 10,Is (OG 39 .quo 38 (IB 2)),Om 40 9,Om 41 1,Is (IR 42 41),Is (IU 43 .lss 40 42),Om 44 43,Is (I5 45 44 1),Is (I5 46 44 9),Is (Iq 47 44 (.idxS 1 45 46)),Is (O2 48 44 47),Is (Ts 49 44 48),Is (TJ 50 37 39),Is (TK 50 49)]) 51 32 1 32 51) (oX (IY (ol 52 (.fn 80 [8])) 11 52) (Tr [Ix 53,Iu 54 53,ON 55 54,Ot 56 55,IQ 57 56,IJ 58] 2 59 58 57 59 2 3 [oy 60 58,Ig 61 2 56 58,o6 62 2 61,o9 13 [Ox,Ox],oz 12 60,o7 2 13 62] (Ic [o6 63 2 13,IA 64 [Ox,Ox] [],ow 65 (.gen .neq 166 false 63 64)] 65 (.dops [O5 66 8 8 60,Tu 67 12,Tu 68 11,IH (Ow 69 2 1 13 Ov),O5 70 69 69 44,(Iw (oR 71 none 68 [70]) 0 [(4,60)],I6),Tu 72 71,IH (I5 73 72 11),IH (Iq 74 72 (.idxA 2 1 13 OT)),IE (O2 75 72 74) 74 44 [],(Iw (oR 76 (some (72,true)) 73 [75]) 0 [(9,60)],I6),IH (Ts 77 72 76),IH (TJ 78 66 67),TC 1 78 77 []])) 79 58 1 58 79) (Tq [oy 80 2,IR 81 80,ol 82 (.mkS 1 1 [oV] Ov 81),oz 14 82] [oz 83 2,IQ 84 83,IJ 85] 4 86 85 84 86 4 5 [TJ 87 83 85,oF 88 87,oz 16 88] (.ops [oy 89 14,oy 90 11,oy 91 16,oR 92 none 90 [91],TI 93 1 oV [((0,1),92)],OW 94 1 1 89 93,oz 14 94]) 95 85 1 85 95 [oy 96 14,oz 6 96,IJ 7]))))
def jnz:XF:=⟨[0,1,2],jiq,[(.t 6),(.t 7)]⟩
theorem jsC:jv γ 47=some jnz:=by kernel_rfl
def jip:XC:=(Oz [IJ 6,IJ 7] [oy 13 2,TI 14 1 .nils [((0,1),13)],Ou 15 73 14,Tn 16 15] 16 [IJ 6,Ol 7 111] (Oz [Ix 18,OP 19,oy 20 2,Ie 21 47 [18,19,20],oy 17 21,O0 22 17,O1 23 17,oz 8 22,oz 9 23] [oy 24 9,Tg 25 24] 25 [oy 26 9,IJ 6,oz 7 26] (oX [IJ 10] (Tr [oz 27 8,IQ 28 27,IJ 29] 0 30 29 28 30 0 1 [oy 31 29,TJ 32 27 29,oF 33 32,oz 11 31,oz 12 33] (Or [oz 34 12] 34 [oy 35 10,oy 36 11,ol 37 (.shf .shl OT 36),IU 38 .add 35 37,oz 10 38]) 39 29 1 29 39) (TG (Or [oy 40 8,oy 41 8,IR 42 41,Ij 43 .sub 42 1,TJ 44 40 43,Ot 45 44] 45 [oy 46 10,oy 47 8,IR 48 47,ol 49 (.shf .shl OT 48),IU 50 .sub 46 49,oz 10 50]) [oy 51 10,oz 6 51,IJ 7]))))
def jny:XF:=⟨[0,1,2],jip,[(.t 6),(.t 7)]⟩
theorem jsB:jv γ 48=some jny:=by kernel_rfl
def jio:XC:=(IX [OH 4] (Or [OP 5,Tg 6 5] 6 [OP 7,ol 8 (.iface 40 7),o5 (.pan 8)]) (IY (Ix 9) 4 9))
def jnx:XF:=⟨[0,1],jio,[(.t 4)]⟩
theorem jsA:jv γ 53=some jnx:=by kernel_rfl
def jin:XC:=(ou [oK 4 Ox,IJ 5] (oX [OP 11,IR 12 11,ol 13 (.mkS 1 4 [Ox] Ov 12),oz 6 13] (Tr [oz 14 1,IQ 15 14,IJ 16] 0 17 16 15 17 0 1 [TJ 18 14 16,oF 19 18,oz 8 19] (.ops [oy 20 6,oy 21 8,OG 22 .xor 21 (IB 1),TI 23 1 Ox [((0,1),22)],OW 24 1 4 20 23,oz 6 24]) 25 16 1 16 25) (IX [Ix 27,oy 28 6,OE 29 44 27 28,oy 26 29,O0 30 26,O1 31 26,oz 9 30,oz 10 31] (ID [oy 32 10,Tg 33 32] 33 [oy 34 10,oK 4 Ox,oz 5 34]) [oy 35 9,OG 36 .xor 35 (IB 1),Tw 36,IJ 5])))
def jnw:XF:=⟨[0,1],jin,[(.t 4),(.t 5)]⟩
theorem jsz:jv γ 61=some jnw:=by kernel_rfl
def jim:XC:=(Oq [Tv] [Ix 3,OE 4 106 3 (oQ 107 []),ol 5 (I0 4),O4 5])
def jnv:XF:=⟨[0],jim,[(.t 2)]⟩
theorem jsy:jv γ 73=some jnv:=by kernel_rfl
def jil:XC:=(IX [OH 2] (ID [Ix 3,ow 4 (.gen .eql 58 true 3 (.c .nils))] 4 [OH 2]) [TI 5 0 Ox [],Ix 6,OW 7 1 4 5 6,O4 7])
def jnu:XF:=⟨[0],jil,[(.t 2)]⟩
theorem jsx:jv γ 74=some jnu:=by kernel_rfl
def jik:XC:=(Oq [IS 2 0,Os 4] [OP 5,ol 6 (.fn 109 [2]),OE 7 108 5 6,ol 8 (I0 7),Tw 8])
def jnt:XF:=⟨[0,1],jik,[(.t 4)]⟩
theorem jsw:jv γ 75=some jnt:=by kernel_rfl
def jij:XC:=(ou [oK 6 Ox,IJ 7] (oX [OP 13,oy 14 2,ol 15 (.bi .min #[44,44] [13,14]),OP 16,oy 17 2,ol 18 (.bi .max #[44,44] [16,17]),oz 1 15,O4 18] (.block 0 (.seq (oL [OP 20,OG 21 .eql 20 Ox,oz 19 21] 19 .skip (.ops [OP 22,OG 23 .xor 22 (IB 1),oy 24 2,IU 25 .eql 23 24,oz 19 25])) (Tl 19 [oK 6 Ox,IJ 7] (.seq (oL [OP 27,OG 28 .eql 27 (IB 1),oz 26 28] 26 .skip (.ops [OP 29,oy 30 2,IU 31 .eql 29 30,oz 26 31])) (Tl 26 [oy 32 2,oz 6 32,IJ 7] .skip))))) (oX [OP 33,oy 34 2,IA 35 [Ox,Ox] [((0,1),33),((1,1),34)],o9 8 [Ox,Ox],o7 2 8 35] (.seq (.cops [O9 37,Is (Iu 38 37),Is (oD 39 2 38),OM 40 39,Is (o6 41 2 8),Is (ol 42 (.look 91 40 41 true)),Om 36 42,Is (O0 43 36),Is (O1 44 36),Is (oz 9 43),Is (oz 10 44)]) (ID [oz 45 10] 45 [oy 46 9,oz 6 46,IJ 7])) (IX [Ix 48,o6 49 2 8,OE 50 110 48 49,oy 47 50,O0 51 47,O1 52 47,oz 11 51,oz 12 52] (Ic [oy 53 12,Tb 54 .eql 53] 54 (.cops [O9 55,Is (Iu 56 55),Is (oD 57 2 56),OM 58 57,Is (o6 59 2 8),Om 60 11,Is (o5 (.i (.upd 91 58 59 60)))])) [oy 61 11,oy 62 12,oz 6 61,oz 7 62]))))
def jns:XF:=⟨[0,1,2],jij,[(.t 6),(.t 7)]⟩
theorem jsv:jv γ 76=some jns:=by kernel_rfl
def jii:XC:=(ou [OH 8,OH 9,IJ 10] (Oz [OP 17,IR 18 17,oy 19 2,IR 20 19,ol 21 (.bi .max #[3,3] [18,20]),oy 22 3,IU 23 .add 21 22,oz 11 23] [OP 24,oy 25 2,TI 26 2 .nils [((0,1),24),((1,1),25)],Ou 27 73 26,ol 28 (I0 27),oy 29 28,Ok 30 29 11,Td 31 29 .gtr 30 32,On 32 29 I7 31] 32 [OH 8,OH 9,Ol 10 111] (.seq (ou [Ix 33,OP 34,oy 35 2,TI 36 2 .nils [((0,1),34),((1,1),35)],OE 37 111 33 36,oz 12 37] (ID [oy 38 12,Tg 39 38] 39 [oy 40 12,OH 8,OH 9,oz 10 40])) (ou [OP 42,oy 43 11,OE 44 40 42 43,oy 41 44,O0 45 41,O1 46 41,oz 13 45,oy 14 46] (Oq [oy 48 2,oy 49 11,OE 50 40 48 49,oy 47 50,O0 51 47,O1 52 47,oz 15 51,oy 16 52] [oy 53 13,oy 54 15,oz 8 53,oz 9 54,IJ 10])))))
def jnr:XF:=⟨[0,1,2,3],jii,[(.t 8),(.t 9),(.t 10)]⟩
theorem jsu:jv γ 77=some jnr:=by kernel_rfl
def jih:XC:=(IX [oK 6 Ox,IJ 7] (ID [Ix 8,oy 9 2,TI 10 1 Ox [((0,1),9)],OE 11 75 8 10,Tn 12 11] 12 [oK 6 Ox,Ol 7 101]) [Ix 13,OP 14,oy 15 2,oy 16 2,OG 17 .xor 16 (IB 1),Ie 18 112 [13,14,15,17],O0 19 18,O1 20 18,oz 6 19,oz 7 20])
def jnq:XF:=⟨[0,1,2],jih,[(.t 6),(.t 7)]⟩
theorem jst:jv γ 78=some jnq:=by kernel_rfl
def jig:XC:=(oX [oK 8 Ox] (.dops [TF 11,IH (Iu 12 11),IK 13 0 12,O5 14 13 13 36,IH (OP 15),Tu 16 2,(O8 17 39 16 0 [(2,36)],I6),IH (O0 18 17),IH (O1 19 17),(Iw (OE 20 53 18 19) 0 [(5,36)],I6),(Iw (Ie 21 113 [14,15,20]) 0 [],I6),IH (O0 22 21),IH (O1 23 21),(Iw (OE 24 43 22 23) 0 [],I6),IH (oz 9 24)]) (OB [TF 25,IH (Iu 26 25),IK 27 0 26,O5 28 27 27 36,Tu 29 3,(O8 30 39 29 0 [(1,36)],some [Tj 30,Tj 31,Tj 32,Tj 33,I1 34 1 0,Tj 35,Tj 36,Tj 37,Tj 38,Ib (oK 10 Iz) 0]),IH (O0 31 30),IH (O1 32 30),(Iw (OE 33 53 31 32) 0 [(4,36)],some [Tj 33,I1 34 1 0,Tj 35,Tj 36,Tj 37,Tj 38,Ib (oK 10 Iz) 0]),IH (OP 34),(Iw (Ie 35 113 [28,33,34]) 0 [],I6),IH (O0 36 35),IH (O1 37 35),(Iw (OE 38 43 36 37) 0 [],I6),IH (oz 10 38)] (o3 [Ix 39,Iu 40 39,ON 41 40,oF 42 41,oy 43 9,OG 44 .xor 43 (IB 1),oy 45 10,OG 46 .xor 45 (IB 1),TI 47 2 Ox [((0,1),44),((1,1),46)],OE 48 44 42 47,O0 49 48,O1 50 48,OE 51 43 49 50,oz 8 51])))
def jnp:XF:=⟨[0,1,2,3],jig,[(.t 8)]⟩
theorem jss:jv γ 79=some jnp:=by kernel_rfl
def jif:XC:=(Oq [Os 3] [oF 4 1,Ix 5,OG 6 .quo 5 (IB 2),TJ 7 4 6,oF 8 7,Ix 9,OG 10 .rem 9 (IB 2),OG 11 .eql 10 (IB 1),ol 12 (.gen .neq 4 false 8 11),oz 3 12])
def jno:XF:=⟨[0,1],jif,[(.t 3)]⟩
theorem jsr:jv γ 80=some jno:=by kernel_rfl
def jdX:XC:=(Oq [Os 4] [Ix 5,OP 6,OE 7 143 5 6,OG 8 .geq 7 oB,Tw 8])
def jkV:XF:=⟨[0,1],jdX,[(.t 4)]⟩
theorem jrc:jv γ 106=some jkV:=by kernel_rfl
def jdW:XC:=(Oq [Tv] [Ix 3,IR 4 3,Ij 5 .lss 4 1,oy 6 5,Ok 7 6 0,Ip 8 6 (.len 7),Td 9 6 .gtr 8 32,Iy 10 6 I7 9,O4 10])
def jkU:XF:=⟨[0],jdW,[(.t 2)]⟩
theorem jrb:jv γ 107=some jkU:=by kernel_rfl
def jdV:XC:=(Oq [Os 4] [Ix 5,OP 6,OE 7 144 5 6,OG 8 .geq 7 oB,Tw 8])
def jkT:XF:=⟨[0,1],jdV,[(.t 4)]⟩
theorem jra:jv γ 108=some jkT:=by kernel_rfl
def jdU:XC:=(Oq [Os 3] [Ix 4,OG 5 .quo 4 (IB 2),ol 6 (.cvt .i64 5),oF 7 1,Iu 8 7,ON 9 8,oF 10 9,IR 11 10,IU 12 .geq 6 11,oz 3 12])
def jkS:XF:=⟨[0,1],jdU,[(.t 3)]⟩
theorem jq9:jv γ 109=some jkS:=by kernel_rfl
def jdT:XC:=(Tq [IJ 4] [OP 7,oE 8 true none (oQ 145 []) [7],IQ 9 8,IJ 10] 0 11 10 9 11 0 1 [TJ 12 8 10,oF 13 12,oz 6 13] (ID [oy 14 6,OG 15 .quo 14 (IB 2),ol 16 (.cvt .i64 15),Ix 17,Ou 18 146 17,IG 19 .geq 16 18] 19 [Ol 4 101]) 20 10 1 10 20 [IJ 4])
def jkR:XF:=⟨[0,1],jdT,[(.t 4)]⟩
theorem jq8:jv γ 111=some jkR:=by kernel_rfl
def jdS:XC:=(Oz [oK 8 Ox,IJ 9] [Ix 13,OP 14,oy 15 2,oy 16 3,TI 17 3 Ox [((0,1),14),((1,1),15),((2,1),16)],OE 18 75 13 17,Tn 19 18] 19 [oK 8 Ox,Ol 9 101] (Oz [Ix 21,OP 22,oy 23 2,TI 24 2 Ox [((0,1),22),((1,1),23)],OE 25 44 21 24,oy 20 25,O0 26 20,O1 27 20,oz 10 26,oz 11 27] [oy 28 11,Tg 29 28] 29 [oy 30 11,oK 8 Ox,oz 9 30] (IX [Ix 32,OP 33,OG 34 .xor 33 (IB 1),oy 35 3,TI 36 2 Ox [((0,1),34),((1,1),35)],OE 37 44 32 36,oy 31 37,O0 38 31,O1 39 31,oz 12 38,oz 11 39] (ID [oy 40 11,Tg 41 40] 41 [oy 42 11,oK 8 Ox,oz 9 42]) [Ix 43,oy 44 10,oy 45 12,TI 46 2 Ox [((0,1),44),((1,1),45)],OE 47 61 43 46,O0 48 47,O1 49 47,oz 8 48,oz 9 49])))
def jkQ:XF:=⟨[0,1,2,3],jdS,[(.t 8),(.t 9)]⟩
theorem jq7:jv γ 112=some jkQ:=by kernel_rfl
def jdR:XC:=(ou [oK 6 Ox,IJ 7] (Oz [Ix 17,OP 18,oy 19 2,Ie 20 77 [17,18,19,Ov],oy 16 20,O0 21 16,O1 22 16,Ia 23 16 2,oz 8 21,oz 9 22,oz 10 23] [oy 24 10,Tg 25 24] 25 [oy 26 10,oK 6 Ox,oz 7 26] (oX [oy 27 8,IR 28 27,Ij 29 .sub 28 1,oK 11 Ox,oz 12 29] (.cops [Om 30 8,Om 31 12,Om 32 9,Om 33 12,Om 34 9,Om 35 12,Is (TJ 36 34 35),OM 37 36,Om 38 8,Om 39 12,Is (TJ 40 38 39),OM 41 40,Is (TJ 42 30 31),Is (TK 42 37),Is (TJ 43 32 33),Is (TK 43 41)]) (TG (Oh [oy 44 8,IQ 45 44,IJ 46] 0 (Tp 47 46 45) 47 0 1 (oX (OU 48 46 13 48) (.cops [O9 50,Om 51 8,Om 52 13,Is (TJ 53 51 52),OM 54 53,Om 55 9,Om 56 13,Is (TJ 57 55 56),OM 58 57,(Ie 59 78 [50,54,58],I6),Om 49 59,Is (O0 60 49),Is (O1 61 49),Is (oz 14 60),Is (oz 15 61)]) (.seq (ID [oy 62 15,Tg 63 62] 63 [oy 64 15,oK 6 Ox,oz 7 64]) (ou [Ix 66,oy 67 14,oy 68 11,oy 69 9,oy 70 13,TJ 71 69 70,oF 72 71,Ie 73 112 [66,67,68,72],oy 65 73,O0 74 65,O1 75 65,oz 11 74,oz 15 75] (ID [oy 76 15,Tg 77 76] 77 [oy 78 15,oK 6 Ox,oz 7 78])))) 79 46 1 46 79) [oy 80 11,oz 6 80,IJ 7]))))
def jkP:XF:=⟨[0,1,2],jdR,[(.t 6),(.t 7)]⟩
theorem jq6:jv γ 113=some jkP:=by kernel_rfl
def jqZ:XC:=(Tq [IJ 4] [Ix 6,IQ 7 6,IJ 8] 0 9 8 7 9 0 1 (OU 10 8 5 10) (ID [OP 11,Ix 12,oy 13 5,TJ 14 12 13,oF 15 14,oE 16 true none 11 [15]] 16 (OU 17 5 4 17)) 18 8 1 8 18 [Ol 4 (-(0+1))])
def jq0:XF:=⟨[0,1],jqZ,[(.t 4)]⟩
theorem jq5:jv γ 143=some jq0:=by kernel_rfl
def jdQ:XC:=(Tq [IJ 4] [Ix 6,IQ 7 6,IJ 8] 0 9 8 7 9 0 1 (OU 10 8 5 10) (ID [OP 11,Ix 12,oy 13 5,TJ 14 12 13,oF 15 14,oE 16 true none 11 [15]] 16 (OU 17 5 4 17)) 18 8 1 8 18 [Ol 4 (-(0+1))])
def kw:XF:=⟨[0,1],jdQ,[(.t 4)]⟩
theorem jq4:jv γ 144=some kw:=by kernel_rfl
def jdP:XC:=(ou [OH 2] (oX [IJ 3] (Tr [oz 9 0,IQ 10 9,IJ 11] 0 12 11 10 12 0 1 [TJ 13 9 11,oF 14 13,oz 5 14] (ou [oy 15 3,oy 16 5,IR 17 16,IU 18 .add 15 17,oz 3 18] (Or [oy 19 3,Tb 20 .lss 19] 20 [ol 21 (.iface 9 (oY [108,101,110,32,111,117,116,32,111,102,32,114,97,110,103,101])),o5 (.pan 21)])) 22 11 1 11 22) (Tq [oy 23 3,OE 24 178 (.c .nils) 23,oz 6 24] [oz 25 0,IQ 26 25,IJ 27] 2 28 27 26 28 2 3 [TJ 29 25 27,oF 30 29,oz 8 30] (.ops [oy 31 6,oy 32 8,OW 33 1 4 31 32,oz 6 33]) 34 27 1 27 34 (OU 35 6 2 35))))
def jkO:XF:=⟨[0],jdP,[(.t 2)]⟩
theorem jq3:jv γ 145=some jkO:=by kernel_rfl
def jdO:XC:=(Oq [IJ 2] [Ix 3,Iu 4 3,ON 5 4,oF 6 5,IR 7 6,O4 7])
def jkN:XF:=⟨[0],jdO,[(.t 2)]⟩
theorem jq2:jv γ 146=some jkN:=by kernel_rfl
def jdN:XC:=(oX [OH 4] (Or [OP 5,Tb 6 .lss 5] 6 [ol 7 (.iface 9 (oY [99,97,110,110,111,116,32,98,101,32,110,101,103,97,116,105,118,101])),o5 (.pan 7)]) (TG (ou [OP 8,Ix 9,ol 10 (.bi .cap #[58] [9]),Ix 11,IR 12 11,IU 13 .sub 10 12,IU 14 .sub 8 13,oz 1 14] (Or [OP 15,Tb 16 .gtr 15] 16 [Ix 17,Ix 18,ol 19 (.bi .cap #[58] [18]),ol 20 (.slS 1 17 none (some 19)),OP 21,ol 22 (.bi .append #[58,3] [20,21]),Ix 23,IR 24 23,ol 25 (.slS 1 22 none (some 24)),oz 0 25])) (IY (Ix 26) 4 26)))
def jkM:XF:=⟨[0,1],jdN,[(.t 4)]⟩
theorem jq1:jv γ 178=some jkM:=by kernel_rfl
def jdY:XC:=(.block 0 (oL [ow 7 (.gen .eql 20 true 5 (.c .nilif))] 7 (.ops [oy 2 5]) (oL [ol 8 (.assert 5 40),ow 9 (.ext 8 1),ow 10 (.ext 8 0)] 9 (ou [oy 3 10] (.ops [Ix 11,Iu 12 11,TK 12 (IM 191)])) (ou [Tw 5] (.ops [Tc 6,o5 (.pan 6)])))))
def jkW:XH:=⟨[0],(some 5),true,[],jdY,[]⟩
theorem jrd:Kl γ 42=some jkW:=by kernel_rfl
variable {base:Bs}
def bi (b:Bool):Int:=if b=true then 1 else 0
abbrev eb (b:Bool):AV:=.int .u32 (bi b)
def bs (f:Nat->Bool)(w:Nat):List AV:=(Qab w).map λi=>eb (f i)
theorem qT (f:Nat->Bool)(w:Nat):(bs f w).length=w:=by simp[bs]
theorem jaf (f:Nat->Bool)(w:Nat):(bs f w).all pc=true:=by simp[bs,pc,eb]
def bv (f:Nat->Bool)(w:Nat):AV:=.lst w (bs f w)
theorem YI {f:Nat->Bool}{w k:Nat}(h:k<w):(bs f w).getD k .bad=eb (f k):=by
 rw[Qan,bs,Qbj,QbS h];rfl
theorem kZ (k:Nat):((2 ^ k:Nat):Int)=2 ^ k:=by simp
set_option maxHeartbeats 4000000 in
theorem jdL (hb:NB base){lo hi:Int}(h1 : -100000000<=lo)(h2:hi<=100000000)(h:lo<=hi):Tot base 41 [.int .i64 lo,.int .i64 hi] (.int .i64 (wd lo hi:Int)):=by
 refine hb.tot ?_ rfl rfl;obtain⟨w1,w2,w3,w4⟩:=vD h1 h2;unfold Jw at w3;generalize wd lo hi=w at *;have hlt:¬ hi<lo:=om
 refine jF jsH (by rfl) (hb.pur 41 1 dc) ?_;simp only[jnE,jh,ζ,η,θ,κ];rw[(by unfold jiv;simp only[qq];rfl:jiv=_)];repeat'(first|apply jb<;>intro _|simp(disch:=first|exact dzA|fail) only[hlt,rzZ,δ,ε])
 refine yz (λmm L s=>∃ k:Nat,1<=k/\k<=w/\mm=w - k/\Has L 0 (.int .i64 lo)/\Has L 1 (.int .i64 hi)/\Has L 5 (.int .i64 (k:Int))) ?_ (w - 1) ?_
 ·rintro mm L s ⟨k,hk1,hk2,rfl,i0,i1,i5⟩;unfold VI;have hk3:(k:Int)<=32:=om
  have eL:∀ (st:St) (K:AV->St->Prop),ji (u7 .shl (.int .i64 1) (.int .i64 ((k:Int) - 1)) st) K=K (.int .i64 (2 ^ (k - 1))) st:=λst K=>by
   rw[show(k:Int) - 1=((k - 1:Nat):Int) by omega,jaG om,kZ]
  have hq0:=p2 (k - 1);have hq:(2:Int) ^ (k - 1)<=4294967296:=by
   have:=Qbq (n:=2) dc (show k - 1<=32 by omega);rw[<-kZ];omega
  by_cases e:k=w
  ·rw[<-e] at w3;generalize (2:Int) ^ (k - 1)=q at *;have f1:=w3.1;have f2:=w3.2;repeat'(first|apply jb<;>intro _|simp(disch:=first|exact dzA|fail) only[ja i0,ja i1,ja i5,eL,rzZ,δ,ε])
   exact G0.v (by rw[e]) rfl
  ·have hn:=w4 (k - 1) om;generalize (2:Int) ^ (k - 1)=q at *;repeat'(first|apply jb<;>intro _|simp(disch:=first|exact dzA|fail) only[ja i0,ja i1,ja i5,eL,rzZ,δ,ε])
   all_goals
    refine⟨w - (k+1),om,k+1,om,om,rfl,?_⟩;rw[show((k+1:Nat):Int)=(k:Int)+1 by omega];simp(disch:=decide) only[h12,i0,i1]
 ·refine⟨1,om,w1,rfl,?_⟩;rw[show((1:Nat):Int)=1 from rfl];simp(disch:=decide) only[h12]
theorem Hj (a:Int):ZQ .and .i64 a 1=some ((a % 2).toNat:Int):=by
 have h1:(BitVec.ofInt 64 a &&& BitVec.ofInt 64 1).toNat=(a % 2).toNat:=by
  rw[BitVec.toNat_and,BitVec.toNat_ofInt,BitVec.toNat_ofInt];have:((1:Int) % ((2 ^ 64:Nat):Int)).toNat=1:=dc
  rw[this,Nat.and_one_is_mod];omega
 have h2:(a % 2).toNat<=1:=om
 show some (IntKind.i64.wrap ((BitVec.ofInt 64 a &&& BitVec.ofInt 64 1).toNat:Int))=_;rw[h1,IntWalk.i64_in _ ⟨om,om⟩]
theorem joN {st:St}{K:AV->St->Prop}(a:Int):ji (yJ .and (.int .i64 a) (.int .i64 1) st) K=K (.int .i64 ((a % 2).toNat:Int)) st:=by
 refine jsi ?_;show(ki .and .i64 a 1).map (AV.int .i64)=_;have:ki .and .i64 a 1=some ((a % 2).toNat:Int):=by
  cases a with
  |ofNat m=>
   show cond (Qck m (zB .i64)) (cond (Qck 1 (zB .i64)) (some (Qas (Nat.land m 1))) (ZQ .and .i64 (Qas m) 1)) (ZQ .and .i64 (Qas m) 1)=_;cases hb:Qck m (zB .i64)
   ·exact Hj _
   ·have e:Qck 1 (zB .i64)=true:=dc
    rw[e,cond_true,cond_true];have e2:Nat.land m 1=m % 2:=Nat.and_one_is_mod m;rw[e2]
    congr 1
  |negSucc m=>exact Hj _
 rw[this];rfl
theorem Made.cl {s s':St}{n:Nat}{f:Nat->AV}{cs:List AV}(h:Made s s' n f)(hl:cs.length=n)(hc:∀ i,i<n->f i=cs.getD i .bad):Cl s' s.nx cs:=⟨by rw[h.nx];exact Qbb _,h.row,h.len.trans hl.symm,λi hi=>(h.cell i om).trans (hc i om)⟩
theorem Made.apl {s s':St}{n:Nat}{f:Nat->AV}(h:Made s s' n f):ApL s.nx s s':=⟨by rw[h.nx];omega,h.fr,λc hc _=>h.keep c om⟩
theorem jrU {w:Nat}{s:St}{K:AV->St->Prop}(hw:w<=1000000)(hk:∀ s',Cl s' s.nx (bs (λ_=>false) w)->ApL s.nx s s'->s'.nx=s.nx+1->K (.slice s.nx 0 w w 1 true) s'):ji (jeJ 1 4 [.int .u32 0] (.int .i64 (w:Int)) (.int .i64 (w:Int)) s) K:=
 V5 (μ _) om om λs' m=>hk s' (m.cl (by rw[qT,QaB]) λi hi=>by rw[YI om,Nat.mod_one];rfl) m.apl m.nx
theorem jb1 {f g:Nat->Bool}{w:Nat}(h:∀ i,i<w->f i=g i):bs f w=bs g w:=QaX λi hi=>by rw[h i (Qbp.1 hi)]
theorem jsf {s:St}{b w m d:Nat}{x:Bool}{f:Nat->Bool}(C:Cl s b (bs f w))(hm:m<=b):FzD m (d+2) s (.slice b 0 w w 1 x) (bv f w):=by
 refine FzD.slice C.rw_ (by rw[qT];omega) hm ?_;rw[QaV (by rw[qT];omega)];exact FzsD.pc (jaf f w)
theorem gt {v:AV}:∀ {l:List AV} {k:Nat},upd l k [v]=l.set k v
 |[],_=>rfl
 |c :: cs,0=>by cases cs<;>rfl
 |c :: cs,k+1=>by
  have:=gt (v:=v) (l:=cs) (k:=k);rw[List.set_cons_succ,<-this];rfl
theorem jb0 {f g:Nat->Bool}{w k:Nat}{b:Bool}(hk:k<w)(h:∀ i,i<w->g i=if i=k then b else f i):upd (bs f w) k [eb b]=bs g w:=by
 rw[gt];refine Qbh (by simp[bs]) λi h1 h2=>?_;have hi:i<w:=by simpa[bs] using h2
 rw[List.getElem_set];have:=h i hi;by_cases e:k=i
 ·rw[if_pos e];rw[if_pos e.symm] at this;simp[bs,this]
 ·rw[if_neg e];rw[if_neg (λh=>e h.symm)] at this;simp[bs,this]
set_option maxHeartbeats 4000000 in
theorem Gi (hb:NB base){n:Int}(h1 : -100000000<=n)(h2:n<=100000000):Tot base 39 [.int .i64 n] (.tup [bv (bt n) (wd n n),.int .i64 0]):=by
 refine hb.tot ?_ rfl rfl;obtain⟨w1,w2,w3,w4⟩:=vD h1 h2;have E:=jdL hb h1 h2 (Int.le_refl n);generalize wd n n=w at *;have w0:¬ (w:Int)=0:=om
 refine jF jsJ (by rfl) (hb.pur 39 1 dc) ?_;simp only[jnG,jh,ζ,η,θ,κ];rw[(by unfold jix;simp only[qq];rfl:jix=_)];repeat'(first|apply jb<;>intro _|simp(disch:=first|exact dzA|fail) only[E,w0,Um,rzZ,δ,ε])
 refine jrU om λs1 C1 a1 n1=>?_;have C1:Cl s1 0 (bs (λ_=>false) w):=C1;have n1:s1.nx=1:=n1;repeat'(first|apply jb<;>intro _|simp(disch:=first|exact dzA|fail) only[rzZ,δ,ε])
 refine jZ w (λk L s=>Cl s 0 (bs (λi=>decide (i<k) && bt n i) w)/\1<=s.nx/\Has L 0 (.int .i64 n)/\Has L 5 (.slice 0 0 w w 1 true)) ?_ (λk L s hk hI hi hn=>?_) (λL s hI=>?_)
 ·refine⟨by simpa using C1,om,?_,?_⟩<;>exact hsX
 ·obtain⟨C,n2,i0,i5⟩:=hI;have hl:qh s.h 0=w:=by rw[C.len,qT]
  have eB:∀ (st:St) (K:AV->St->Prop),ji (u7 .shr (.int .i64 n) (.int .i64 (k:Int)) st) K=K (.int .i64 (n / 2 ^ k)) st:=λst K=>by
   rw[jrn om,Int.fdiv_eq_ediv_of_nonneg _ (Int.le_of_lt (p2 k))]
  have eA:∀ (st:St) (K:AV->St->Prop),ji (yJ .and (.int .i64 (n / 2 ^ k)) (.int .i64 1) st) K=K (.int .i64 (bi (bt n k))) st:=λst K=>by
   rw[joN];unfold bt;have:n / 2 ^ k % 2=0\/n / 2 ^ k % 2=1:=om
   rcases this with e|e<;>rw[e]<;>rfl
  have eC:∀ (st:St) (K:AV->St->Prop),ji (jfn .u32 (.int .i64 (bi (bt n k))) st) K=K (eb (bt n k)) st:=λst K=>by
   cases bt n k<;>rfl
  repeat'(first|apply jb<;>intro _|simp(disch:=first|exact dzA|fail) only[ja i0,ja i5,ja hi,ja hn,eB,eA,eC,hl,rzZ,δ,ε])
  refine⟨⟨?_,n2,?_,?_⟩,?_,?_⟩
  ·rw[<-jb0 (f:=λi=>decide (i<k) && bt n i) (b:=bt n k) hk λi hi=>?_]
   ·exact C.wr k _
   ·by_cases e:i=k
    ·subst e;simp
    ·have:(i<k+1)=(i<k):=by rw[eq_iff_iff];omega
     simp[e,this]
  all_goals exact hsX
 ·obtain⟨C,n2,i0,i5⟩:=hI;repeat'(first|apply jb<;>intro _|simp(disch:=first|exact dzA|fail) only[ja i5,rzZ,δ,ε])
  refine FzD.tup (.cons (jsf (f:=bt n) ?_ (Qaa _)) (.cons (.pc rfl) .nil));rw[jb1 (g:=bt n) λi hi=>by simp[hi]] at C;simp only[jz];exact C
theorem NB.pl (hb:NB base){f:FuncId}{xs:List AV}{v:AV}(h:PL γ base f xs (.ok v))(hp:xs.all pa=true)(e:Va f=true):Tot base f xs v:=λst K Kp=>h.pa hp (λst=>hb.no f e _ st) st K Kp
theorem jgU (hb:NB base){f0:Nat}(hl:jv γ f0=some kw)(hm:jaZ f0=5){f:Nat}{caps cs:List AV}{n:Nat}(hN:cs.length=n)(hs:n<=1000000)(hf:∀ k,k<n->Tot base f (cs.getD k .bad :: caps) (.bool false)):PL γ base f0 [.lst n cs,.fn f caps] (.ok (.int .i64 (-1))):=by
 refine qB hl (by rfl) (hb.pur f0 5 hm) rfl ?_;simp only[kw,jh,ζ,η,θ,κ];rw[(by unfold jdQ;simp only[qq];rfl:jdQ=_)];repeat'(first|apply jb<;>intro _|simp(disch:=first|exact dzA|fail) only[rzZ,δ,ε])
 refine jZ n (λk L s=>Has L 0 (.lst n cs)/\Has L 1 (.fn f caps)) ?_ (λk L s hk hI hi hn=>?_) (λL s hI=>?_)
 ·simp(disch:=decide) only[h12]
 ·obtain⟨i0,i1⟩:=hI;have e:=hf k hk;repeat'(first|apply jb<;>intro _|simp(disch:=first|exact dzA|fail) only[ja i0,ja i1,ja hi,ja hn,qU,hN,e,rzZ,δ,ε])
  simp(disch:=decide) only[h12,i0,i1,hi,hn]
 ·repeat'(first|apply jb<;>intro _|simp(disch:=first|exact dzA|fail) only[rzZ,δ,ε])
  exact G0.v rfl rfl
theorem jmO {h:T AO}{f o:Nat}{cs:List AV}:lend h (.fn f [.lptr cs o])=some (.fn f [.lptr cs o]):=rfl
abbrev gV:AV:=.lptr [.lst 1 [.int .u32 0,.int .u32 0],.lst 0 []] 0
section
variable {st:St} {K:AV->St->Prop} (p q:Bool)
theorem jlw:ji (yJ .quo (eb p) (.int .u32 2) st) K=K (.int .u32 0) st:=by cases p<;>rfl
theorem jlv:ji (yJ .rem (eb p) (.int .u32 2) st) K=K (eb p) st:=by cases p<;>rfl
theorem jlz:ji (jfn .i64 (.int .u32 0) st) K=K (.int .i64 0) st:=rfl
theorem jlu:ji (yJ .xor (eb p) (.int .u32 1) st) K=K (eb (!p)) st:=by cases p<;>rfl
theorem jly:ji (yJ .eql (eb p) (.int .u32 0) st) K=K (.bool (!p)) st:=by cases p<;>rfl
theorem jlx:ji (yJ .eql (eb p) (.int .u32 1) st) K=K (.bool p) st:=by cases p<;>rfl
theorem jpm:ji (yJ .eql (eb p) (eb q) st) K=K (.bool (p == q)) st:=by cases p<;>cases q<;>rfl
theorem jrS:ji (JI γ .neq 4 false (.bool p) (.bool q) st) K=K (.bool (p != q)) st:=by
 have h:JI γ .neq 4 false (.bool p) (.bool q) st=.ok (.bool (p != q)) st:=by cases p<;>cases q<;>kernel_rfl
 rw[h];rfl
end
theorem kd (cs:List AV)(o:Nat):(AV.lptr cs o).cells=[.lptr cs o]:=rfl
theorem gR:type_of% (a8 @jlw @jlv @jlz @jlu @jly @jlx @jpm (aI @kd @qU)):=a8 @jlw @jlv @jlz @jlu @jly @jlx @jpm (aI @kd @qU)
theorem jrN (hb:NB base)(p:Bool):Tot base 109 [eb p,.lptr [gV] 0] (.bool false):=by
 refine hb.pl ?_ rfl rfl;refine qB jq9 (by rfl) (hb.pur 109 5 dc) rfl ?_;simp only[jkS,jh,ζ,η,θ,κ];rw[(by unfold jdU;simp only[qq];rfl:jdU=_)];repeat'(first|apply jb<;>intro _|simp(disch:=first|exact dzA|fail) only[gR,rzZ,δ,ε])
 exact G0.v rfl rfl
def ebs (l:List Bool):List AV:=l.map eb
theorem jp8 (l:List Bool):(ebs l).all pc=true:=by simp[ebs,pc]
theorem jbN {l:List Bool}{k:Nat}(h:k<l.length):(ebs l).getD k .bad=eb l[k]:=by simp[ebs,h]
theorem gy (hb:NB base)(l:List Bool)(n:Nat)(hn:l.length=n)(hs:n<=1000000):PL γ base 75 [gV,.lst n (ebs l)] (.ok (.bool true)):=by
 have E:=jgU hb (f:=109) (caps:=[.lptr [gV] 0]) (cs:=ebs l) (jq4:jv γ 144=some kw) dc (by simpa[ebs] using hn) hs λk hk=>by rw[jbN om];exact jrN hb _
 have E1:∀ st K Kp,XB γ base 144 [.lst n (ebs l),.fn 109 [.lptr [gV] 0]] st K Kp=_:=λst K Kp=>E.xb (yb rfl (qr jmO rfl)) (λst=>hb.no 144 dc _ _) K Kp;have E2:PL γ base 108 [.lst n (ebs l),.fn 109 [.lptr [gV] 0]] (.ok (.bool false)):=by
  refine qB jra (by rfl) (hb.pur 108 5 dc) rfl ?_;simp only[jkT,jh,ζ,η,θ,κ];rw[(by unfold jdV;simp only[qq];rfl:jdV=_)];repeat'(first|apply jb<;>intro _|simp(disch:=first|exact dzA|fail) only[E1,Wm,rzZ,δ,ε])
  exact G0.v rfl rfl
 have E3:∀ st b K Kp,Cl st b [gV]->XB γ base 108 [.lst n (ebs l),.fn 109 [.ptr b 0]] st K Kp=K (.bool false) st:=λst b K Kp C=>E2.xb (yb rfl (qr (by
  have:Zm st.h (.ptr b 0)=some (.lptr [gV] 0):=QR C (yw (Yz 8 rfl) rfl wM);show(JV st.h [.ptr b 0]).map (AV.fn 109)=_;simp only[JV,this];rfl) rfl)) (λst=>hb.no 108 dc _ _) K Kp
 refine qB jsw (by rfl) (hb.pur 75 5 dc) rfl ?_;simp only[jnt,jh,ζ,η,θ,κ];rw[(by unfold jik;simp only[qq];rfl:jik=_)];repeat'(first|apply jb<;>intro _|simp(disch:=first|exact dzA|fail) only[E3,kd,rzZ,δ,ε])
 exact G0.v rfl rfl
theorem t2v {s:St}{a b a' b':AV}(ha:a'=a)(h2:b'=b)(hp:pc a=true)(hq:pc b=true):G0 (.tup [a,b]) (.tup [a',b']) s:=by
 subst ha h2;exact FzD.tup (.cons (.pc hp) (.cons (.pc hq) .nil))
theorem jqw (p q:Bool):min (bi p) (bi q)=bi (p && q):=by cases p<;>cases q<;>rfl
theorem jqx (p q:Bool):max (bi p) (bi q)=bi (p ||q):=by cases p<;>cases q<;>rfl
theorem jqv (hb:NB base)(p q:Bool):Tot base 76 [gV,eb p,eb q] (.tup [eb (p && q),.int .i64 0]):=by
 cases p<;>cases q;all_goals
  refine hb.pl ?_ rfl rfl;refine qB jsv (by rfl) (hb.pur 76 5 dc) rfl ?_;simp only[jns,jh,ζ,η,θ,κ];rw[(by unfold jij;simp only[qq];rfl:jij=_)];repeat'(first|apply jb<;>intro _|simp(disch:=first|exact dzA|fail) only[gR,jqw,jqx,rzZ,δ,ε])
  all_goals first
   |exact t2v rfl rfl rfl rfl
   |(exfalso;revert ‹_›;decide)
set_option maxHeartbeats 4000000 in
theorem jsq (hb:NB base)(l:List Bool)(n:Nat)(hN:l.length=n)(hs:n<=1000000):PL γ base 44 [gV,.lst n (ebs l)] (.ok (.tup [eb (l.all id),.int .i64 0])):=by
 have E:=hb.pl (gy hb l n hN hs) rfl rfl;have E2:=jqv hb;refine qB jsF (by rfl) (hb.pur 44 5 dc) rfl ?_;simp only[jnC,jh,ζ,η,θ,κ];rw[(by unfold jit;simp only[qq];rfl:jit=_)];repeat'(first|apply jb<;>intro _|simp(disch:=first|exact dzA|fail) only[E,rzZ,δ,ε])
 refine jZ n (λk L s=>(∃ p,p=(l.take k).all id/\Has L 6 (eb p))/\Has L 0 gV/\Has L 15 (.lst n (ebs l))) ?_ (λk L s hk hI hi hn=>?_) (λL s hI=>?_)
 ·refine⟨⟨true,rfl,?_⟩,?_,?_⟩
  ·show Has _ 6 (.int .u32 1);simp(disch:=decide) only[jf,jn]
  all_goals simp(disch:=decide) only[jf,jn]
 ·obtain⟨⟨p,e,i6⟩,i0,i15⟩:=hI;have hkl:k<l.length:=om
  have hl:(ebs l).length=n:=by simpa[ebs] using hN
  have e2:=jbN hkl;have e3:(l.take (k+1)).all id=(p && l[k]):=by rw[e,Qbw hkl,QaM,Qaz,List.all_nil,Bool.and_true];rfl
  have E2:=E2 p l[k];repeat'(first|apply jb<;>intro _|simp(disch:=first|exact dzA|fail) only[ja i0,ja i6,ja i15,ja hi,ja hn,qU,hl,e2,E2,rzZ,δ,ε])
  refine⟨⟨⟨_,e3.symm,?_⟩,?_,?_⟩,?_,?_⟩;all_goals exact hsX
 ·obtain⟨⟨p,e,i6⟩,i0,i15⟩:=hI;rw[QaV om] at e;repeat'(first|apply jb<;>intro _|simp(disch:=first|exact dzA|fail) only[ja i6,rzZ,δ,ε])
  exact t2v (by rw[e]) rfl rfl rfl
theorem jbi {s:St}{b n m:Nat}{x:Bool}{l:List Bool}(C:Cl s b (ebs l))(hn:l.length=n):JO s.h [gV,.slice b 0 n m 1 x]=some [gV,.lst n (ebs l)]:=yb rfl (qr (Z9 C (by simp[ebs,hn]) (jp8 l)) rfl)
theorem jcN (hb:NB base){l:List Bool}{n:Nat}(hN:l.length=n)(hs:n<=1000000)(st:St)(b m:Nat)(x:Bool)(K Kp:AV->St->Prop)(C:Cl st b (ebs l)):XB γ base 75 [gV,.slice b 0 n m 1 x] st K Kp=K (.bool true) st:=(gy hb l n hN hs).xb (jbi C hN) (λst=>hb.no 75 dc _ _) K Kp
theorem jfK (hb:NB base){l:List Bool}{n:Nat}(hN:l.length=n)(hs:n<=1000000)(st:St)(b m:Nat)(x:Bool)(K Kp:AV->St->Prop)(C:Cl st b (ebs l)):XB γ base 44 [gV,.slice b 0 n m 1 x] st K Kp=K (.tup [eb (l.all id),.int .i64 0]) st:=(jsq hb l n hN hs).xb (jbi C hN) (λst=>hb.no 44 dc _ _) K Kp
theorem jh5 {s:St}{b sl cap n bytes:Nat}{ex:Bool}{x:AV}{cs cells:List AV}{K:AV->St->Prop}(C:Cl s b cells)(hc:cells.length=cap)(h:sl+n<=cap)(h1:∀ k:Nat->ER,JN x k=k n)(h2:∀ k:List AV->ER,firstCells s 1 n x k=k cs)(hl:cs.length=n)(hn:0<n) :
  ji (Xo 1 bytes (.slice b 0 sl cap 1 ex) x s) K=K (.slice b 0 (sl+n) cap 1 ex) (wr s b sl cs):=by
 obtain⟨n',zl',z',cs',hg'⟩:=C.row;have hb:=C.len;rw[zX hg',hc] at hb;have e3:Qci (jP cs) n=true:=YJ (by rw[jO,hl]);have e4:Qck (Qcl sl n) cap=true:=qD h;have e5:Qci n 0=false:=jl0 om;have e6:Qck (Qcl 0 (Qcm (Qcl sl n) 1)) n'=true:=qD (by show 0+(sl+n) * 1<=n';omega);have e7:Qcl 0 (Qcm sl 1)=sl:=by show 0+sl * 1=_;omega
 have ew:wr s b sl cs=⟨s.nx,(j1 (jK b)).run (.row n' zl' z' (qj cs cs' sl)) s.h,min s.dirty b,s.fr⟩:=by unfold wr;rw[hg'];rfl
 have e0:Qcm n 1=n:=QaB _;unfold Xo;rw[h1];try rw[e0]
 rw[h2,ew];simp only[qS,show Qcm n 1=n from QaB n,e3,hg',yh,jE,e4,e5,cond_true,cond_false,e6,e7,St.put_eq,ji];rfl
theorem Ux {s:St}{b sl cap bytes bv xc:Nat}{ex xx:Bool}{y:AV}{cells:List AV}{K:AV->St->Prop}(C:Cl s b cells)(hc:cells.length=cap)(h:sl+1<=cap)(D:Cl s bv [y]) :
  ji (Xo 1 bytes (.slice b 0 sl cap 1 ex) (.slice bv 0 1 xc 1 xx) s) K=K (.slice b 0 (sl+1) cap 1 ex) (wr s b sl [y]):=by
 obtain⟨m,zl,z,cs,hg⟩:=D.row;have hl:=D.len;rw[zX hg] at hl;have hr:=D.rats0 (k:=1) rfl;rw[Y1] at hr;refine jh5 C hc h (λk=>rfl) (λk=>?_) rfl (Qbb 0);have e1:Qck (Qcl 0 (Qcm 1 1)) m=true:=qD (by rw[hl];exact μ 1);have e2:jT zl z cs (Qcm 1 1) 0=[y]:=by
  rw[qy,<-hr];exact QaX λi _=>by rw[X8 hg]
 have e1':Qck (Qcl 0 1) m=true:=e1;have e2':jT zl z cs 1 0=[y]:=e2;simp only[firstCells,hg,yh,jE,e1',cond_true,e2']
theorem jeg {P:Program}{a:XC}{L:Sl}{st:St}{Q:Out->Prop}{Kp:AV->Sl->St->Prop}(h:xC P base a L st (Jv (λL st=>xC P base a L st (Jv (λL st=>xC P base a L st (Jv (λ_ _=>False) Q) Kp) Q) Kp) Q) Kp):xC P base (.loop a) L st Q Kp:=⟨3,h⟩
theorem VJ (hb:NB base)(p q:Bool)(st:St)(b m:Nat)(x:Bool)(K Kp:AV->St->Prop)(C:Cl st b [eb p,eb q]):XB γ base 44 [gV,.slice b 0 2 m 1 x] st K Kp=K (.tup [eb (p && q),.int .i64 0]) st:=
 (jfK hb (l:=[p,q]) (n:=2) rfl dc st b m x K Kp C).trans (by cases p<;>cases q<;>rfl)
set_option maxHeartbeats 4000000 in
theorem jtP (hb:NB base)(p q:Bool)(st:St)(b m:Nat)(x:Bool)(K Kp:AV->St->Prop)(C:Cl st b [eb p,eb q]):XB γ base 61 [gV,.slice b 0 2 m 1 x] st K Kp=K (.tup [eb (p ||q),.int .i64 0]) st:=by
 refine PL.xb (?_:PL γ base 61 [gV,.lst 2 [eb p,eb q]] (.ok (.tup [eb (p ||q),.int .i64 0]))) (jbi (l:=[p,q]) C rfl) (λst=>hb.no 61 dc _ _) K Kp;refine qB jsz (by rfl) (hb.pur 61 5 dc) rfl ?_;simp only[jnw,jh,ζ,η,θ,κ];rw[(by unfold jin;simp only[qq];rfl:jin=_)];repeat'(first|apply jb<;>intro _|simp(disch:=first|exact dzA|fail) only[Um,rzZ,δ,ε])
 refine V5 (l:=0) (c:=2) dc dc dc λs1 M=>?_;have C1:Cl s1 0 [.int .u32 0,.int .u32 0]:=M.cl rfl λi hi=>by
  have:i=0\/i=1:=om
  rcases this with rfl|rfl<;>rfl
 have n1:s1.nx=1:=M.nx;clear M;repeat'(first|apply jb<;>intro _|simp(disch:=first|exact dzA|fail) only[rzZ,δ,ε])
 have C2:Cl (Go.Sy.wr (Go.Sy.nw s1 [eb !p]) 0 0 [eb !p]) 0 [eb !p,.int .u32 0]:=(C1.nw [eb !p]).wr 0 _;have D1:Cl (Go.Sy.nw s1 [eb !p]) 1 [eb !p]:=n1▸Cl.new s1 _;have n2:(Go.Sy.wr (Go.Sy.nw s1 [eb !p]) 0 0 [eb !p]).nx=2:=by rw[jg,je,n1]
 have e1:=λK:AV->St->Prop=>Ux (K:=K) (cap:=2) (bytes:=4) (xc:=1) (xx:=true) (ex:=true) (C1.nw [eb !p]) rfl (by decide:0+1<=2) D1;have D2:Cl (Go.Sy.nw (Go.Sy.wr (Go.Sy.nw s1 [eb !p]) 0 0 [eb !p]) [eb !q]) 2 [eb !q]:=n2▸Cl.new _ _;have e2:=λK:AV->St->Prop=>Ux (K:=K) (cap:=2) (bytes:=4) (xc:=1) (xx:=true) (ex:=true) (C2.nw [eb !q]) rfl (by decide:1+1<=2) D2;have C3:=(C2.nw [eb !q]).wr 1 [eb !q];have E:=λ(x:Bool) (m:Nat) (K Kp:AV->St->Prop)=>jfK hb (l:=[!p,!q]) (n:=2) rfl dc _ 0 m x K Kp C3;refine jeg ?_;repeat'(first|apply jb<;>intro _|simp(disch:=first|exact dzA|fail) only[gR,n1,e1,e2,E,ξ,rzZ,δ,ε])
 refine t2v ?_ rfl rfl rfl;cases p<;>cases q<;>rfl
theorem jtQ (hb:NB base)(c p q:Bool):PL γ base 112 [gV,eb c,eb p,eb q] (.ok (.tup [eb (if c=true then p else q),.int .i64 0])):=by
 have T:∀ st b m x K Kp,Cl st b [eb c,eb p,eb q]->XB γ base 75 [gV,.slice b 0 3 m 1 x] st K Kp=K (.bool true) st:=jcN hb (l:=[c,p,q]) rfl dc;have A:=VJ hb c p;have A2:=VJ hb (!c) q;have O:=jtP hb (c && p) (!c && q);refine qB jq7 (by rfl) (hb.pur 112 5 dc) rfl ?_;simp only[jkQ,jh,ζ,η,θ,κ];rw[(by unfold jdS;simp only[qq];rfl:jdS=_)];repeat'(first|apply jb<;>intro _|simp(disch:=first|exact dzA|fail) only[gR,T,A,A2,O,rzZ,δ,ε])
 refine t2v ?_ rfl rfl rfl;cases c<;>cases p<;>cases q<;>rfl
theorem jqR (hb:NB base)(c p q:Bool):Tot base 112 [gV,eb c,eb p,eb q] (.tup [eb (if c=true then p else q),.int .i64 0]):=hb.pl (jtQ hb c p q) rfl rfl
theorem jh8 (hb:NB base)(p q:Bool):Tot base 78 [gV,eb p,eb q] (.tup [eb (p == q),.int .i64 0]):=by
 refine hb.pl ?_ rfl rfl;have T:∀ st b m x K Kp,Cl st b [eb q]->XB γ base 75 [gV,.slice b 0 1 m 1 x] st K Kp=K (.bool true) st:=jcN hb (l:=[q]) rfl dc;have I:=jqR hb p q (!q);refine qB jst (by rfl) (hb.pur 78 5 dc) rfl ?_;simp only[jnq,jh,ζ,η,θ,κ];rw[(by unfold jih;simp only[qq];rfl:jih=_)];repeat'(first|apply jb<;>intro _|simp(disch:=first|exact dzA|fail) only[gR,T,I,rzZ,δ,ε])
 refine t2v ?_ rfl rfl rfl;cases p<;>cases q<;>rfl
theorem jrQ (hb:NB base){w:Nat}(l:List AV)(h1:1<=w)(h2:w<=32):Tot base 107 [.lst w l] (.bool false):=by
 refine hb.pl ?_ rfl rfl;have e1:¬ (w:Int)<1:=om
 have e2:¬ (32:Int)<(w:Int):=om
 refine qB jrb (by rfl) (hb.pur 107 5 dc) rfl ?_;simp only[jkU,jh,ζ,η,θ,κ];rw[(by unfold jdW;simp only[qq];rfl:jdW=_)];repeat'(first|apply jb<;>intro _|simp(disch:=first|exact dzA|fail) only[e1,e2,rzZ,δ,ε])
 exact G0.v rfl rfl
theorem jcW (hb:NB base){n:Nat}{cs:List AV}(hn:cs.length=n)(hs:n<=1000000)(h:∀ k,k<n->∃ w l,cs.getD k .bad=.lst w l/\1<=w/\w<=32):PL γ base 73 [.lst n cs] (.ok (.bool true)):=by
 have E1:=hb.pl (jgU hb (f:=107) (caps:=[]) (jq5:jv γ 143=some kw) dc hn hs λk hk=>by
  obtain⟨w,l,e,h1,h2⟩:=h k hk;rw[e];exact jrQ hb l h1 h2) rfl rfl
 have E2:Tot base 106 [.lst n cs,.fn 107 []] (.bool false):=by
  refine hb.pl ?_ rfl rfl;refine qB jrc (by rfl) (hb.pur 106 5 dc) rfl ?_;simp only[jkV,jh,ζ,η,θ,κ];rw[(by unfold jdX;simp only[qq];rfl:jdX=_)];repeat'(first|apply jb<;>intro _|simp(disch:=first|exact dzA|fail) only[E1,rzZ,δ,ε])
  exact G0.v rfl rfl
 refine qB jsy (by rfl) (hb.pur 73 5 dc) rfl ?_;simp only[jnv,jh,ζ,η,θ,κ];rw[(by unfold jim;simp only[qq];rfl:jim=_)];repeat'(first|apply jb<;>intro _|simp(disch:=first|exact dzA|fail) only[E2,rzZ,δ,ε])
 exact G0.v rfl rfl
theorem jaT (hb:NB base){w:Nat}(l:List AV)(h1:1<=w)(h2:w<=32)(st:St)(b m:Nat)(x:Bool)(K Kp:AV->St->Prop)(C:Cl st b [.lst w l]):XB γ base 73 [.slice b 0 1 m 1 x] st K Kp=K (.bool true) st:=
 (jcW hb (n:=1) (cs:=[.lst w l]) rfl dc λk hk=>⟨w,l,by rw[show k=0 by omega];rfl,h1,h2⟩).xb (qr (Z9 C rfl rfl) rfl) (λst=>hb.no 73 dc _ _) K Kp
theorem jjN (hb:NB base){w v:Nat}(l k:List AV)(h1:1<=w)(h2:w<=32)(h3:1<=v)(h4:v<=32)(st:St)(b m:Nat)(x:Bool)(K Kp:AV->St->Prop)(C:Cl st b [.lst w l,.lst v k]):XB γ base 73 [.slice b 0 2 m 1 x] st K Kp=K (.bool true) st:=
 (jcW hb (n:=2) (cs:=[.lst w l,.lst v k]) rfl dc λj hj=>by
  have:j=0\/j=1:=om
  rcases this with rfl|rfl
  ·exact⟨w,l,rfl,h1,h2⟩
  ·exact⟨v,k,rfl,h3,h4⟩).xb (qr (Z9 C rfl rfl) rfl) (λst=>hb.no 73 dc _ _) K Kp
theorem uf (v:AV)(n:Nat):(qM [v] n).length=n:=by
 induction n with
 |zero=>rfl
 |succ n ih=>
  have:qM [v] (n+1)=yS [v] (qM [v] n):=rfl;rw[this,yv,υ,ih];simp;omega
theorem jr6 {n:Nat}(h0:0<n)(hn:n<=64)(st:St)(K:AV->St->Prop):ji (biV γ .append #[58,3] [.nils,.int .i64 (n:Int)] st) K=K (.slice st.nx 0 n n 1 false) (nw st (qM [.int .u32 0] n)):=by
 have h:biV γ .append #[58,3] [.nils,.int .i64 (n:Int)] st=qp (.int .i64 (n:Int)) λn=>cond (Qck (Qcm n 4) 281474976710656) (cond (Qck n 9223372036854775807) (qS st 1 4 .nils n (qM [.int .u32 0] n)) .no) .no:=by kernel_rfl
 have e1:Qck (Qcm n 4) 281474976710656=true:=qD (by show n * 4<=_;omega);have e2:Qck n 9223372036854775807=true:=qD om;have e3:Qci (jP (qM [.int .u32 0] n)) n=true:=YJ (by rw[jO,uf]);have e4:Qci n 0=false:=jl0 om;have e5:Qck (Qcm n 4) 140737488355328=true:=qD (by show n * 4<=_;omega);have e6:Qcm n 1=n:=QaB n;rw[h,uE];simp only[e1,e2,cond_true,qS,e3,e4,cond_false,e5,jE,e6,St.alloc_eq,ji];unfold nw;rw[uf]
theorem jr4 (st:St)(K:AV->St->Prop):ji (biV γ .cap #[58] [.nils] st) K=K (.int .i64 0) st:=by
 have:biV γ .cap #[58] [.nils] st=.ok (.int .i64 0) st:=by kernel_rfl
 rw[this];rfl
theorem jr3 (st:St)(K:AV->St->Prop):ji (YU 1 .nils none (some (.int .i64 0)) st) K=K .nils st:=rfl
theorem jr2 (b n:Nat)(x:Bool)(st:St)(K:AV->St->Prop):ji (YU 1 (.slice b 0 n n 1 x) none (some (.int .i64 0)) st) K=K (.slice b 0 0 n 1 x) st:=by
 have e:Qck 0 n=true:=qD (Qaa n);have h:YU 1 (.slice b 0 n n 1 x) none (some (.int .i64 0)) st=cond (Qck 0 n) (force (Qcn 0 0) λk=>force (Qcl 0 (Qcm 0 1)) λo=>force (Qcn n 0) λc=>.ok (.slice b o k c 1 x) st) .no:=rfl;rw[h,e];simp only[cond_true,jE];rfl
set_option maxHeartbeats 4000000 in
theorem jqT (hb:NB base){n:Nat}(h0:0<n)(hn:n<=64)(st:St)(K Kp:AV->St->Prop)(hK:∀ s',Cl s' st.nx (qM [.int .u32 0] n)->ApL st.nx st s'->s'.nx=st.nx+1->K (.slice st.nx 0 0 n 1 false) s'):XB γ base 178 [.nils,.int .i64 (n:Int)] st K Kp:=by
 have d1:¬ (n:Int)<0:=om
 have d2:(0:Int)<(n:Int):=om
 have g:=jr6 h0 hn;refine yr jq1 (by rfl) (hb.at0 178 dc dc _ _) ?_;simp only[jkM,jh,ζ,η,θ,κ];rw[(by unfold jdN;simp only[qq];rfl:jdN=_)];repeat'(first|apply jb<;>intro _|simp(disch:=first|exact dzA|fail) only[d1,d2,g,jr4,jr3,jr2,Int.sub_zero,rzZ,δ,ε])
 have C:=Cl.new st.bare (qM [.int .u32 0] n);exact hK _ ⟨C.lt,C.row,C.len,C.cell⟩ ⟨Qbg _,rfl,λc hc h=>yn (s:=st.bare) (Qbe hc)⟩ rfl
theorem jdK {s:St}{b sl cap n bytes:Nat}{ex:Bool}{cs cells:List AV}{K:AV->St->Prop}(C:Cl s b cells)(hc:cells.length=cap)(h:sl+n<=cap)(hl:cs.length=n)(hn:0<n) :
  ji (Xo 1 bytes (.slice b 0 sl cap 1 ex) (.lst n cs) s) K=K (.slice b 0 (sl+n) cap 1 ex) (wr s b sl cs):=by
 refine jh5 C hc h (λk=>rfl) (λk=>?_) hl hn;have e1:Qck (Qcm n 1) (jP cs)=true:=qD (by rw[jO,hl];exact QaS (QaB n));have e2:yi cs (Qcm n 1)=cs:=by rw[qW,<-hl,show Qcm cs.length 1=cs.length from QaB _,Qah]
 simp only[firstCells,e1,cond_true,e2]
theorem jmg {n1 n2:Nat}{c1 c2 Z:List AV}(h1:c1.length=n1)(h2:c2.length=n2)(hz:Z.length=n1+n2):upd (upd Z 0 c1) n1 c2=c1 ++ c2:=by
 have k1:∀ (c Z:List AV),c.length<=Z.length->upd Z 0 c=c ++ Z.drop c.length:=by
  intro c;induction c with
  |nil=>intro Z _;cases Z<;>rfl
  |cons x c ih=>
   intro Z h;cases Z with
   |nil=>cases h
   |cons z Z=>
    show x :: upd Z 0 c=_;rw[ih Z (by simpa using h)];rfl
 have k2:∀ (c Y v:List AV),upd (c ++ Y) c.length v=c ++ upd Y 0 v:=by
  intro c;induction c with
  |nil=>intro Y v;rfl
  |cons x c ih=>intro Y v;show x :: upd (c ++ Y) c.length v=_;rw[ih];rfl
 rw[k1 c1 Z om,<-h1,k2,k1 c2 _ (by rw[Qau];omega),List.drop_of_length_le (by rw[Qau];omega),QaO]
set_option maxHeartbeats 4000000 in
theorem jkL (hb:NB base){n1 n2:Nat}{c1 c2:List AV}(h1:1<=n1)(h1':n1<=32)(h2:1<=n2)(h2':n2<=32)(hl1:c1.length=n1)(hl2:c2.length=n2)(hp1:c1.all pc=true)(hp2:c2.all pc=true) :
  Tot base 145 [.lst 2 [.lst n1 c1,.lst n2 c2]] (.lst (n1+n2) (c1 ++ c2)):=by
 refine hb.tot ?_ rfl rfl;have d1:¬ (n1:Int)<0:=om
 have d2:¬ (n1:Int)+(n2:Int)<0:=om
 have d3:(n1:Int)+(n2:Int)=((n1+n2:Nat):Int):=om
 refine jF jq3 (by rfl) (hb.pur 145 1 dc) ?_;simp only[jkO,jh,ζ,η,θ,κ];rw[(by unfold jdP;simp only[qq];rfl:jdP=_)];repeat'(first|apply jb<;>intro _|simp(disch:=first|exact dzA|fail) only[rzZ,δ,ε])
 refine jeg ?_;repeat'(first|apply jb<;>intro _|simp(disch:=first|exact dzA|fail) only[qU,ξ,d1,d2,d3,rzZ,δ,ε])
 refine jqT hb om om _ _ _ λs1 C1 a1 hn=>?_;have C1:Cl s1 0 (qM [.int .u32 0] (n1+n2)):=C1;have hz:=uf (.int .u32 0) (n1+n2);generalize qM [.int .u32 0] (n1+n2)=Z at *;have e1:=λK:AV->St->Prop=>jdK (K:=K) (bytes:=4) (ex:=false) (sl:=0) C1 hz om hl1 om;have C2:=C1.wr 0 c1;have e2:=λK:AV->St->Prop=>jdK (K:=K) (bytes:=4) (ex:=false) (sl:=n1) C2 (by rw[wz,hz]) (μ _) hl2 om;have C3:=C2.wr n1 c2;rw[jmg hl1 hl2 hz] at C3;rw[Qag] at e1;repeat'(first|apply jb<;>intro _|simp(disch:=first|exact dzA|fail) only[rzZ,δ,ε])
 refine jeg ?_;repeat'(first|apply jb<;>intro _|simp(disch:=first|exact dzA|fail) only[qU,ξ,e1,e2,rzZ,δ,ε])
 refine FzD.slice (Cl.rw_ (b:=0) (cs:=c1 ++ c2) ?_) (by simp[hl1,hl2]) (Qaa _) ?_
 ·simp only[jz];exact C3
 ·rw[QaV (by simp[hl1,hl2])];exact FzsD.pc (by rw[QaM,hp1,hp2];rfl)
theorem jso (hb:NB base):Tot base 146 [gV] (.int .i64 1):=by
 refine hb.pl ?_ rfl rfl;refine qB jq2 (by rfl) (hb.pur 146 5 dc) rfl ?_;simp only[jkN,jh,ζ,η,θ,κ];rw[(by unfold jdO;simp only[qq];rfl:jdO=_)];repeat'(first|apply jb<;>intro _|simp(disch:=first|exact dzA|fail) only[gR,rzZ,δ,ε])
 exact G0.v rfl rfl
theorem jqu {f g:Nat->Bool}{n m k:Nat}(h:k<n+m):∃ p,(bs f n ++ bs g m).getD k .bad=eb p:=by
 rw[Qan];rcases Qar k n with h1|h1
 ·exact⟨f k,by rw[QbB (by rw[qT];exact h1),<-Qan,YI h1]⟩
 ·exact⟨g (k - n),by rw[QbP (by rw[qT];exact h1),qT,<-Qan,YI om]⟩
set_option maxHeartbeats 4000000 in
theorem jmP (hb:NB base){f g:Nat->Bool}{n m:Nat}(h1:1<=n)(h2:n<=32)(h3:1<=m)(h4:m<=32)(st:St)(b c:Nat)(x:Bool)(K Kp:AV->St->Prop)(C:Cl st b [bv f n,bv g m]):XB γ base 111 [gV,.slice b 0 2 c 1 x] st K Kp=K (.int .i64 0) st:=by
 refine PL.xb (?_:PL γ base 111 [gV,.lst 2 [bv f n,bv g m]] (.ok (.int .i64 0))) (yb rfl (qr (Z9 C rfl rfl) rfl)) (λst=>hb.no 111 dc _ _) K Kp;have E:=jkL hb h1 h2 h3 h4 (qT f n) (qT g m) (jaf f n) (jaf g m);have hl:(bs f n ++ bs g m).length=n+m:=by rw[υ,qT,qT]
 have hL:=jso hb;refine qB jq8 (by rfl) (hb.pur 111 5 dc) rfl ?_;simp only[jkR,jh,ζ,η,θ,κ];rw[(by unfold jdT;simp only[qq];rfl:jdT=_)];unfold bv;repeat'(first|apply jb<;>intro _|simp(disch:=first|exact dzA|fail) only[E,rzZ,δ,ε])
 refine jZ (n+m) (λk L s=>Has L 0 gV/\Has L 8 (.lst (n+m) (bs f n ++ bs g m))) ?_ (λk L s hk hI hi hn=>?_) (λL s hI=>?_)
 ·simp(disch:=decide) only[h12]
 ·obtain⟨i0,i8⟩:=hI;obtain⟨p,e⟩:=jqu (f:=f) (g:=g) hk;repeat'(first|apply jb<;>intro _|simp(disch:=first|exact dzA|fail) only[ja i0,ja i8,ja hi,ja hn,qU,hl,e,gR,hL,rzZ,δ,ε])
  simp(disch:=decide) only[h12,i0,i8,hi,hn]
 ·repeat'(first|apply jb<;>intro _|simp(disch:=first|exact dzA|fail) only[rzZ,δ,ε])
  exact G0.v rfl rfl
theorem jnn (hb:NB base){w:Nat}{cs:List AV}(h1:1<=w)(h2:w<=1000)(hl:cs.length=w)(st:St)(K Kp:AV->St->Prop)(hK:∀ b s',Cl s' b cs->st.nx<=b->ApL st.nx st s'->K (.slice b 0 w w 1 false) s'):XB γ base 74 [.lst w cs] st K Kp:=by
 have N:∀ (s:St) (K:AV->St->Prop),ji (JI γ .eql 58 true (.lst w cs) .nils s) K=K (.bool false) s:=λs K=>by
  obtain⟨j,rfl⟩:∃ j,w=j+1:=⟨w - 1,om⟩;have:JI γ .eql 58 true (.lst (j+1) cs) .nils s=.ok (.bool false) s:=by kernel_rfl
  rw[this];rfl
 refine yr jsx (by rfl) (hb.at0 74 dc dc _ _) ?_;simp only[jnu,jh,ζ,η,θ,κ];rw[(by unfold jil;simp only[qq];rfl:jil=_)];obtain⟨v',s',e,w',q⟩:=jtN (s:=Go.Sy.nw st.bare []) (lo:=st.nx) (hi:=st.nx+1) (bytes:=4) (z:=1) (n:=0) (cs:=[]) (cs2:=cs) (n2:=w) (v:=.slice st.nx 0 0 0 1 true) (Lw.new (s:=st.bare) (z:=1) (μ _) (Qbb _)) (μ _) (by rw[hl,QaB]) dc om om;repeat'(first|apply jb<;>intro _|simp(disch:=first|exact dzA|fail) only[N,e,rzZ,δ,ε])
 obtain⟨b,ex,rfl,hex,h3,C,h5,h6⟩:=w';rw[Qag] at hex ⊢;have:ex=false:=by
  cases ex with
  |false=>rfl
  |true=>have:=hex rfl;omega
 subst this;refine hK _ _ ⟨C.lt,C.row,C.len,C.cell⟩ h5 ⟨?_,rfl,λc hc hl=>?_⟩
 ·have:=q.nx;rw[je] at this;exact Nat.le_of_succ_le this
 ·exact(q.hp c hc (by rw[je];exact Nat.lt_succ_of_lt hl)).trans (yn (Qbe hl))
theorem jqG {s:St}{b k:Nat}{y:AV}{cs:List AV}(C:Cl s b cs)(hl:cs.length=k)(h0:0<k)(hs:k<=1000):∃ s',(∀ K:AV->St->Prop,ji (Xo 1 4 (.slice b 0 k k 1 false) (.slice s.nx 0 1 1 1 true) (nw s [y])) K=K (.slice (s.nx+1) 0 (k+1) (k+1) 1 false) s')/\Cl s' (s.nx+1) (cs ++ [y])/\s.nx<=s'.nx/\s'.fr=s.fr/\∀ c,c≠b->c<s.nx->jx s'.h c=jx s.h c:=by
 have hlt:=C.lt;have V:Lv b (b+1) (nw s [y]) (.slice b 0 k k 1 false) k cs 1:=.inr ⟨b,rfl,h0,by rw[hl,QaB],C.nw _,μ _,Qbb _⟩;have hr:rats (nw s [y]).h s.nx 0 1=[y]:=(Cl.new s [y]).rats0 rfl;have A:=V.app (news:=[y]) rfl (by rw[je];omega);refine⟨aps (.slice b 0 k k 1 false) (nw s [y]) [y],λK=>?_,?_,by rw[jk,je];omega,by rw[YA,Zo],λc h1 h2=>?_⟩
 ·rw[JR V dc om om (by rw[(Cl.new s [y]).len];exact μ 1),hr];rfl
 ·rcases A with ⟨e,_⟩|⟨c,e,_,_,D,_⟩
  ·cases e
  ·injection e with e1
   rw[je] at e1;rw[e1];exact D
 ·exact(V.get _ _ c om (by rw[je];omega)).trans (yn om)
theorem jtL {f:Nat->Bool}{k:Nat}{p:Bool}(h:f k=p):bs f k ++ [eb p]=bs f (k+1):=by
 unfold bs;rw[List.range_succ,Qbd];simp[h]
set_option maxHeartbeats 4000000 in
theorem Gh (hb:NB base){n:Int}{w v:Nat}(h1:1<=w)(h2:w<=v)(h3:v<=32)(hf:Jw n n w)(st:St)(K Kp:AV->St->Prop)(hK:∀ b s',Cl s' b (bs (bt n) v)->st.nx<=b->ApL st.nx st s'->K (.tup [.slice b 0 v v 1 false,.int .i64 0]) s'):XB γ base 40 [bv (bt n) w,.int .i64 (v:Int)] st K Kp:=by
 have R:=jaT hb (bs (bt n) w) h1 om;have d1:¬ (v:Int)<(w:Int):=om
 have d2:¬ (32:Int)<(v:Int):=om
 have hbn:st.bare.nx=st.nx:=rfl;refine yr jsI (by rfl) (hb.at0 40 dc dc _ _) ?_;simp only[jnF,jh,ζ,η,θ,κ];unfold bv;rw[(by unfold jiw;simp only[qq];rfl:jiw=_)];repeat'(first|apply jb<;>intro _|simp(disch:=first|exact dzA|fail) only[R,d1,d2,rzZ,δ,ε])
 refine jnn hb h1 om (qT _ _) _ _ _ λb0 s1 C1 hb0 a1=>?_;repeat'(first|apply jb<;>intro _|simp(disch:=first|exact dzA|fail) only[rzZ,δ,ε])
 refine yz (λmm L s=>∃ k b,w<=k/\k<=v/\mm=v - k/\Cl s b (bs (bt n) k)/\st.nx<=b/\st.nx<=s.nx/\ApL st.nx st.bare s/\Has L 6 (.slice b 0 k k 1 false)/\Has L 0 (.lst w (bs (bt n) w))/\Has L 1 (.int .i64 (v:Int))) ?_ (v - w) ?_
 ·rintro mm L s ⟨k,b,q1,q2,rfl,C,q3,q4,A,i6,i0,i1⟩;unfold VI;by_cases hk:k<v
  ·have d3:(k:Int)<(v:Int):=om
   obtain⟨s2,e,C2,n2,f2,k2⟩:=jqG (y:=eb (bt n (w - 1))) C (qT _ _) om om;have eb1:(bs (bt n) w).getD ((w:Int) - 1).toNat .bad=eb (bt n (w - 1)):=by
    rw[show((w:Int) - 1).toNat=w - 1 by omega];exact YI om
   have hl:=qT (bt n) w;repeat'(first|apply jb<;>intro _|simp(disch:=first|exact dzA|fail) only[ja i6,ja i0,ja i1,qU,hl,eb1,e,rzZ,δ,ε])
   have ek:((k+1:Nat):Int)=(k:Int)+1:=om
   rw[jtL (by rw[uQ hf om,uQ hf (μ _)])] at C2;refine⟨v - (k+1),om,k+1,s.nx+1,om,om,rfl,C2,om,om,⟨by have:=A.nx;omega,f2.trans A.fr,λc hc hl=>(k2 c om om).trans (A.hp c hc hl)⟩,?_,?_,?_⟩;all_goals exact hsX
  ·have hkv:k=v:=om
   subst hkv;have d3:¬ (k:Int)<(k:Int):=om
   repeat'(first|apply jb<;>intro _|simp(disch:=first|exact dzA|fail) only[ja i6,ja i0,ja i1,d3,rzZ,δ,ε])
   exact hK _ _ ⟨C.lt,C.row,C.len,C.cell⟩ q3 ⟨A.nx,rfl,A.hp⟩
 ·rw[je] at hb0;have A:=(ApL.nwO st.bare [.lst w (bs (bt n) w)]).trans a1 (by rw[je];exact Qbg _);have hn1:=A.nx;refine⟨w,b0,μ _,h2,rfl,C1,om,om,A,?_,?_,?_⟩<;>exact hsX
set_option maxHeartbeats 4000000 in
theorem jgz (hb:NB base){n m:Int}{w v u:Nat}(h1:1<=w)(h2:w<=32)(h3:1<=v)(h4:v<=32)(hu:u=max w v)(hn:Jw n n w)(hm:Jw m m v)(st:St)(K Kp:AV->St->Prop)(hK:∀ b c s',Cl s' b (bs (bt n) u)->Cl s' c (bs (bt m) u)->b≠c->st.nx<=b->st.nx<=c->ApL st.nx st s'->K (.tup [.slice b 0 u u 1 false,.slice c 0 u u 1 false,.int .i64 0]) s'):XB γ base 77 [gV,bv (bt n) w,bv (bt m) v,.int .i64 0] st K Kp:=by
 have R:=jjN hb (bs (bt n) w) (bs (bt m) v) h1 h2 h3 h4;have E:=jmP hb (f:=bt n) (g:=bt m) h1 h2 h3 h4;have hx:max (w:Int) (v:Int)=(u:Int):=om
 have d2:¬ (32:Int)<(u:Int):=om
 have hbn:st.bare.nx=st.nx:=rfl;refine yr jsu (by rfl) (hb.at0 77 dc dc _ _) ?_;simp only[jnr,jh,ζ,η,θ,κ];rw[(by unfold jii;simp only[qq];rfl:jii=_)];unfold bv at E ⊢;repeat'(first|apply jb<;>intro _|simp(disch:=first|exact dzA|fail) only[R,E,hx,Int.add_zero,d2,rzZ,δ,ε])
 refine Gh hb h1 om om hn _ _ _ λb s1 C1 hb1 a1=>?_;repeat'(first|apply jb<;>intro _|simp(disch:=first|exact dzA|fail) only[rzZ,δ,ε])
 refine Gh hb h3 om om hm _ _ _ λc s2 C2 hc2 a2=>?_;repeat'(first|apply jb<;>intro _|simp(disch:=first|exact dzA|fail) only[rzZ,δ,ε])
 have A1:=((ApL.nwO st.bare [.lst w (bs (bt n) w),.lst v (bs (bt m) v)]).trans (ApL.nwO _ [.lst w (bs (bt n) w),.lst v (bs (bt m) v)]) (by rw[je];exact Qbg _)).trans a1 (by rw[je,je];omega);have A:=A1.trans a2 A1.nx;rw[je,je] at hb1;have hn1:=A1.nx;have hlt:=C1.lt;have D1:=a2.cl _ _ hlt C1;exact hK b c _ ⟨D1.lt,D1.row,D1.len,D1.cell⟩ ⟨C2.lt,C2.row,C2.len,C2.cell⟩ om om om ⟨A.nx,rfl,A.hp⟩
section
variable {st:St} {K:AV->St->Prop}
theorem jk7 (a b c:AV):ji (WC 0 (.tup [a,b,c]) st) K=K a st:=nr rfl
theorem jk6 (a b c:AV):ji (WC 1 (.tup [a,b,c]) st) K=K b st:=nr rfl
theorem jk5 (a b c:AV):ji (WC 2 (.tup [a,b,c]) st) K=K c st:=nr rfl
end
theorem Wn {n:Int}{w v u:Nat}(hn:Jw n n w)(h:w<=u):Jw n n u:=jdq hn (Int.le_refl n) (Int.le_refl n) h
theorem jhU (f:Nat->Bool)(u:Nat):bs f u=ebs ((Qab u).map f):=by simp[bs,ebs]
def mk (k:Nat)(f:Nat->Bool)(i:Nat):Bool:=decide (i<k) && f i
theorem jrW {s:St}{b k u:Nat}{f:Nat->Bool}(C:Cl s b (bs (mk k f) u))(hk:k<u):Cl (Go.Sy.wr s b k [eb (f k)]) b (bs (mk (k+1) f) u):=by
 rw[<-jb0 (f:=mk k f) (b:=f k) hk λi hi=>?_]
 ·exact C.wr k _
 ·unfold mk;by_cases e:i=k
  ·subst e;simp
  ·have:(i<k+1)=(i<k):=by rw[eq_iff_iff];omega
   simp[e,this]
theorem jpx (f:Nat->Bool)(u:Nat):bs (mk u f) u=bs f u:=jb1 λi hi=>by simp[mk,hi]
set_option maxHeartbeats 4000000 in
theorem jnk (hb:NB base){n m:Int}{w v:Nat}(h1:1<=w)(h2:w<=32)(h3:1<=v)(h4:v<=32)(hn:Jw n n w)(hm:Jw m m v):PL γ base 45 [gV,bv (bt n) w,bv (bt m) v] (.ok (.tup [eb (decide (n=m)),.int .i64 0])):=by
 obtain⟨u,hu⟩:∃ u,u=max w v:=⟨_,rfl⟩;have hS:=jh8 hb;have hX:=jm5 (w:=u) om (Wn (v:=v) hn om) (Wn (v:=v) hm om);refine qB jsE (by rfl) (hb.pur 45 5 dc) rfl ?_;simp only[jnB,jh,ζ,η,θ,κ];rw[(by unfold jis;simp only[qq];rfl:jis=_)];repeat'(first|apply jb<;>intro _|simp(disch:=first|exact dzA|fail) only[rzZ,δ,ε])
 refine jgz hb h1 h2 h3 h4 hu hn hm _ _ _ λb c s1 C1 D1 hbc hb1 hc1 a1=>?_;have hb2:=C1.lt;have hc2:=D1.lt;repeat'(first|apply jb<;>intro _|simp(disch:=first|exact dzA|fail) only[Um,jk7,jk6,jk5,rzZ,δ,ε])
 refine V5 (bytes:=4) (l:=0) (c:=u) om om om λs2 M=>?_;have E2:Cl s2 s1.nx (bs (mk 0 λi=>bt n i == bt m i) u):=M.cl (by rw[qT,QaB]) λi hi=>by rw[YI om,Nat.mod_one];rfl
 have A2:=M.apl;have n2:=M.nx;have C2:=A2.cl _ _ hb2 C1;have D2:=A2.cl _ _ hc2 D1;clear M A2 C1 D1;generalize s1.nx=d at *;repeat'(first|apply jb<;>intro _|simp(disch:=first|exact dzA|fail) only[rzZ,δ,ε])
 refine jZ u (λk L s=>(Cl s b (bs (bt n) u)/\Cl s c (bs (bt m) u)/\Cl s d (bs (mk k λi=>bt n i == bt m i) u))/\Has L 0 gV/\Has L 8 (.slice b 0 u u 1 false)/\Has L 9 (.slice c 0 u u 1 false)/\Has L 11 (.slice d 0 k u 1 true)) ?_ (λk L s hk hI hi hn=>?_) (λL s hI=>?_)
 ·refine⟨⟨C2,D2,E2⟩,?_,?_,?_,?_⟩<;>exact hsX
 ·obtain⟨⟨C,D,E⟩,i0,i8,i9,i11⟩:=hI;have g1:=(C.cell k (by rw[qT];exact hk)).trans (YI hk);have g2:=(D.cell k (by rw[qT];exact hk)).trans (YI hk);have l1:qh s.h b=u:=by rw[C.len,qT]
  have l2:qh s.h c=u:=by rw[D.len,qT]
  have e:=λK:AV->St->Prop=>Ux (K:=K) (bytes:=4) (xc:=1) (xx:=true) (ex:=true) (E.nw [eb (bt n k == bt m k)]) (qT _ _) (show k+1<=u by omega) (Cl.new s [eb (bt n k == bt m k)]);repeat'(first|apply jb<;>intro _|simp(disch:=first|exact dzA|fail) only[ja i0,ja i8,ja i9,ja i11,ja hi,ja hn,g1,g2,l1,l2,hS,e,rzZ,δ,ε])
  refine⟨⟨⟨(C.nw _).wrO om _ _,(D.nw _).wrO om _ _,jrW (E.nw _) hk⟩,?_,?_,?_,?_⟩,?_,?_⟩;all_goals exact hsX
 ·obtain⟨⟨C,D,E⟩,i0,i8,i9,i11⟩:=hI;rw[jpx,jhU] at E;have e:=λK Kp=>jfK hb (l:=(Qab u).map λi=>bt n i == bt m i) (n:=u) (by simp) om s d u true K Kp E;rw[List.all_map] at e;repeat'(first|apply jb<;>intro _|simp(disch:=first|exact dzA|fail) only[ja i0,ja i11,e,rzZ,δ,ε])
  exact t2v (congrArg eb hX) rfl rfl rfl
theorem jgu {s:St}{b u:Nat}{p q:Nat->Bool}(C:Cl s b (bs p u))(hu:1<=u):Cl (Go.Sy.wr s b (u - 1) [eb (q (u - 1))]) b (bs (swp u p q) u):=by
 rw[<-jb0 (f:=p) (k:=u - 1) (b:=q (u - 1)) om λi hi=>?_]
 ·exact C.wr _ _
 ·unfold swp;by_cases e:i=u - 1
  ·subst e;simp
  ·simp[e]
set_option maxHeartbeats 4000000 in
theorem jib (hb:NB base){n m:Int}{w v:Nat}(h1:1<=w)(h2:w<=32)(h3:1<=v)(h4:v<=32)(hn:Jw n n w)(hm:Jw m m v):PL γ base 113 [gV,bv (bt n) w,bv (bt m) v] (.ok (.tup [eb (decide (n<m)),.int .i64 0])):=by
 obtain⟨u,hu⟩:∃ u,u=max w v:=⟨_,rfl⟩;have hS:=jh8 hb;have hI2:=jqR hb;have hX:=jmK (w:=u) om (Wn (v:=v) hn om) (Wn (v:=v) hm om);refine qB jq6 (by rfl) (hb.pur 113 5 dc) rfl ?_;simp only[jkP,jh,ζ,η,θ,κ];rw[(by unfold jdR;simp only[qq];rfl:jdR=_)];repeat'(first|apply jb<;>intro _|simp(disch:=first|exact dzA|fail) only[rzZ,δ,ε])
 refine jgz hb h1 h2 h3 h4 hu hn hm _ _ _ λb c s1 C1 D1 hbc hb1 hc1 a1=>?_;have hu1:1<=u:=om
 have eu:((u:Int) - 1).toNat=u - 1:=om
 have g1:=(C1.cell (u - 1) (by rw[qT];omega)).trans (YI om);have g2:=(D1.cell (u - 1) (by rw[qT];omega)).trans (YI om);have l1:qh s1.h b=u:=by rw[C1.len,qT]
 have l2:qh s1.h c=u:=by rw[D1.len,qT]
 have C2:=(jgu (q:=bt m) C1 hu1).wrO hbc (u - 1) [eb (bt n (u - 1))];have D2:=jgu (q:=bt n) (D1.wrO (λh=>hbc h.symm) (u - 1) [eb (bt m (u - 1))]) hu1;repeat'(first|apply jb<;>intro _|simp(disch:=first|exact dzA|fail) only[jk7,jk6,jk5,eu,g1,g2,l1,l2,rzZ,δ,ε])
 generalize Go.Sy.wr (Go.Sy.wr s1 b (u - 1) [eb (bt m (u - 1))]) c (u - 1) [eb (bt n (u - 1))]=s2 at *;generalize swp u (bt n) (bt m)=p at *;generalize swp u (bt m) (bt n)=q at *;refine jZ u (λk L s=>(Cl s b (bs p u)/\Cl s c (bs q u))/\Has L 0 gV/\Has L 8 (.slice b 0 u u 1 false)/\Has L 9 (.slice c 0 u u 1 false)/\Has L 11 (eb (QG p q k))) ?_ (λk L s hk hI hi hn=>?_) (λL s hI=>?_)
 ·refine⟨⟨C2,D2⟩,?_,?_,?_,?_⟩;exact hsX;exact hsX;exact hsX;show Has _ 11 (.int .u32 0);simp(disch:=decide) only[jf,jn]
 ·obtain⟨⟨C,D⟩,i0,i8,i9,i11⟩:=hI;have g1:=(C.cell k (by rw[qT];exact hk)).trans (YI hk);have g2:=(D.cell k (by rw[qT];exact hk)).trans (YI hk);have l1:qh s.h b=u:=by rw[C.len,qT]
  have l2:qh s.h c=u:=by rw[D.len,qT]
  have ek:QG p q (k+1)=if(p k == q k)=true then QG p q k else q k:=by
   rw[QG];cases p k<;>cases q k<;>rfl
  rw[ek];repeat'(first|apply jb<;>intro _|simp(disch:=first|exact dzA|fail) only[ja i0,ja i8,ja i9,ja i11,ja hi,ja hn,g1,g2,l1,l2,hS,hI2,rzZ,δ,ε])
  refine⟨⟨⟨C,D⟩,?_,?_,?_,?_⟩,?_,?_⟩;all_goals exact hsX
 ·obtain⟨⟨C,D⟩,i0,i8,i9,i11⟩:=hI;rw[hX] at i11;repeat'(first|apply jb<;>intro _|simp(disch:=first|exact dzA|fail) only[ja i11,rzZ,δ,ε])
  exact t2v rfl rfl rfl rfl
theorem jrf {P:Program}{a:XC}{L:Sl}{st:St}{Q:Out->Prop}{Kp:AV->Sl->St->Prop}(h:xC P base a L st (Jv (λ_ _=>False) Q) Kp):xC P base (.loop a) L st Q Kp:=⟨1,h⟩
theorem jre {P:Program}{a:XC}{L:Sl}{st:St}{Q:Out->Prop}{Kp:AV->Sl->St->Prop}(h:xC P base a L st (Jv (λL st=>xC P base a L st (Jv (λ_ _=>False) Q) Kp) Q) Kp):xC P base (.loop a) L st Q Kp:=⟨2,h⟩
theorem jpa (hb:NB base)(p:Bool)(st:St)(a b n:Nat)(x:Bool)(K Kp:AV->St->Prop)(C:Cl st b [.slice a 0 1 n 1 x])(D:Cl st a [.bool false]):XB γ base 80 [eb p,.ptr b 0] st K Kp=K (.bool p) st:=by
 refine PL.xb (?_:PL γ base 80 [eb p,.lptr [.lst 1 [.bool false]] 0] (.ok (.bool p))) (yb rfl (qr (QR C (yw ⟨_,Up (d:=7) D rfl rfl⟩ rfl wM)) rfl)) (λst=>hb.no 80 dc _ _) K Kp;cases p;all_goals
  refine qB jsr (by rfl) (hb.pur 80 5 dc) rfl ?_;simp only[jno,jh,ζ,η,θ,κ];rw[(by unfold jif;simp only[qq];rfl:jif=_)];repeat'(first|apply jb<;>intro _|simp(disch:=first|exact dzA|fail) only[gR,jrS,rzZ,δ,ε])
  exact G0.v rfl rfl
theorem jtI (a b:AV)(st:St)(K:AV->St->Prop):ji (Qz 2 (.lptr [a,b] 0) st) K=K (.agg [a,b]) st:=jga (cs:=[a,b]) (k:=2) (o:=0) (μ 2)
theorem jpq (st:St)(K:AV->St->Prop):ji (JI γ .neq 166 false (.agg [.int .u32 0,.int .u32 0]) (.agg [.int .u32 0,.int .u32 0]) st) K=K (.bool false) st:=by
 have:JI γ .neq 166 false (.agg [.int .u32 0,.int .u32 0]) (.agg [.int .u32 0,.int .u32 0]) st=.ok (.bool false) st:=by kernel_rfl
 rw[this];rfl
def Fl (s:St)(d k:Nat)(ls:List AV):Prop:=∃ cs,Cl s d cs/\cs.length=ls.length/\cs.take k=ls.take k
theorem Fl.wr {s:St}{d k:Nat}{ls:List AV}(h:Fl s d k ls)(hk:k<ls.length):Fl (Go.Sy.wr s d k [ls[k]]) d (k+1) ls:=by
 obtain⟨cs,C,hl,e⟩:=h;refine⟨cs.set k ls[k],gt▸C.wr k _,by rw[List.length_set,hl],?_⟩;rw[Qbw hk,Qbw (by rw[List.length_set];omega),List.take_set_of_le (μ k),e,List.getElem_set_self]
theorem Fl.nw {s:St}{d k:Nat}{ls:List AV}(h:Fl s d k ls)(ds:List AV):Fl (Go.Sy.nw s ds) d k ls:=by
 obtain⟨cs,C,hl,e⟩:=h;exact⟨cs,C.nw ds,hl,e⟩
theorem Fl.cl {s:St}{d k:Nat}{ls:List AV}(h:Fl s d k ls)(hk:ls.length<=k):Cl s d ls:=by
 obtain⟨cs,C,hl,e⟩:=h;rw[QaV hk,QaV om] at e;exact e▸C
set_option maxHeartbeats 8000000 in
theorem jid (hb:NB base)(l:List Bool)(n:Nat)(hN:l.length=n)(hs:n<=1000000):PX γ base 47 [gV,.lst 0 [],.lst n (ebs l)] (.ok (.tup [.lst n (l.map .bool),.int .i64 0])):=by
 have T:=hb.pl (gy hb l n hN hs) rfl rfl;have hl:(ebs l).length=n:=by simpa[ebs] using hN
 refine jF jsC (by rfl) (hb.pur 47 1 dc) ?_;simp only[jnz,jh,ζ,η,θ,κ];rw[(by unfold jiq;simp only[qq];rfl:jiq=_)];repeat'(first|apply jb<;>intro _|simp(disch:=first|exact dzA|fail) only[T,Um,gR,rzZ,δ,ε])
 refine V5 (bytes:=1) (l:=1) (c:=1) om om om λs1 M=>?_;have C1:Cl s1 0 [.bool false]:=M.cl rfl λi hi=>by rw[show i=0 by omega]
 have n1:s1.nx=1:=M.nx;clear M;have C2:Cl (Go.Sy.wr (Go.Sy.nw s1 [.nils]) 1 0 [.slice 0 0 1 1 1 true]) 1 [.slice 0 0 1 1 1 true]:=(n1▸Cl.new s1 [.nils]:Cl (Go.Sy.nw s1 [.nils]) 1 [.nils]).wr 0 _;have D2:Cl (Go.Sy.wr (Go.Sy.nw s1 [.nils]) 1 0 [.slice 0 0 1 1 1 true]) 0 [.bool false]:=(C1.nw _).wrO dc _ _;have n2:(Go.Sy.wr (Go.Sy.nw s1 [.nils]) 1 0 [.slice 0 0 1 1 1 true]).nx=2:=by rw[jg,je,n1]
 repeat'(first|apply jb<;>intro _|simp(disch:=first|exact dzA|fail) only[gR,n1,rzZ,δ,ε])
 refine jrf ?_;repeat'(first|apply jb<;>intro _|simp(disch:=first|exact dzA|fail) only[gR,rzZ,δ,ε])
 generalize Go.Sy.wr (Go.Sy.nw s1 [.nils]) 1 0 [.slice 0 0 1 1 1 true]=s2 at *;clear C1 n1;refine jre ?_;repeat'(first|apply jb<;>intro _|simp(disch:=first|exact dzA|fail) only[gR,n2,jpq,jtI,Um,rzZ,δ,ε])
 refine V5 (bytes:=1) (l:=0) (c:=n) om om om λs3 M=>?_;have n3:s3.nx=4:=by rw[M.nx,jg,je,n2]
 have C3:=M.apl.cl _ _ (by rw[jg,je,n2];decide) ((C2.nw [.int .u32 0,.int .u32 0]).wrO (c:=2) dc 0 [.int .u32 0,.int .u32 0]);have D3:=M.apl.cl _ _ (by rw[jg,je,n2];decide) ((D2.nw [.int .u32 0,.int .u32 0]).wrO (c:=2) dc 0 [.int .u32 0,.int .u32 0]);have F3:Fl s3 3 0 (l.map .bool):=by
  have:=M.cl (cs:=List.replicate n (.bool false)) (by simp) λi hi=>by
   rw[QaB] at hi;rw[Nat.mod_one,Qan,Qan,List.getElem?_replicate,if_pos hi];rfl
  rw[jg,je,n2] at this;exact⟨_,this,by simp[hN],rfl⟩
 have e3:(Go.Sy.wr (Go.Sy.nw s2 [AV.int IntKind.u32 0,AV.int IntKind.u32 0]) 2 0 [AV.int IntKind.u32 0,AV.int IntKind.u32 0]).nx=3:=by rw[jg,je,n2]
 clear M C2 D2;rw[e3];repeat'(first|apply jb<;>intro _|simp(disch:=first|exact dzA|fail) only[rzZ,δ,ε])
 refine jZ n (λk L s=>(Fl s 3 k (l.map .bool)/\Cl s 1 [.slice 0 0 1 1 1 true]/\Cl s 0 [.bool false]/\4<=s.nx)/\Has L 83 (.lst n (ebs l))/\Has L 14 (.slice 3 0 k n 1 true)/\Has L 11 (.fn 80 [.ptr 1 0])) ?_ (λk L s hk hI hi hn=>?_) (λL s hI=>?_)
 ·refine⟨⟨F3,C3,D3,om⟩,?_,?_,?_⟩<;>exact hsX
 ·obtain⟨⟨F,C,D,n4⟩,i83,i14,i11⟩:=hI;have hkl:k<l.length:=om
  have e2:=jbN hkl;have hS:=λK Kp=>jpa hb l[k] s 0 1 1 true K Kp C D;obtain⟨cs,F1,hl1,_⟩:=F.nw [.bool l[k]];have e:=λK:AV->St->Prop=>Ux (K:=K) (cap:=n) (bytes:=1) (xc:=1) (xx:=true) (ex:=true) F1 (by rw[hl1,Qaq,hN]) (show k+1<=n by omega) (Cl.new s [.bool l[k]]);have F2:=(F.nw [.bool l[k]]).wr (by rw[Qaq];exact hkl);rw[List.getElem_map] at F2;repeat'(first|apply jb<;>intro _|simp(disch:=first|exact dzA|fail) only[ja i83,ja i14,ja i11,ja hi,ja hn,qU,hl,e2,hS,e,rzZ,δ,ε])
  refine⟨⟨⟨F2,(C.nw _).wrO dc _ _,(D.nw _).wrO dc _ _,?_⟩,?_,?_,?_⟩,?_,?_⟩
  ·omega
  all_goals exact hsX
 ·obtain⟨⟨F,C,D,n4⟩,i83,i14,i11⟩:=hI;have C:=F.cl (by rw[Qaq,hN];exact μ n);repeat'(first|apply jb<;>intro _|simp(disch:=first|exact dzA|fail) only[ja i14,rzZ,δ,ε])
  refine FzD.tup (.cons (FzD.slice (Cl.rw_ (b:=3) (cs:=l.map .bool) (by simp only[jz];exact C)) (by simp[hN]) (Qaa _) ?_) (.cons (.pc rfl) .nil));rw[QaV (by simp[hN])];exact FzsD.pc (by simp[pc])
set_option maxHeartbeats 8000000 in
theorem jkH (hb:NB base){n:Int}{w:Nat}(h1:1<=w)(h2:w<=32)(hf:Jw n n w):PL γ base 48 [gV,.lst 0 [],bv (bt n) w] (.ok (.tup [.int .i64 n,.int .i64 0])):=by
 have R:=jaT hb (bs (bt n) w) h1 h2;have E:=hb.tot (jid hb ((Qab w).map (bt n)) w (by simp) om) rfl rfl;rw[<-jhU,QaW] at E;have hl:((Qab w).map (AV.bool ∘ bt n)).length=w:=by simp
 have hg:∀ k,k<w->((Qab w).map (AV.bool ∘ bt n)).getD k .bad=.bool (bt n k):=λk hk=>by
  rw[Qan,Qbj,QbS hk];rfl
 have hm:=vj hf h1;have hgw:=hg (w - 1) om;have hq:∀ k,k<=32->(2:Int) ^ k<=4294967296:=λk hk=>by
  have:=Qbq (n:=2) dc hk;rw[<-kZ];omega
 generalize (Qab w).map (AV.bool ∘ bt n)=l at *;refine qB jsB (by rfl) (hb.pur 48 5 dc) rfl ?_;simp only[jny,jh,ζ,η,θ,κ];rw[(by unfold jip;simp only[qq];rfl:jip=_)];unfold bv;repeat'(first|apply jb<;>intro _|simp(disch:=first|exact dzA|fail) only[R,E,rzZ,δ,ε])
 refine jZ w (λk L s=>Has L 8 (.lst w l)/\Has L 27 (.lst w l)/\Has L 10 (.int .i64 (n % 2 ^ k))) ?_ (λk L s hk hI hi hn=>?_) (λL s hI=>?_)
 ·rw[show n % 2 ^ 0=0 by simp[Int.emod_one]];simp(disch:=decide) only[h12]
 ·obtain⟨i8,i27,i10⟩:=hI;have e:=hg k hk;have hb1:=V7 n k;have hb2:=hq k om;have eL:∀ (st:St) (K:AV->St->Prop),ji (u7 .shl (.int .i64 1) (.int .i64 (k:Int)) st) K=K (.int .i64 (2 ^ k)) st:=λst K=>by rw[jaG om,kZ]
  have eS:=V8 n k;cases hbk:bt n k with
  |false=>
   rw[hbk] at e eS;rw[show n % 2 ^ (k+1)=n % 2 ^ k by rw[eS];simp];repeat'(first|apply jb<;>intro _|simp(disch:=first|exact dzA|fail) only[ja i8,ja i27,ja hi,ja hn,qU,hl,e,rzZ,δ,ε])
   refine⟨⟨?_,?_,?_⟩,?_,?_⟩;all_goals exact hsX
  |true=>
   rw[hbk] at e eS;rw[show n % 2 ^ (k+1)=n % 2 ^ k+2 ^ k by rw[eS];simp];generalize (2:Int) ^ k=q at *;generalize n % q=a at *;repeat'(first|apply jb<;>intro _|simp(disch:=first|exact dzA|fail) only[ja i8,ja i27,ja i10,ja hi,ja hn,qU,hl,e,eL,rzZ,δ,ε])
   refine⟨⟨?_,?_,?_⟩,?_,?_⟩;all_goals exact hsX
 ·obtain⟨i8,i27,i10⟩:=hI;have hb1:=V7 n w;have hb2:=hq w om;have hx:((w:Int) - 1).toNat=w - 1:=om
  have eL:∀ (st:St) (K:AV->St->Prop),ji (u7 .shl (.int .i64 1) (.int .i64 (w:Int)) st) K=K (.int .i64 (2 ^ w)) st:=λst K=>by rw[jaG om,kZ]
  generalize (2:Int) ^ w=q at *;cases hbk:bt n (w - 1) with
  |false=>
   rw[hbk] at hm hgw;repeat'(first|apply jb<;>intro _|simp(disch:=first|exact dzA|fail) only[ja i8,ja i10,qU,hl,hx,hgw,rzZ,δ,ε])
   exact t2v (by rw[hm];simp) rfl rfl rfl
  |true=>
   rw[hbk] at hm hgw;generalize n % q=a at *;repeat'(first|apply jb<;>intro _|simp(disch:=first|exact dzA|fail) only[ja i8,ja i10,qU,hl,hx,hgw,eL,rzZ,δ,ε])
   exact t2v (by rw[hm];simp) rfl rfl rfl
end Go.Sy
end
noncomputable section
set_option maxRecDepth 100000
namespace Go.Sy
open Go.Ev Go.Proofs
variable {base:Bs}
def Xr (vars:List VarT)(s:List Int):Bool:=decide (s.length=vars.length) && (Qab vars.length).all λi=>decide ((vars.getD i ⟨[],0,[],0,0,false,0⟩).lo<=s.getD i 0) && decide (s.getD i 0<=(vars.getD i ⟨[],0,[],0,0,false,0⟩).hi)
def svV (s:List Int):AV:=.lst s.length (s.map (.int .i64))
abbrev SvT:=List Int
theorem Z0 {vars:List VarT}{s:List Int}:Xr vars s=true↔s.length=vars.length/\∀ i (h1:i<vars.length) (h2:i<s.length),vars[i].lo<=s[i]/\s[i]<=vars[i].hi:=by
 unfold Xr;rw[χ,decide_eq_true_eq,Qae];refine⟨λ⟨a,b⟩=>⟨a,λi h1 h2=>?_⟩,λ⟨a,b⟩=>⟨a,λi hi=>?_⟩⟩
 ·have:=b i (Qbp.2 h1);rw[Qan,Qai h1,Qan,Qai h2] at this;simpa using this
 ·have h1:=Qbp.1 hi;have:=b i h1 om;rw[Qan,Qai h1,Qan,Qai (show i<s.length by omega)];simpa using this
theorem Zx {vars:List VarT}{s:List Int}(h:¬ (s.length=vars.length/\∀ i (h1:i<vars.length) (h2:i<s.length),vars[i].lo<=s[i]/\s[i]<=vars[i].hi)):Xr vars s=false:=by
 rw[Qce];exact λk=>h (Z0.1 k)
set_option maxHeartbeats 4000000 in
theorem jjL (hb:NB base)(m:ModT)(sv:List Int)(hm:m.vars.length<=1000000)(hs:sv.length<=1099511627776):PL γ base 38 [.agg (mdE m),svV sv] (.ok (.bool (Xr m.vars sv))):=by
 unfold svV;have hl:((sv.length:Int)=(m.vars.length:Int))=(sv.length=m.vars.length):=by rw[eq_iff_iff];omega
 refine qB jsK (by rfl) (hb.pur 38 5 dc) rfl ?_;simp only[jnH,jh,ζ,η,θ,κ];rw[(by unfold jiy;simp only[qq];rfl:jiy=_)];repeat'(first|apply jb<;>intro _|simp(disch:=first|exact dzG|fail) only[hl,r8,δ,ε])
 ·rename_i h;exact G0.v (congrArg AV.bool (Zx λk=>h k.1).symm) rfl
 ·rename_i h;have h:sv.length=m.vars.length:=by simpa using h
  refine jZ m.vars.length (λk L st=>(∀ j (h1:j<m.vars.length) (h2:j<sv.length),j<k->m.vars[j].lo<=sv[j]/\sv[j]<=m.vars[j].hi)/\1<=st.nx/\Has L 1 (.lst sv.length (sv.map (.int .i64)))/\Has L 14 (.lst m.vars.length (fl vaE m.vars))) ?_ (λk L s hk hI hi hn=>?_) (λL s hI=>?_)
  ·refine⟨λj h1 h2 hj=>absurd hj (QaJ _),by(first|omega|(simp only[je,jg,jo,jk,jj];first|done|omega)),?_,?_⟩<;>exact hsX
  ·obtain⟨h0,n1,i1,i14⟩:=hI;have hks:k<sv.length:=om
   repeat'(first|apply jb<;>intro _|simp(disch:=first|exact dzG|fail) only[ja i1,ja i14,ja hi,ja hn,Zt,r8,δ,ε])
   ·rename_i h3;refine G0.v (congrArg AV.bool (Zx λw=>?_).symm) rfl;have:=(w.2 k hk hks).1;omega
   ·rename_i h3 h4;refine G0.v (congrArg AV.bool (Zx λw=>?_).symm) rfl;have:=(w.2 k hk hks).2;omega
   ·rename_i h3 h4;refine⟨⟨λj h1 h2 hj=>?_,om,?_,?_⟩,?_,?_⟩
    ·by_cases e:j=k
     ·subst e;omega
     ·exact h0 j h1 h2 om
    all_goals exact hsX
  ·obtain⟨h0,n1,i1,i14⟩:=hI;repeat'(first|apply jb<;>intro _|simp(disch:=first|exact dzG|fail) only[r8,δ,ε])
   exact G0.v (congrArg AV.bool (Z0.2 ⟨h,λi h1 h2=>h0 i h1 h2 h1⟩).symm) rfl
set_option maxHeartbeats 4000000 in
theorem jmW (hb:NB base)(a b:List Int)(ha:a.length<=1099511627776)(hb2:b.length<=1099511627776):PX γ base 17 [svV a,svV b] (.ok (.bool (decide (a=b)))):=by
 unfold svV;have hl:((a.length:Int)=(b.length:Int))=(a.length=b.length):=by rw[eq_iff_iff];omega
 refine jF jsL (by rfl) (hb.pur 17 1 dc) ?_;simp only[jnI,jh,ζ,η,θ,κ];rw[(by unfold jiz;simp only[qq];rfl:jiz=_)];repeat'(first|apply jb<;>intro _|simp(disch:=first|exact dzG|fail) only[hl,r8,δ,ε])
 ·rename_i h;exact G0.v (congrArg AV.bool (decide_eq_false λk=>h (by rw[k])).symm) rfl
 ·rename_i h;have h:a.length=b.length:=by simpa using h
  refine jZ a.length (λk L st=>(∀ j (h1:j<a.length) (h2:j<b.length),j<k->a[j]=b[j])/\Has L 0 (.lst a.length (a.map (.int .i64)))/\Has L 1 (.lst b.length (b.map (.int .i64)))) ?_ (λk L s hk hI hi hn=>?_) (λL s hI=>?_)
  ·refine⟨λj h1 h2 hj=>absurd hj (QaJ _),?_,?_⟩<;>exact hsX
  ·obtain⟨h0,i0,i1⟩:=hI;have hks:k<b.length:=om
   repeat'(first|apply jb<;>intro _|simp(disch:=first|exact dzG|fail) only[ja i0,ja i1,ja hi,ja hn,Zt,r8,δ,ε])
   ·rename_i h3;exact G0.v (congrArg AV.bool (decide_eq_false λw=>h3 (by subst w;rfl)).symm) rfl
   ·rename_i h3;refine⟨⟨λj h1 h2 hj=>?_,?_,?_⟩,?_,?_⟩
    ·by_cases e:j=k
     ·subst e;simpa using h3
     ·exact h0 j h1 h2 om
    all_goals exact hsX
  ·obtain⟨h0,i0,i1⟩:=hI;repeat'(first|apply jb<;>intro _|simp(disch:=first|exact dzG|fail) only[r8,δ,ε])
   exact G0.v (congrArg AV.bool (decide_eq_true (Qbh h λi h1 h2=>h0 i h1 h2 h1)).symm) rfl
theorem jlV (hb:NB base)(a b:List Int)(ha:a.length<=1099511627776)(hb2:b.length<=1099511627776):Tot base 17 [svV a,svV b] (.bool (decide (a=b))):=hb.tot (jmW hb a b ha hb2) rfl rfl
set_option maxHeartbeats 4000000 in
theorem Hp (hb:NB base)(m:ModT)(sv:SvT)(hm:m.vars.length<=1000000)(hs:sv.length<=1099511627776):Tot base 10 [.agg (mdE m),svV sv] (.bool (Xr m.vars sv)):=by
 refine hb.tot ?_ (by unfold svV;simp[pa,pc,QD,Uh]) rfl;unfold svV;have hl:((sv.length:Int)=(m.vars.length:Int))=(sv.length=m.vars.length):=by rw[eq_iff_iff];omega
 refine jF jsS (by rfl) (hb.pur 10 1 dc) ?_;simp only[jnP,jh,ζ,η,θ,κ];rw[(by unfold jiG;simp only[qq];rfl:jiG=_)];repeat'(first|apply jb<;>intro _|simp(disch:=first|exact dzG|fail) only[hl,r8,δ,ε])
 refine yz (λmm L s=>∃ (k:Nat) (q:Bool),k<=sv.length/\mm=sv.length - k/\(0<k->sv.length=m.vars.length)/\(q=true↔sv.length=m.vars.length/\∀ j (h1:j<m.vars.length) (h2:j<sv.length),j<k->m.vars[j].lo<=sv[j]/\sv[j]<=m.vars[j].hi)/\1<=s.nx/\Cl s 0 (mdE m)/\Has L 1 (.lst sv.length (sv.map (.int .i64)))/\Has L 2 (.ptr 0 0)/\Has L 5 (.bool q)/\Has L 6 (.int .i64 (k:Int))) ?_ sv.length ?_
 ·rintro mm L s ⟨k,q,hk,rfl,h1,h2,n1,C0,i1,i2,i5,i6⟩;unfold VI;by_cases hlt:k<sv.length
  ·have hlt':(k:Int)<(sv.length:Int):=om
   have e1:((k+1:Nat):Int)=(k:Int)+1:=om
   cases q with
   |false=>
    (have zz:=C0.r;(repeat'(first|apply jb<;>intro _|simp(disch:=first|exact qk|fail) only[ja i1,ja i2,ja i5,ja i6,hlt',C0.q,C0.r,r8,δ,ε])))
    refine G0.v (congrArg AV.bool (Zx λw=>?_).symm) rfl;exact absurd (h2.2 ⟨w.1,λj a b _=>w.2 j a b⟩) dc
   |true=>
    have hq:=h2.1 rfl;have hkv:k<m.vars.length:=om
    (have zz:=C0.r;(repeat'(first|apply jb<;>intro _|simp(disch:=first|exact qk|fail) only[ja i1,ja i2,ja i5,ja i6,hlt',Zt,C0.q,C0.r,r8,δ,ε])))
    ·rename_i h3;refine⟨sv.length - (k+1),om,k+1,decide (sv[k]<=m.vars[k].hi),om,rfl,λ_=>hq.1,?_,n1,C0,?_,?_,?_,?_⟩
     ·rw[decide_eq_true_eq];refine⟨λh=>⟨hq.1,λj a b hj=>?_⟩,λh=>(h.2 k hkv hlt om).2⟩;by_cases e:j=k
      ·subst e;exact⟨h3,h⟩
      ·exact hq.2 j a b om
     all_goals first
      |(rw[e1];simp(disch:=decide) only[jf,jn];done)
      |(simp(disch:=decide) only[jf,jn];done)
      |(simp(disch:=decide) only[jf];assumption)
    ·rename_i h3;refine⟨sv.length - (k+1),om,k+1,false,om,rfl,λ_=>hq.1,?_,n1,C0,?_,?_,?_,?_⟩
     ·exact⟨(λh=>by cases h),λh=>absurd (h.2 k hkv hlt om).1 h3⟩
     all_goals first
      |(rw[e1];simp(disch:=decide) only[jf,jn];done)
      |(simp(disch:=decide) only[jf,jn];done)
      |(simp(disch:=decide) only[jf];assumption)
  ·have hlt':¬ (k:Int)<(sv.length:Int):=om
   have hke:k=sv.length:=om
   have hqr:Xr m.vars sv=q:=by
    cases q with
    |true=>exact Z0.2 ⟨(h2.1 rfl).1,λj a b=>(h2.1 rfl).2 j a b om⟩
    |false=>exact Zx λw=>absurd (h2.2 ⟨w.1,λj a b _=>w.2 j a b⟩) dc
   rw[hqr]
   (have zz:=C0.r;(repeat'(first|apply jb<;>intro _|simp(disch:=first|exact qk|fail) only[ja i1,ja i2,ja i5,ja i6,hlt',C0.q,C0.r,r8,δ,ε])))
   all_goals exact G0.v rfl rfl
 ·refine⟨0,decide (sv.length=m.vars.length),om,rfl,λh=>absurd h (Qbk _),?_,by(first|omega|(simp only[je,jg,jo,jk,jj];first|done|omega)),by(first|exact cyG|fail),?_,?_,?_,?_⟩
  ·rw[decide_eq_true_eq];exact⟨λh=>⟨h,λj a b hj=>absurd hj (QaJ _)⟩,λh=>h.1⟩
  all_goals first
   |(simp(disch:=decide) only[jf,jn];done)
   |(rw[show((0:Nat):Int)=0 from rfl];simp only[jn])
theorem Vb (hb:NB base)(p:Bool):Tot base 43 [eb p,.int .i64 0] (eb p):=by
 refine hb.tot ?_ rfl rfl;refine jF jsG (by rfl) (hb.pur 43 1 dc) ?_;simp only[jnD,jh,ζ,η,θ,κ];rw[(by unfold jiu;simp only[qq];rfl:jiu=_)];repeat'(first|apply jb<;>intro _|simp(disch:=first|exact dzG|fail) only[r8,δ,ε])
 exact G0.v rfl rfl
theorem jmC (hb:NB base)(w:Nat)(l:List AV):Tot base 53 [.lst w l,.int .i64 0] (.lst w l):=by
 refine hb.tot ?_ rfl rfl;refine jF jsA (by rfl) (hb.pur 53 1 dc) ?_;simp only[jnx,jh,ζ,η,θ,κ];rw[(by unfold jio;simp only[qq];rfl:jio=_)];repeat'(first|apply jb<;>intro _|simp(disch:=first|exact dzG|fail) only[r8,δ,ε])
 exact G0.v rfl rfl
theorem jbY {fb:Nat}(st:St)(K:Md->St->Prop):DX γ base 42 [.ptr fb 0] .calm st.bare K=K .calm st.bare:=by
 refine KX (λK hK=>?_) K;refine ZD jrd (by rfl) rfl ?_;simp only[jkW,jh,ζ,η,θ,QN,Xl];rw[(by unfold jdY;simp only[qq];rfl:jdY=_)];repeat'(first|apply jb<;>intro _|simp(disch:=first|exact dzG|fail) only[jbJ,wR,r8,δ,ε])
 exact hK
theorem ja5 {P:Program}{f:FuncId}{F:XF}(hl:jv P f=some F)(hm:base.pur f=5){xs:List AV}{o:Oc}(ho:o.flat=true)
 (h:xC P base F.body (jh F.ps xs) st0 (U6 P base F.res (Qm G0 o) (Qg G0 o)) (uD P base F.res (Qm G0 o) (Qg G0 o))):PL P base f xs o:=PL.of hm ho (jb8 hl h)
def jqU (n:Int)(w:Nat):Prop:=1<=w/\w<=32/\Jw n n w
set_option maxHeartbeats 8000000 in
theorem jhX (hb:NB base){n lo hi:Int}{w:Nat}(r:List AV)(hw:jqU n w)(h1 : -100000000<=lo)(h2:lo<=n)(h3:n<=hi)(h4:hi<=100000000):PL γ base 79 [.lptr (gV :: r) 0,bv (bt n) w,.int .i64 lo,.int .i64 hi] (.ok (eb true)):=by
 obtain⟨w1,w2,hf⟩:=hw;obtain⟨a1,a2,a3,_⟩:=vD (lo:=lo) (hi:=lo) h1 om;obtain⟨b1,b2,b3,_⟩:=vD (lo:=hi) (hi:=hi) om h4;have C1:=Gi hb h1 (show lo<=100000000 by omega);have C2:=Gi hb (show -100000000<=hi by omega) h4;have L1:=hb.pl (jib hb w1 w2 a1 a2 hf a3) rfl rfl;have L2:=hb.pl (jib hb b1 b2 w1 w2 b3 hf) rfl rfl;rw[decide_eq_false (show ¬ n<lo by omega)] at L1;rw[decide_eq_false (show ¬ hi<n by omega)] at L2;have M1:=Vb hb false;have M2:=Vb hb true;have M3:=Vb hb (true && true);have MV:=jmC hb;have A:=VJ hb true true;unfold bv at C1 C2 L1 L2 ⊢;generalize wd lo lo=u at *;generalize wd hi hi=v at *;refine qB jss (by rfl) (hb.pur 79 5 dc) rfl ?_;simp only[jnp,jh,ζ,η,θ,κ];rw[(by unfold jig;simp only[qq];rfl:jig=_)];repeat'(first|apply jb<;>intro _|simp(disch:=first|exact dzG|fail) only[gR,C1,C2,L1,L2,M1,M2,M3,MV,A,r8,δ,ε])
 exact G0.v rfl rfl
def fWE (p:Int×Nat):List AV:=[bv (bt p.1) p.2]
def frV (F:List (Int×Nat)):AV:=.lst F.length (fl fWE F)
theorem jr9 (p:Int×Nat):(fWE p).length=1:=rfl
theorem jeo {F:List (Int×Nat)}{k:Nat}{st:St}{K:AV->St->Prop}(h:k<F.length):ji (XV (.lptr (fl fWE F) k) st) K=K (bv (bt F[k].1) F[k].2) st:=by
 have:=jaI (st:=st) (K:=K) jr9 h (k:=0) dc;rw[QaB,Qbf] at this;exact this
def frM (vars:List VarT)(s:List Int):List (Int×Nat):=List.zipWith (λn v=>(n,wd v.lo v.hi)) s vars
abbrev jqW (vars:List VarT):Prop:=∀ v∈vars,-100000000<=v.lo/\v.lo<=100000000/\-100000000<=v.hi/\v.hi<=100000000
structure FrOK (vars:List VarT)(s:List Int):Prop where
 len:(frM vars s).length=vars.length
 sl:s.length=vars.length
 at_:∀ k (h:k<vars.length) (h1:k<s.length) (h2:k<(frM vars s).length),(frM vars s)[k]=(s[k],wd vars[k].lo vars[k].hi)/\jqU s[k] (wd vars[k].lo vars[k].hi)/\-100000000<=vars[k].lo/\vars[k].lo<=s[k]/\s[k]<=vars[k].hi/\vars[k].hi<=100000000
theorem jpT {vars:List VarT}{s:List Int}(V:jqW vars)(hr:Xr vars s=true):FrOK vars s:=by
 obtain⟨hl,h⟩:=Z0.1 hr;refine⟨by simp[frM,hl],hl,λk h1 h2 h3=>?_⟩;obtain⟨v1,v2,v3,v4⟩:=V _ (Qaf h1);obtain⟨r1,r2⟩:=h k h1 h2;obtain⟨w1,w2,w3,_⟩:=vD v1 v4;exact⟨by simp[frM],⟨w1,w2,jdq w3 r1 r2 (μ _)⟩,v1,r1,r2,v4⟩
set_option maxHeartbeats 8000000 in
theorem jjv (hb:NB base)(vars:List VarT)(hm:vars.length<=1000000)(sv:List Int)(R:FrOK vars sv)(r:List AV):PL γ base 46 [.lptr (gV :: .lst vars.length (fl vaE vars) :: r) 0,frV (frM vars sv)] (.ok (eb true)):=by
 obtain⟨hl,hs,hat⟩:=R;have B:=λ(n lo hi:Int) (w:Nat) r hw h1 h2 h3 h4=>hb.pl (jhX hb (n:=n) (lo:=lo) (hi:=hi) (w:=w) r hw h1 h2 h3 h4) rfl rfl;have M:=Vb hb true;have A:∀ (st:St) (b m:Nat) (x:Bool) (K Kp:AV->St->Prop),Cl st b [eb true,eb true]->XB γ base 44 [gV,.slice b 0 2 m 1 x] st K Kp=K (.tup [eb true,.int .i64 0]) st:=VJ hb true true;have hne:((vars.length:Int)=(vars.length:Int))=True:=by simp
 unfold frV at *;rw[hl];generalize frM vars sv=F at *;refine qB jsD (by rfl) (hb.pur 46 5 dc) rfl ?_;simp only[jnA,jh,ζ,η,θ,κ];rw[(by unfold jir;simp only[qq];rfl:jir=_)];repeat'(first|apply jb<;>intro _|simp(disch:=first|exact dzG|fail) only[gR,hne,r8,δ,ε])
 refine jZ vars.length (λk L s=>0<=s.nx/\Has L 0 (.lptr (gV :: .lst vars.length (fl vaE vars) :: r) 0)/\Has L 1 (.lst vars.length (fl fWE F))/\Has L 5 (eb true)/\Has L 22 (.lst vars.length (fl vaE vars))) ?_ (λk L s hk hI hi hn=>?_) (λL s hI=>?_)
 ·refine⟨Qaa _,?_,?_,?_,?_⟩
  ·simp(disch:=decide) only[jf,jn]
  ·simp(disch:=decide) only[jf,jn]
  ·show Has _ 5 (.int .u32 1);simp(disch:=decide) only[jf,jn]
  ·simp(disch:=decide) only[jf,jn]
 ·obtain⟨_,i0,i1,i5,i22⟩:=hI;have hkF:k<F.length:=om
  have hks:k<sv.length:=om
  obtain⟨e,w,q1,q2,q3,q4⟩:=hat k hk hks hkF;have eF:=λ(st:St) (K:AV->St->Prop)=>jeo (st:=st) (K:=K) hkF;rw[e] at eF;have B:=B sv[k] vars[k].lo vars[k].hi _ (.lst vars.length (fl vaE vars) :: r) w q1 q2 q3 q4;unfold bv at eF B;repeat'(first|apply jb<;>intro _|simp(disch:=first|exact dzG|fail) only[ja i0,ja i1,ja i5,ja i22,ja hi,ja hn,eF,gR,B,M,A,r8,δ,ε])
  refine⟨⟨Qaa _,?_,?_,?_,?_⟩,?_,?_⟩;all_goals exact hsX
 ·obtain⟨_,i0,i1,i5,i22⟩:=hI;repeat'(first|apply jb<;>intro _|simp(disch:=first|exact dzG|fail) only[ja i5,r8,δ,ε])
  exact G0.v rfl rfl
theorem jjw (hb:NB base)(m:ModT)(hm:m.vars.length<=1000000)(sv:List Int)(R:FrOK m.vars sv)(st:St)(b:Nat)(K Kp:AV->St->Prop)(C:Cl st b (gV :: mdE m)):XB γ base 46 [.ptr b 0,frV (frM m.vars sv)] st K Kp=K (eb true) st:=
 (jjv hb m.vars hm sv R [.lst m.enums.length (fl enE m.enums),.lst m.moves.length (fl moE m.moves)]).xb (qr (QR C (yw (Yz 8 rfl) rfl (yw (Yz 8 rfl) rfl (yw (Yz 8 rfl) rfl (yw (Yz 8 rfl) rfl wM))))) (yb rfl JB)) (λst=>hb.no 46 dc _ _) K Kp
set_option maxHeartbeats 8000000 in
theorem jkD (hb:NB base)(m:ModT)(hm:m.vars.length<=1000000)(sv:List Int)(R:FrOK m.vars sv):PL γ base 14 [gV,.agg (mdE m),frV (frM m.vars sv)] (.ok (.tup [eb true,.int .i64 0])):=by
 have W:=jjw hb m hm sv R;have hc:lall AV.cell (gV :: mdE m)=true:=rfl;unfold frV mdE at *;refine ja5 jsO (hb.pur 14 5 dc) rfl ?_;simp only[jnL,jh,ζ,η,θ,κ];rw[(by unfold jiC;simp only[qq];rfl:jiC=_)];repeat'(first|apply jb<;>intro _|simp(disch:=first|exact dzG|fail) only[gR,W,Yh,Jh (f:=42) (vs:=[.ptr 1 0]),zd (f:=42) (vs:=[.ptr 1 0]),Qa,jbY,r8,δ,ε])
 exact t2v rfl rfl rfl rfl
theorem jjD {s t:List Int}{k:Nat}(h1:k<s.length)(h2:k<t.length):decide (s.take (k+1)=t.take (k+1))=(decide (s.take k=t.take k) && decide (s[k]=t[k])):=by
 rw[Qbw h1,Qbw h2,Qay,χ,decide_eq_true_eq,decide_eq_true_eq,decide_eq_true_eq];constructor
 ·intro h;have:=List.append_inj' h rfl;exact⟨this.1,by simpa using this.2⟩
 ·rintro ⟨e1,e2⟩;rw[e1,e2]
set_option maxHeartbeats 8000000 in
theorem jqJ (hb:NB base)(vars:List VarT)(hm:vars.length<=1000000)(sv tv:List Int)(R:FrOK vars sv)(R2:FrOK vars tv):PL γ base 13 [gV,frV (frM vars sv),frV (frM vars tv)] (.ok (.tup [eb (decide (sv=tv)),.int .i64 0])):=by
 obtain⟨hl,hs,hat⟩:=R;obtain⟨hl2,hs2,hat2⟩:=R2;have M:=Vb hb;have hne:((vars.length:Int)=(vars.length:Int))=True:=by simp
 unfold frV at *;rw[hl,hl2];generalize frM vars sv=F at *;generalize frM vars tv=G at *;refine ja5 jsP (hb.pur 13 5 dc) rfl ?_;simp only[jnM,jh,ζ,η,θ,κ];rw[(by unfold jiD;simp only[qq];rfl:jiD=_)];repeat'(first|apply jb<;>intro _|simp(disch:=first|exact dzG|fail) only[gR,hne,Yh,Jh (f:=42) (vs:=[.ptr 0 0]),zd (f:=42) (vs:=[.ptr 0 0]),Qa,jbY,r8,δ,ε])
 refine jZ vars.length (λk L s=>(s.fr=[(42,[.ptr 0 0])]/\1<=s.nx/\Cl s 0 [.int .i64 0])/\Has L 0 gV/\Has L 1 (.lst vars.length (fl fWE F))/\Has L 2 (.lst vars.length (fl fWE G))/\(∃ p,p=decide (sv.take k=tv.take k)/\Has L 8 (eb p))/\Has L 7 (.ptr 0 0)) ?_ (λk L s hk hI hi hn=>?_) (λL s hI=>?_)
 ·refine⟨⟨?_,?_,?_⟩,?_,?_,?_,⟨true,rfl,?_⟩,?_⟩
  ·rw[KJ,Zo];rfl
  ·exact μ 1
  ·rw[jse];exact Cl.new st0 [.int .i64 0]
  all_goals first
   |(simp(disch:=decide) only[jf,jn];done)
   |(show Has _ 8 (.int .u32 1);simp(disch:=decide) only[jf,jn];done)
 ·obtain⟨⟨hfr,n1,C⟩,i0,i1,i2,⟨p,ep,i8⟩,i7⟩:=hI;have hkF:k<F.length:=om
  have hkG:k<G.length:=om
  have hks:k<sv.length:=om
  have hkt:k<tv.length:=om
  obtain⟨e,⟨w1,w2,w3⟩,q1,q2,q3,q4⟩:=hat k hk hks hkF;obtain⟨e',⟨w1',w2',w3'⟩,_⟩:=hat2 k hk hkt hkG;have eF:=λ(st:St) (K:AV->St->Prop)=>jeo (st:=st) (K:=K) hkF;have eG:=λ(st:St) (K:AV->St->Prop)=>jeo (st:=st) (K:=K) hkG;rw[e] at eF;rw[e'] at eG;have E:=hb.pl (jnk hb w1 w2 w1' w2' w3 w3') rfl rfl;have hS:=jjD hks hkt;have A:=VJ hb p (decide (sv[k]=tv[k]));rw[hS,<-ep];generalize decide (sv[k]=tv[k])=q at *;unfold bv at eF eG E;have hfr2:(Go.Sy.nw s [eb p,eb q]).fr=[(42,[.ptr 0 0])]:=by rw[Zo];exact hfr
  repeat'(first|apply jb<;>intro _|simp(disch:=first|exact dzG|fail) only[ja i0,ja i1,ja i2,ja i8,ja i7,ja hi,ja hn,eF,eG,gR,E,M,A,r8,δ,ε])
  refine⟨⟨⟨hfr,om,C.nw _⟩,?_,?_,?_,⟨_,rfl,?_⟩,?_⟩,?_,?_⟩;all_goals exact hsX
 ·obtain⟨⟨hfr,n1,C⟩,i0,i1,i2,⟨p,ep,i8⟩,i7⟩:=hI;rw[QaV om,QaV om] at ep;rw[<-ep];have hfr2:(Go.Sy.wr s 0 0 [.int .i64 0]).fr=[(42,[.ptr 0 0])]:=by rw[KI];exact hfr
  (have zz:=C.r;(repeat'(first|apply jb<;>intro _|simp(disch:=first|exact qk|fail) only[ja i8,ja i7,zd (f:=42) (vs:=[.ptr 0 0]),jbY,C.q,C.r,r8,δ,ε])))
  exact t2v rfl rfl rfl rfl
set_option maxHeartbeats 4000000 in
theorem jo9 (hb:NB base)(p:Bool):PL γ base 15 [gV,.lst 0 [],eb p,.int .i64 0] (.ok (.tup [.bool p,.bool true])):=by
 have C:Cl (Go.Sy.nw st0 [eb p]) 0 [eb p]:=Cl.new st0 [eb p];have F:Fza (Go.Sy.nw st0 [eb p]) [gV,.lst 0 [],.slice 0 0 1 1 1 true] [gV,.lst 0 [],.lst 1 (ebs [p])] [0]:=Fza.pa rfl (Fza.pa rfl (Fza.sl C rfl rfl .nil));have E:=λK Kp=>(jid hb [p] 1 rfl dc).xf F (λst=>hb.no 47 dc _ _) K Kp;have el:([p].map AV.bool)=[.bool p]:=rfl;rw[el] at E;refine qB jsN (by rfl) (hb.pur 15 5 dc) rfl ?_;simp only[jnK,jh,ζ,η,θ,κ];rw[(by unfold jiB;simp only[qq];rfl:jiB=_)];repeat'(first|apply jb<;>intro _|simp(disch:=first|exact dzG|fail) only[E,Wm,qU,r8,δ,ε])
 exact t2v rfl rfl rfl rfl
theorem ApL.mono {lo lo2:Nat}{s t:St}(a:ApL lo2 s t)(h:lo<=lo2):ApL lo s t:=⟨a.nx,a.fr,λc hc hl=>a.hp c om hl⟩
def GP (lo:Nat)(st:St)(g:Nat):Prop:=g<lo/\∃ p r x,p<lo/\Cl st g [.slice p 0 1 1 2 x,.nils,.map r]/\Cl st p [.int .u32 0,.int .u32 0]
theorem GP.lend {lo g:Nat}{st:St}(h:GP lo st g):lend st.h (.ptr g 0)=some gV:=by
 obtain⟨_,p,r,x,_,C,D⟩:=h;exact QR C (yw ⟨_,Up (d:=7) D rfl rfl⟩ rfl (yw ⟨[],rfl⟩ rfl (jhr 8 r [])))
theorem GP.keep {lo lo2 g:Nat}{st st':St}(h:GP lo st g)(a:ApL lo2 st st')(hl:lo<=lo2):GP lo st' g:=by
 obtain⟨h1,p,r,x,h2,C,D⟩:=h;exact⟨h1,p,r,x,h2,a.cl _ _ om C,a.cl _ _ om D⟩
theorem GP.bar {lo g:Nat}{st:St}(h:GP lo st g):GP lo st.bare g:=by
 obtain⟨h1,p,r,x,h2,C,D⟩:=h;exact⟨h1,p,r,x,h2,by rw[jz];exact C,by rw[jz];exact D⟩
theorem jrZ {st s:St}{v u:AV}{K:AV->St->Prop}(F:FzD st.nx 9 s v u)(a:ApL st.nx st.bare s)(hK:∀ s',ApL st.nx st s'->K u s'):∃ u ks,fz 9 s.h v=some (u,ks)/\K u (back st (kills ks s)):=by
 obtain⟨ks,e,h⟩:=F;have hn:st.bare.nx=st.nx:=rfl;refine⟨u,ks,e,hK _ ⟨a.nx,rfl,λc hc hl=>?_⟩⟩;have e1:=QU ks s.h c;rw[if_neg (λhm=>by have:=h c hm;omega)] at e1;exact e1.trans (a.hp c hc hl)
set_option maxHeartbeats 8000000 in
theorem jnc (hb:NB base)(vars:List VarT)(hm:vars.length<=1000000)(sv:List Int)(R:FrOK vars sv)(st:St)(g:Nat)(H:GP st.nx st g)(K Kp:AV->St->Prop)(hK:∀ s',ApL st.nx st s'->K (.tup [svV sv,.int .i64 0]) s'):XB γ base 16 [.ptr g 0,.nils,frV (frM vars sv)] st K Kp:=by
 have fin:∀ {s:St} {v:AV},ApL st.nx st.bare s->FzD st.nx 9 s v (.tup [svV sv,.int .i64 0])->∃ u ks,fz 9 s.h v=some (u,ks)/\K u (back st (kills ks s)):=λa f=>jrZ f a hK;obtain⟨hl,hs,hat⟩:=R;refine UZ jsM (by rfl) (hb.pur 16 2 dc) (hb.no 16 dc _ _) ?_;simp only[jnJ,jh,ζ,η,θ,κ];rw[(by unfold jiA;simp only[qq];rfl:jiA=_)];have H0:=H.bar;have A0:ApL st.nx st.bare st.bare:=⟨μ _,rfl,λ_ _ _=>rfl⟩;generalize hp:st.nx=p at *;unfold frV at *;rw[hl];generalize frM vars sv=F at *;repeat'(first|apply jb<;>intro _|simp(disch:=first|exact dzG|fail) only[r8,δ,ε])
 refine jZ vars.length (λk L s=>(∃ v,Lv p s.nx s v k ((sv.take k).map (.int .i64)) 1/\Has L 8 v)/\(GP p s g/\ApL p st.bare s)/\Has L 0 (.ptr g 0)/\Has L 1 .nils/\Has L 13 (.lst vars.length (fl fWE F))) ?_ (λk L s hk hI hi hn=>?_) (λL s hI=>?_)
 ·refine⟨⟨.nils,Lv.nil,?_⟩,⟨H0,A0⟩,?_,?_,?_⟩<;>exact hsX
 ·obtain⟨⟨v,V,i8⟩,⟨HS,AS⟩,i0,i1,i13⟩:=hI;have hkF:k<F.length:=om
  have hks:k<sv.length:=om
  obtain⟨e,⟨w1,w2,w3⟩,q1,q2,q3,q4⟩:=hat k hk hks hkF;have eF:=λ(st:St) (K:AV->St->Prop)=>jeo (st:=st) (K:=K) hkF;rw[e] at eF;have E:=λK Kp=>(jkH hb w1 w2 w3).xb (st:=s) (aZ':=[.ptr g 0,.nils,bv (bt sv[k]) (wd vars[k].lo vars[k].hi)]) (qr HS.lend (qr rfl (yb rfl JB))) (λst=>hb.no 48 dc _ _) K Kp;unfold bv at eF E;have n0:p<=s.nx:=by have:=AS.nx;have:st.bare.nx=p:=hp;omega
  have V1:Lv p s.nx (Go.Sy.nw s [.int .i64 sv[k]]) v k ((sv.take k).map (.int .i64)) 1:=by rw[jG (μ _)];exact V
  have hr:rats (Go.Sy.nw s [.int .i64 sv[k]]).h s.nx 0 1=[.int .i64 sv[k]]:=(Cl.new s _).rats0 rfl;have eA:=λK=>(JR (K:=K) (bytes:=8) (xc:=1) (xx:=true) V1 dc om om (show 1<=qh _ s.nx by rw[(Cl.new s [.int .i64 sv[k]]).len];exact μ 1));have V2:=V1.app (news:=[.int .i64 sv[k]]) rfl (by rw[je];omega);rw[hr] at eA;rw[Qbw hks,Qbd];repeat'(first|apply jb<;>intro _|simp(disch:=first|exact dzG|fail) only[ja i8,ja i0,ja i1,ja i13,ja hi,ja hn,eF,E,Wm,eA,r8,δ,ε])
  have A1:ApL p s (aps v (Go.Sy.nw s [.int .i64 sv[k]]) [.int .i64 sv[k]]):=⟨by rw[jk,je];omega,by rw[YA,Zo],λc hc h=>(V1.get _ _ c (.inl hc) (by rw[je];omega)).trans (yn om)⟩;refine⟨⟨⟨_,V2,?_⟩,⟨HS.keep A1 (μ _),⟨ψ AS.nx A1.nx,A1.fr.trans AS.fr,λc hc h=>(A1.hp c hc om).trans (AS.hp c hc h)⟩⟩,?_,?_,?_⟩,?_,?_⟩;all_goals exact hsX
 ·obtain⟨⟨v,V,i8⟩,⟨HS,AS⟩,i0,i1,i13⟩:=hI;rw[QaV om] at V;repeat'(first|apply jb<;>intro _|simp(disch:=first|exact dzG|fail) only[ja i8,r8,δ,ε])
  refine fin (by assumption) (FzD.tup (.cons ?_ (.cons (.pc rfl) .nil)));unfold svV;rw[hs];exact V.fz (μ _) (Uh _)
end Go.Sy
end
noncomputable section
set_option maxRecDepth 100000
namespace Go.Sy
open Go.Ev Go.Proofs
variable {base:Bs}
theorem jr5 (a:AV)(r:Nat)(st:St)(K:AV->St->Prop):ji (uP [a,.nils,.nilm] [((2,1),.map r)] st) K=K (.agg [a,.nils,.map r]) st:=rfl
theorem jsl (hb:NB base)(st:St)(K Kp:AV->St->Prop)(hK:∀ g s',GP s'.nx s' g->ApL st.nx st s'->K (.ptr g 0) s'):XB γ base 11 [] st K Kp:=by
 refine yr jsR (by rfl) (hb.at0 11 dc dc _ _) ?_;simp only[jnO,jh,ζ,η,θ,κ];rw[(by unfold jiF;simp only[qq];rfl:jiF=_)];repeat'(first|apply jb<;>intro _|simp(disch:=first|exact dzG|fail) only[Um,r8,δ,ε])
 refine V5 (bytes:=8) (l:=1) (c:=1) (k:=.i64) (k':=.i64) dc dc dc λs1 M=>?_;have C1:=M.cl (cs:=[.int .u32 0,.int .u32 0]) rfl λi hi=>by
  have:i=0\/i=1:=om
  rcases this with rfl|rfl<;>rfl
 have A1:=M.apl;have n1:=M.nx;clear M;repeat'(first|apply jb<;>intro _|simp(disch:=first|exact dzG|fail) only[jr1,r8,δ,ε])
 refine jrT λs2 n2 f2 k2=>?_;have hbn:st.bare.nx=st.nx:=rfl;have A2:ApL s1.nx s1 s2:=⟨om,f2,λc hc h=>k2 c om⟩;have C2:=A2.cl _ _ C1.lt C1;have hc:lall AV.cell (AV.agg [.slice st.nx 0 1 1 2 true,.nils,.map s1.nx]).cells=true:=rfl;repeat'(first|apply jb<;>intro _|simp(disch:=first|exact dzG|fail) only[jr5,r8,δ,ε])
 have D:=Cl.new s2 [.slice st.nx 0 1 1 2 true,.nils,.map s1.nx];have E:=C2.nw [.slice st.nx 0 1 1 2 true,.nils,.map s1.nx];have A:=(A1.trans A2 A1.nx).trans (ApL.nwO s2 [.slice st.nx 0 1 1 2 true,.nils,.map s1.nx]) (ψ A1.nx A2.nx);have hn:=A2.nx;have hn1:=A1.nx;refine hK _ _ ⟨Qbb _,st.nx,s1.nx,true,?_,⟨D.lt,D.row,D.len,D.cell⟩,⟨E.lt,E.row,E.len,E.cell⟩⟩ ⟨A.nx,rfl,A.hp⟩;show st.nx<s2.nx+1;omega
theorem jlU:∀ F:List (Int×Nat),fl bE (F.map λp=>bs (bt p.1) p.2)=fl fWE F
 |[]=>rfl
 |p :: F=>by rw[ζ,JY,JY,jlU F];unfold bE fWE bv;rw[qT]
set_option maxHeartbeats 8000000 in
theorem jqL (hb:NB base)(m:ModT)(hm:m.vars.length<=1000000)(sv:List Int)(hr:Xr m.vars sv=true)(R:FrOK m.vars sv):Tot base 12 [.agg (mdE m),svV sv] (.tup [frV (frM m.vars sv),.int .i64 0]):=by
 refine hb.tot ?_ (by unfold svV;simp[pa,pc,QD]) rfl;obtain⟨hl,hs,hat⟩:=R;have E:=hb.pl (jjL hb m sv hm om) (by unfold svV;simp[pa,pc,QD]) rfl;rw[hr] at E;have C0:Cl (Go.Sy.nw st0 (mdE m)) 0 (mdE m):=Cl.new st0 (mdE m);unfold svV at *;unfold frV;rw[hl];generalize frM m.vars sv=F at *;refine jF jsQ (by rfl) (hb.pur 12 1 dc) ?_;simp only[jnN,jh,ζ,η,θ,κ];rw[(by unfold jiE;simp only[qq];rfl:jiE=_)];repeat'(first|apply jb<;>intro _|simp(disch:=first|exact dzG|fail) only[E,r8,δ,ε])
 refine jZ m.vars.length (λk L s=>(∃ v h,LB 1 h s v ((F.take k).map λp=>bs (bt p.1) p.2)/\1<=h/\h<=s.nx/\Has L 6 v)/\Has L 1 (.lst sv.length (sv.map (.int .i64)))/\Has L 16 (.lst m.vars.length (fl vaE m.vars))) ?_ (λk L s hk hI hi hn=>?_) (λL s hI=>?_)
 ·refine⟨⟨.nils,1,.inl ⟨rfl,rfl⟩,μ _,by(first|omega|(simp only[je,jg,jo,jk,jj];first|done|omega)),?_⟩,?_,?_⟩<;>exact hsX
 ·obtain⟨⟨v,q,B,q1,q2,i6⟩,i1,i16⟩:=hI;have hkF:k<F.length:=om
  have hks:k<sv.length:=om
  obtain⟨e,⟨w1,w2,w3⟩,r1,r2,r3,r4⟩:=hat k hk hks hkF;obtain⟨c1,c2,c3,_⟩:=vD (lo:=sv[k]) (hi:=sv[k]) om om;have hC:=Gi hb (n:=sv[k]) om om;have hW:=jdL hb (lo:=m.vars[k].lo) (hi:=m.vars[k].hi) r1 r4 om;have hle:=jrg (n:=sv[k]) r1 r4 r2 r3;unfold bv at hC;repeat'(first|apply jb<;>intro _|simp(disch:=first|exact dzG|fail) only[ja i6,ja i1,ja i16,ja hi,ja hn,hC,hW,Zt,r8,δ,ε])
  obtain⟨u,hu⟩:∃ u,u=Go.Sy.wr (Go.Sy.nw s [AV.str [],AV.int IntKind.i64 0,AV.str [],AV.int IntKind.i64 0,AV.int IntKind.i64 0,AV.bool false,AV.int IntKind.i64 0]) s.nx 0 (vaE m.vars[k]):=⟨_,rfl⟩;have un:u.nx=s.nx+1:=by rw[hu];rfl
  have AU:ApL s.nx s u:=by rw[hu];exact⟨Qbg _,rfl,λc hc h=>(zI om).trans (yn om)⟩
  have BU:=B.keep AU q2 (μ q);rw[<-hu];clear hu;refine Gh hb c1 hle w2 c3 u _ _ λb s1 Cb hb1 a1=>?_;have BV:=BU.keep a1 om (μ q);have n1:=a1.nx;have hbl:=Cb.lt;have BW:=BV.keep (ApL.nwO s1 [.slice b 0 (wd m.vars[k].lo m.vars[k].hi) (wd m.vars[k].lo m.vars[k].hi) 1 false]) om (μ q);obtain⟨v',s2,eA,B2,n2,f2,g2⟩:=LB.app (bytes:=24) (xc:=1) (xx:=true) (l:=bs (bt sv[k]) (wd m.vars[k].lo m.vars[k].hi)) (ex:=false) (c:=b) BW (by rw[qT];exact Cl.new s1 _) (Cb.nw _) (jaf _ _) om om (by rw[Qaq,Qam];omega) (by rw[Qaq,Qam];omega);have hS:((F.take (k+1)).map λp=>bs (bt p.1) p.2)=((F.take k).map λp=>bs (bt p.1) p.2) ++ [bs (bt sv[k]) (wd m.vars[k].lo m.vars[k].hi)]:=by
   rw[Qbw hkF,Qbd,ζ,η,e]
  rw[hS];rw[je] at n2;repeat'(first|apply jb<;>intro _|simp(disch:=first|exact dzG|fail) only[ja i6,eA,r8,δ,ε])
  refine⟨⟨⟨v',s2.nx,B2,om,μ _,?_⟩,?_,?_⟩,?_,?_⟩;all_goals exact hsX
 ·obtain⟨⟨v,q,B,q1,q2,i6⟩,i1,i16⟩:=hI;rw[QaV om] at B;have f:=LB.fz (d:=5) (m:=0) B (Qaa _);rw[jlU,Qaq,hl] at f;repeat'(first|apply jb<;>intro _|simp(disch:=first|exact dzG|fail) only[ja i6,r8,δ,ε])
  exact FzD.tup (.cons f (.cons (.pc rfl) .nil))
def Z1 (src:SrcT):ModT×Bool:=match Qd src with
 |none=>(md0,false)
 |some t=>if 5000<t.length then(md0,false) else((Js t [116,114,117,101]).m,decide ((Js t [116,114,117,101]).c=0/\(Js t [116,114,117,101]).l=0/\(Js t [116,114,117,101]).k=0) && decide (YS (Js t [116,114,117,101]).m.vars<=1000))
theorem jjQ {src:SrcT}(h:(Z1 src).2=true):VarsOK (Z1 src).1.vars (Z1 src).1.enums:=by
 unfold Z1 at h ⊢;cases hs:Qd src with
 |none=>rw[hs] at h;cases h
 |some t=>
  rw[hs] at h;dsimp only at h ⊢;split at h
  ·cases h
  ·rename_i h5;rw[if_neg h5];simp only[χ,decide_eq_true_eq] at h;exact(jaW h.1.1).1
theorem jrM:Go.Ev.isAgg γ 32=some true:=by kernel_rfl
theorem jrL:Go.Ev.sizeOf γ 32=some 3:=by kernel_rfl
theorem jrO {b:Nat}{m:ModT}{h:T AO}(ho:3<=qh h b)(hv:rats h b 0 3=mdE m):(jY γ 32 (.ptr b 0) (.agg (mdE m)) h=true)=True:=eq_true (Yt jrM jrL dc om hv rfl)
theorem HK {s:St}{m:ModT}{c:List AV}{q p:Bool}(h:FzsD 0 7 s c (mdE m))(h2:q=p):G0 (.tup [.agg (mdE m),.bool p]) (.tup [.agg c,.bool q]) s:=by
 subst h2;exact FzD.tup (.cons (.agg h) (.cons (.pc rfl) .nil))
theorem jgX {s:St}:FzsD 0 7 s [.nils,.nils,.nils] (mdE md0):=.cons .nils (.cons .nils (.cons .nils .nil))
set_option maxHeartbeats 8000000 in
theorem jpi (hb:NB base)(hP:PI base)(src:SrcT)(wr:WrS src):Tot base 9 [.agg (srE src)] (.tup [.agg (mdE (Z1 src).1),.bool (Z1 src).2]):=by
 refine hb.tot ?_ (by simp[pa,kM]) rfl;have E35:=jh6 hb src wr;unfold jep at E35;have hd:Z1 src=match Qd src with|none=>(md0,false)|some t=>if 5000<t.length then(md0,false) else((Js t [116,114,117,101]).m,decide ((Js t [116,114,117,101]).c=0/\(Js t [116,114,117,101]).l=0/\(Js t [116,114,117,101]).k=0) && decide (YS (Js t [116,114,117,101]).m.vars<=1000)):=rfl
 refine jF xw9 (by rfl) (hb.pur 9 1 dc) ?_;simp only[yw9,jh,ζ,η,θ,κ];rw[(by unfold zw9;simp only[qq];rfl:zw9=_)];cases hs:Qd src with
 |none=>
  rw[hs] at E35 hd;have E35:Tot base 37 [.agg (srE src)] (.tup [.str [],.int .i64 141]):=E35;dsimp only at hd;rw[hd];repeat'(first|apply jb<;>intro _|simp(disch:=first|exact dzG|fail) only[E35,r8,δ,ε])
  all_goals exact HK jgX rfl
 |some t=>
  rw[hs] at E35 hd;have E35:Tot base 37 [.agg (srE src)] (.tup [.str t,.int .i64 0]):=E35;dsimp only at hd;by_cases h5:5000<t.length
  ·have h5':(5000:Int)<(t.length:Int):=om
   rw[if_pos h5] at hd;rw[hd];repeat'(first|apply jb<;>intro _|simp(disch:=first|exact dzG|fail) only[E35,h5',r8,δ,ε])
   all_goals exact HK jgX rfl
  ·have h5':¬ (5000:Int)<(t.length:Int):=om
   rw[if_neg h5] at hd;rw[hd];have E34:=jqK hb hP t [116,114,117,101] om dc;have ok:=λh=>jaW (l:=t) (f:=[116,114,117,101]) h;unfold kJ at E34;generalize Js t [116,114,117,101]=r at E34 ok;obtain⟨m,x,c,l,k⟩:=r;dsimp only at E34 ok ⊢;have E34:Tot base 36 [.str t,.str [116,114,117,101]] (.tup [.agg (mdE m),.agg (eE x),.agg [.int .i64 c,.int .i64 l,.int .i64 k]]):=E34;by_cases hz:c=0/\l=0/\k=0
   ·have V:=(ok hz.1).1;have E36:=λst K Kp=>(jaK hb m.vars V.len m.enums.length m.moves.length (fl enE m.enums) (fl moE m.moves)).pa (by simp[pa,pc]) (λst=>hb.no 33 dc _ _) st K Kp;rw[decide_eq_true hz,Bool.true_and];have E36:∀ (st:St) (K Kp:AV->St->Prop),XB γ base 33 [.agg (mdE m)] st K Kp=K (.int .i64 (YS m.vars)) st:=E36;have f2:(nw (nw st0 (srE src)) [AV.nils,AV.nils,AV.nils]).nx=2:=rfl;have CX:=((((((f2▸Cl.new (nw (nw st0 (srE src)) [AV.nils,AV.nils,AV.nils]) [AV.nils,AV.nils,AV.nils]:Cl (nw (nw (nw st0 (srE src)) [AV.nils,AV.nils,AV.nils]) [AV.nils,AV.nils,AV.nils]) 2 [AV.nils,AV.nils,AV.nils]).nw [AV.int .i64 0,AV.int .i64 0,AV.str [],AV.nils,AV.int .i64 0,AV.int .i64 0]).nw [AV.int .i64 0,AV.int .i64 0,AV.int .i64 0]).wr0 (c':=mdE m) rfl).wrO (c:=3) dc 0 (eE x)).wrO (c:=4) dc 0 [AV.int .i64 0,AV.int .i64 0,AV.int .i64 0]);have sm:=jrO (by rw[CX.len];exact μ 3) (CX.rats0 rfl);obtain⟨rfl,rfl,rfl⟩:=hz;repeat'(first|apply jb<;>intro _|simp(disch:=first|exact dzG|fail) only[E35,h5',E34,jlj,jli,jlh,fEq,E36,sm,r8,δ,ε])
    all_goals exact HK (FzsD.pc (QD m)) rfl
   ·rw[decide_eq_false hz,Bool.false_and];repeat'(first|apply jb<;>intro _|simp(disch:=first|exact dzG|fail) only[E35,h5',E34,jlj,jli,jlh,fEq,hz,r8,δ,ε])
    all_goals exact HK (FzsD.pc (QD m)) rfl
def zw3:XC:=(Oz [IS 3 0,Os 6] [Ie 24 8 [],Tn 25 24] 25 [Os 6] (Oz [o6 27 3 3,Ou 28 9 27,oy 26 28,O0 29 26,O1 30 26,o9 7 [.nils,.nils,.nils],o7 3 7 29,oz 8 30] [oy 31 8,ol 32 (I0 31),oy 33 32,Ip 34 33 (.ldA 3 7),Ok 35 33 1,OS 36 (33,false) 10 [] [34,35],Ip 37 33 (I0 36),Iy 38 33 I7 37,oy 39 38,Ip 40 39 (.ldA 3 7),Ok 41 39 2,OS 42 (39,false) 10 [] [40,41],Ip 43 39 (I0 42),On 44 39 I7 43] 44 [oK 6 Ik] (ou (IY (Ie 45 11 []) 9 45) (O7 [o6 47 3 7,OP 48,OE 49 12 47 48,oy 46 49,O0 50 46,O1 51 46,oz 10 50,oz 11 51] [o6 53 3 7,oy 54 2,OE 55 12 53 54,oy 52 55,O0 56 52,O1 57 52,oz 12 56,oz 13 57] (O7 [oy 59 9,oy 60 10,oy 61 12,Ie 62 13 [59,60,61],oy 58 62,O0 63 58,O1 64 58,oz 14 63,oz 15 64] [oy 66 9,o6 67 3 7,oy 68 10,Ie 69 14 [66,67,68],oy 65 69,O0 70 65,O1 71 65,oz 16 70,oz 17 71] (O7 [oy 73 9,oy 74 14,oy 75 15,Ie 76 15 [73,.c .nils,74,75],oy 72 76,O0 77 72,O1 78 72,oz 18 77,oz 19 78] [oy 80 9,oy 81 16,oy 82 17,Ie 83 15 [80,.c .nils,81,82],oy 79 83,O0 84 79,O1 85 79,oz 20 84,oz 21 85] (Oq [oy 87 9,oy 88 10,Ie 89 16 [87,.c .nils,88],oy 86 89,O0 90 86,O1 91 86,oz 22 90,oz 23 91] [oy 92 11,OG 93 .eql 92 oB,oy 94 93,I5 95 94 13,Iq 96 94 (oG .eql 95 oB),Ts 97 94 96,oy 98 97,I5 99 98 19,Ts 100 98 99,oy 101 100,I5 102 101 21,Ts 103 101 102,oy 104 103,I5 105 104 23,Iq 106 104 (oG .eql 105 oB),Ts 107 104 106,oy 108 107,I5 109 108 20,Ts 110 108 109,oy 111 110,I5 112 111 18,I5 113 111 1,I5 114 111 2,OS 115 (111,true) 17 [] [113,114],Iq 116 111 (.gen .eql 4 false 112 115),Ts 117 111 116,oy 118 117,I5 119 118 22,I5 120 118 1,OS 121 (118,true) 17 [] [119,120],Ts 122 118 121,oz 6 122])))))))
def yw3:XF:=⟨[0,1,2],zw3,[(.t 6)]⟩
theorem xw3:jv γ 3=some yw3:=by kernel_rfl
theorem jtM (a b:Bool)(st:St)(K:AV->St->Prop):ji (JI γ .eql 4 false (.bool a) (.bool b) st) K=K (.bool (a == b)) st:=by
 have h:JI γ .eql 4 false (.bool a) (.bool b) st=.ok (.bool (a == b)) st:=by cases a<;>cases b<;>kernel_rfl
 rw[h];rfl
set_option maxHeartbeats 32000000 in
theorem law3_ok (hb:NB base)(h8:∀ st,base.run 8 [] st=.ok (.bool true) st)(hP:PI base)(src:SrcT)(sv tv:List Int)(hm:szS src<=1048576)(hs:sv.length<=1000000000)(ht:tv.length<=1000000000):XB γ base 3 [.agg (srE src),svV sv,svV tv] st0 (λv _=>v=.bool true) λ_ _=>False:=by
 have E8:=λ(st:St) (K Kp:AV->St->Prop)=>gj (P:=γ) (base:=base) (h8 st) K Kp;have E9:=jpi hb hP src (joE hm);refine yr xw3 (by rfl) (hb.at0 3 dc dc _ _) ?_;simp only[yw3,jh,ζ,η,θ,κ];rw[(by unfold zw3;simp only[qq];rfl:zw3=_)];cases h1:(Z1 src).2 with
 |false=>
  rw[h1] at E9;repeat'(first|apply jb<;>intro _|simp(disch:=first|exact dzG|fail) only[E8,E9,r8,δ,ε])
 |true=>
  have V:=jjQ h1;rw[h1] at E9;generalize (Z1 src).1=m at E9 V;have hml:=V.len;have E10:=Hp hb m sv hml om;have E10t:=Hp hb m tv hml om;obtain⟨w0,hw0⟩:∃ w0,w0=Go.Sy.wr (Go.Sy.nw (Go.Sy.nw st0.bare (srE src)) [AV.nils,AV.nils,AV.nils]) 1 0 (mdE m):=⟨_,rfl⟩;have n0:w0.nx=2:=by rw[hw0];rfl
  have f1:(Go.Sy.nw st0.bare (srE src)).nx=1:=rfl;have C0:Cl w0 1 (mdE m):=by rw[hw0];exact(f1▸Cl.new (Go.Sy.nw st0.bare (srE src)) [AV.nils,AV.nils,AV.nils]).wr0 rfl
  cases hr:Xr m.vars sv with
  |false=>
   rw[hr] at E10;repeat'(first|apply jb<;>intro _|simp(disch:=first|exact dzG|fail) only[E8,E9,E10,r8,δ,ε])
  |true=>
   rw[hr] at E10;cases hr2:Xr m.vars tv with
   |false=>
    rw[hr2] at E10t;repeat'(first|apply jb<;>intro _|simp(disch:=first|exact dzG|fail) only[E8,E9,E10,E10t,r8,δ,ε])
   |true=>
    rw[hr2] at E10t;have R:=jpT V.ends hr;have R2:=jpT V.ends hr2;have O1:=jqL hb m hml sv hr R;have O2:=jqL hb m hml tv hr2 R2;have Q1:=jlV hb sv tv om om;have Q2:=jlV hb sv sv om om;repeat'(first|apply jb<;>intro _|simp(disch:=first|exact dzG|fail) only[E8,E9,E10,E10t,r8,δ,ε])
    rw[<-hw0];clear hw0;refine jsl hb w0 _ _ λg s1 H A=>?_;have n1:=A.nx;have C1:Cl s1 1 (mdE m):=A.cl 1 _ om C0;have r1:rats s1.h 1 0 3=mdE m:=C1.rats0 rfl;have l1:=C1.len;have S13:=λK Kp=>(jqJ hb m.vars hml sv tv R R2).xb (st:=s1) (aZ':=[.ptr g 0,frV (frM m.vars sv),frV (frM m.vars tv)]) (qr H.lend (yb rfl (yb rfl JB))) (λst=>hb.no 13 dc _ _) K Kp;have S14:=λK Kp=>(jkD hb m hml sv R).xb (st:=s1) (aZ':=[.ptr g 0,.agg (mdE m),frV (frM m.vars sv)]) (qr H.lend (yb rfl (yb rfl JB))) (λst=>hb.no 14 dc _ _) K Kp;have S15:=λp K Kp=>(jo9 hb p).xb (st:=s1) (aZ':=[.ptr g 0,.nils,eb p,.int .i64 0]) (qr H.lend (qr rfl (yb rfl (yb rfl JB)))) (λst=>hb.no 15 dc _ _) K Kp;have S16:=λK Kp hK=>jnc hb m.vars hml sv R s1 g H K Kp hK;rw[decide_eq_true (rfl:sv=sv)] at Q2;generalize hq:decide (sv=tv)=q at *;generalize frV (frM m.vars sv)=fs at *;generalize frV (frM m.vars tv)=ft at *;have hbe:(q == q)=true:=by cases q<;>rfl
    (have zz:=C1.r;(repeat'(first|apply jb<;>intro _|simp(disch:=first|exact qk|fail) only[r1,O1,O2,S13,S14,S15,Wm,C1.q,C1.r,r8,δ,ε])))
    refine S16 _ _ λs2 A2=>?_;repeat'(first|apply jb<;>intro _|simp(disch:=first|exact dzG|fail) only[Q1,Q2,jtM,hbe,r8,δ,ε])
    all_goals rfl
end Go.Sy
end
noncomputable section
namespace Go.Proofs
open Go.Shelf
def Tryz.laysC174_ren:Go.Shelf.Ren:=⟨λ|174=>160|247=>181|245=>182|287=>195|279=>196|280=>197|281=>198|282=>199|321=>203|322=>204|316=>205|171=>207|205=>206|243=>208|246=>209|283=>210|284=>211|285=>212|286=>213|129=>215|317=>214|318=>216|319=>217|320=>218|337=>219|338=>220|n=>n,λ|9=>9|3=>3|2=>2|75=>254|85=>255|4=>4|167=>284|5=>5|53=>130|175=>285|46=>287|168=>288|37=>276|0=>0|210=>297|21=>21|127=>299|145=>302|143=>300|171=>304|173=>307|212=>310|51=>43|20=>20|213=>311|232=>314|233=>315|80=>316|n=>n,λ|15=>0|16=>1|17=>2|18=>3|19=>4|n=>n⟩
theorem Tryz.laysC174:Go.Proofs.LaysC.n174 γ Tryz.laysC174_ren:={
 mixed:=by kernel_rfl
 f129:=Tryz.func215.trans (congrArg some (by kernel_rfl))
 f171:=Tryz.func207.trans (congrArg some (by kernel_rfl))
 f174:=Tryz.func160.trans (congrArg some (by kernel_rfl))
 f205:=Tryz.func206.trans (congrArg some (by kernel_rfl))
 f243:=Tryz.func208.trans (congrArg some (by kernel_rfl))
 f245:=Tryz.func182.trans (congrArg some (by kernel_rfl))
 f246:=Tryz.func209.trans (congrArg some (by kernel_rfl))
 f247:=Tryz.func181.trans (congrArg some (by kernel_rfl))
 f279:=Tryz.func196.trans (congrArg some (by kernel_rfl))
 f280:=Tryz.func197.trans (congrArg some (by kernel_rfl))
 f281:=Tryz.func198.trans (congrArg some (by kernel_rfl))
 f282:=Tryz.func199.trans (congrArg some (by kernel_rfl))
 f283:=Tryz.func210.trans (congrArg some (by kernel_rfl))
 f284:=Tryz.func211.trans (congrArg some (by kernel_rfl))
 f285:=Tryz.func212.trans (congrArg some (by kernel_rfl))
 f286:=Tryz.func213.trans (congrArg some (by kernel_rfl))
 f287:=Tryz.func195.trans (congrArg some (by kernel_rfl))
 f316:=Tryz.func205.trans (congrArg some (by kernel_rfl))
 f317:=Tryz.func214.trans (congrArg some (by kernel_rfl))
 f318:=Tryz.func216.trans (congrArg some (by kernel_rfl))
 f319:=Tryz.func217.trans (congrArg some (by kernel_rfl))
 f320:=Tryz.func218.trans (congrArg some (by kernel_rfl))
 f321:=Tryz.func203.trans (congrArg some (by kernel_rfl))
 f322:=Tryz.func204.trans (congrArg some (by kernel_rfl))
 f337:=Tryz.func219.trans (congrArg some (by kernel_rfl))
 f338:=Tryz.func220.trans (congrArg some (by kernel_rfl))
 t0:=Tryz.underlying0
 a0:=Tryz.isAgg0
 z0:=Tryz.sizeOf0
 v0:=Tryz.zeroValue0
 t2:=Tryz.underlying2
 a2:=Tryz.isAgg2
 z2:=Tryz.sizeOf2
 v2:=Tryz.zeroValue2
 t3:=Tryz.underlying3
 a3:=Tryz.isAgg3
 z3:=Tryz.sizeOf3
 v3:=Tryz.zeroValue3
 t4:=Tryz.underlying4
 a4:=Tryz.isAgg4
 z4:=Tryz.sizeOf4
 v4:=Tryz.zeroValue4
 t5:=Tryz.underlying5
 a5:=Tryz.isAgg5
 z5:=Tryz.sizeOf5
 v5:=Tryz.zeroValue5
 t9:=Tryz.underlying9
 a9:=Tryz.isAgg9
 z9:=Tryz.sizeOf9
 v9:=Tryz.zeroValue9
 t20:=Tryz.underlying20
 a20:=Tryz.isAgg20
 z20:=Tryz.sizeOf20
 v20:=Tryz.zeroValue20
 t21:=Tryz.underlying21
 a21:=Tryz.isAgg21
 z21:=Tryz.sizeOf21
 v21:=Tryz.zeroValue21
 t37:=Tryz.underlying276
 a37:=Tryz.isAgg276
 z37:=Tryz.sizeOf276
 v37:=Tryz.zeroValue276
 t46:=Tryz.underlying287
 a46:=Tryz.isAgg287
 z46:=Tryz.sizeOf287
 v46:=Tryz.zeroValue287
 t51:=Tryz.underlying43
 a51:=Tryz.isAgg43
 z51:=Tryz.sizeOf43
 v51:=Tryz.zeroValue43
 t53:=Tryz.underlying130
 a53:=Tryz.isAgg130
 z53:=Tryz.sizeOf130
 v53:=Tryz.zeroValue130
 t75:=Tryz.underlying254
 a75:=Tryz.isAgg254
 z75:=Tryz.sizeOf254
 v75:=Tryz.zeroValue254
 t85:=Tryz.underlying255
 a85:=Tryz.isAgg255
 z85:=Tryz.sizeOf255
 v85:=Tryz.zeroValue255
 t127:=Tryz.underlying299
 a127:=Tryz.isAgg299
 z127:=Tryz.sizeOf299
 v127:=Tryz.zeroValue299
 t143:=Tryz.underlying300
 a143:=Tryz.isAgg300
 z143:=Tryz.sizeOf300
 v143:=Tryz.zeroValue300
 t145:=Tryz.underlying302
 a145:=Tryz.isAgg302
 z145:=Tryz.sizeOf302
 v145:=Tryz.zeroValue302
 t167:=Tryz.underlying284
 a167:=Tryz.isAgg284
 z167:=Tryz.sizeOf284
 v167:=Tryz.zeroValue284
 t168:=Tryz.underlying288
 a168:=Tryz.isAgg288
 z168:=Tryz.sizeOf288
 v168:=Tryz.zeroValue288
 t171:=Tryz.underlying304
 a171:=Tryz.isAgg304
 z171:=Tryz.sizeOf304
 v171:=Tryz.zeroValue304
 t173:=Tryz.underlying307
 a173:=Tryz.isAgg307
 z173:=Tryz.sizeOf307
 v173:=Tryz.zeroValue307
 t175:=Tryz.underlying285
 a175:=Tryz.isAgg285
 z175:=Tryz.sizeOf285
 v175:=Tryz.zeroValue285
 t210:=Tryz.underlying297
 a210:=Tryz.isAgg297
 z210:=Tryz.sizeOf297
 v210:=Tryz.zeroValue297
 t212:=Tryz.underlying310
 a212:=Tryz.isAgg310
 z212:=Tryz.sizeOf310
 v212:=Tryz.zeroValue310
 t213:=Tryz.underlying311
 a213:=Tryz.isAgg311
 z213:=Tryz.sizeOf311
 t232:=Tryz.underlying314
 a232:=Tryz.isAgg314
 z232:=Tryz.sizeOf314
 v232:=Tryz.zeroValue314
 t233:=Tryz.underlying315
 a233:=Tryz.isAgg315
 z233:=Tryz.sizeOf315
 v233:=Tryz.zeroValue315
 g15:=by kernel_rfl
 g16:=by kernel_rfl
 g17:=by kernel_rfl
 g18:=by kernel_rfl
 g19:=by kernel_rfl
 t80:=Tryz.underlying316
 a80:=Tryz.isAgg316
 z80:=Tryz.sizeOf316
 v80:=Tryz.zeroValue316
 i0:=by kernel_rfl
 i2:=by kernel_rfl
 i3:=by kernel_rfl
 i4:=by kernel_rfl
 i5:=by kernel_rfl
 i9:=by kernel_rfl
 i20:=by kernel_rfl
 i21:=by kernel_rfl
 i37:=by kernel_rfl
 i46:=by kernel_rfl
 i51:=by kernel_rfl
 i53:=by kernel_rfl
 i75:=by kernel_rfl
 i80:=by kernel_rfl
 i85:=by kernel_rfl
 i127:=by kernel_rfl
 i143:=by kernel_rfl
 i145:=by kernel_rfl
 i167:=by kernel_rfl
 i168:=by kernel_rfl
 i171:=by kernel_rfl
 i173:=by kernel_rfl
 i175:=by kernel_rfl
 i210:=by kernel_rfl
 i212:=by kernel_rfl
 i232:=by kernel_rfl
 i233:=by kernel_rfl
 m15:=by kernel_rfl
 m16:=by kernel_rfl
 m17:=by kernel_rfl
 m18:=by kernel_rfl
 m19:=by kernel_rfl
 c0:=by kernel_rfl
 c2:=by kernel_rfl
 c3:=by kernel_rfl
 c4:=by kernel_rfl
 c5:=by kernel_rfl
 c9:=by kernel_rfl
 c20:=by kernel_rfl
 c21:=by kernel_rfl
 c37:=by kernel_rfl
 c46:=by kernel_rfl
 c51:=by kernel_rfl
 c53:=by kernel_rfl
 c75:=by kernel_rfl
 c80:=by kernel_rfl
 c85:=by kernel_rfl
 c127:=by kernel_rfl
 c143:=by kernel_rfl
 c145:=by kernel_rfl
 c167:=by kernel_rfl
 c168:=by kernel_rfl
 c171:=by kernel_rfl
 c173:=by kernel_rfl
 c175:=by kernel_rfl
 c210:=by kernel_rfl
 c212:=by kernel_rfl
 c213:=by kernel_rfl
 c232:=by kernel_rfl
 c233:=by kernel_rfl }
open Go.RowKit in
theorem Tryz.strconv_ParseInt_10_at64_ok (s:ByteArray)(hmax:s.size<=9223372036854775806)(v:Int)(h:Lib.parseIntB 64 s.data.toList=.ok v)(w:World) :
 Calls γ 160 #[.string s,.int .i64 10,.int .i64 64] w λe w'=>e=.returned (.tuple #[.int .i64 v,.nilIface])/\(w'=w\/∃ t,w'=Lib.bytesWorld w 5 t):=Any.strconv_ParseInt_10_at64_ok Tryz.laysC174 s hmax v h w
open Go.RowKit in
theorem Tryz.strconv_ParseInt_10_at64_range (s:ByteArray)(hlim:s.size<=281474976710656)(h:Lib.parseIntB 64 s.data.toList=.range)(ev:Value)(w:World)(hv:w.cell? ⟨1,0,none⟩=some ev)(hev:ev=.nilIface\/∃ te pe,ev=.iface te pe) :
 Calls γ 160 #[.string s,.int .i64 10,.int .i64 64] w λe w'=>∃ N,e=.returned (.tuple #[.int .i64 (Lib.intSat 64 s.data.toList),.iface 288 (.pointer (some ⟨N,0,none⟩))])/\w.heap.size<=N/\w'.heap[N]? = some (.cells #[.string ⟨#[80,97,114,115,101,73,110,116]⟩,.string s,ev] 297 (0,0))/\Below w.heap.size w w':=Any.strconv_ParseInt_10_at64_range Tryz.laysC174 s hlim h ev w hv hev
end Go.Proofs
end
noncomputable section
set_option maxRecDepth 100000
namespace Go.Sy
open Go.Ev Go.Proofs
open Go.RowKit (Below)
theorem u1:okP γ=true:=by kernel_rfl
theorem kH:Tryz.prog.follows .mixedOrders=true:=by kernel_rfl
theorem jrP:jg6 (KU γ 10000000 400 8 [] st0)=true:=by kernel_rfl
def Gc (l:List UInt8):Prop:=∀ c∈l,48<=c.toNat/\c.toNat<=57
theorem GC:∀ (l:List UInt8) (acc:Nat),Gc l->(acc+1) * 10 ^ l.length<=100000000->Lib.parseUintM 18446744073709551615 acc l=.ok ((l.map UInt8.toNat).foldl (λv c=>10 * v+(c - 48)) acc)
 |[],acc,_,_=>rfl
 |c :: r,acc,hd,h=>by
  have hc:=hd c (by simp);rw[ν,Nat.pow_succ] at h;have hp:1<=10 ^ r.length:=Nat.one_le_pow _ _ dc;have hacc:(acc+1) * 10<=100000000:=by
   have:(acc+1) * 10 * 1<=(acc+1) * 10 * 10 ^ r.length:=Nat.mul_le_mul_left _ hp;have e:(acc+1) * 10 * 10 ^ r.length=(acc+1) * (10 ^ r.length * 10):=by rw[Nat.mul_assoc,Nat.mul_comm 10]
   omega
  unfold Lib.parseUintM;rw[if_pos hc,if_neg om,if_neg om,GC r _ (λd hd'=>hd d (by simp[hd']))]
  ·show _=Lib.NumEnd.ok ((r.map UInt8.toNat).foldl _ (10 * acc+(c.toNat - 48)));rw[Nat.mul_comm acc 10]
  ·refine ψ ?_ h;have e:(acc+1) * (10 ^ r.length * 10)=((acc+1) * 10) * 10 ^ r.length:=by rw[Nat.mul_comm (10 ^ r.length),Nat.mul_assoc]
   rw[e];exact Qax _ om
theorem WP:∀ (l:List UInt8) (acc:Nat),Gc l->(∃ u,Lib.parseUintM 18446744073709551615 acc l=.ok u)\/Lib.parseUintM 18446744073709551615 acc l=.range
 |[],acc,_=>.inl ⟨acc,rfl⟩
 |c :: r,acc,hd=>by
  have hc:=hd c (by simp);unfold Lib.parseUintM;rw[if_pos hc];by_cases h1:1844674407370955162<=acc
  ·rw[if_pos h1];exact .inr rfl
  ·rw[if_neg h1];by_cases h2:18446744073709551615<acc * 10+(c.toNat - 48)
   ·rw[if_pos h2];exact .inr rfl
   ·rw[if_neg h2];exact WP r _ λd hd'=>hd d (by simp[hd'])
theorem GD {l:List UInt8}(hne:l≠[])(hd:Gc l):Lib.parseIntB 64 l=Lib.signlessC (2 ^ 63) (Lib.parseUintM 18446744073709551615 0 l):=by
 obtain⟨c,r,rfl⟩:=List.exists_cons_of_ne_nil hne;have hc:=hd c (by simp);rw[Lib.parseIntB_plain 64 c r om om];unfold Lib.parseUintB;rw[if_neg (by simp)]
theorem jgP {l:List UInt8}(hne:l≠[])(hd:Gc l)(h7:l.length<=7):Lib.parseIntB 64 l=.ok (wT (l.map UInt8.toNat):Int):=by
 have hle:10 ^ l.length<=10 ^ 7:=Qbq dc h7;have e7:10 ^ 7=10000000:=dc
 rw[GD hne hd,GC l 0 hd om];have hv:=jmb (s:=l.map UInt8.toNat) (n:=l.length) (by simp) h7 (λc hc=>by
  obtain⟨b,hb,rfl⟩:=QaL.1 hc;have:=hd b hb;unfold qc;simp;omega)
 show Lib.signlessC _ (.ok (wT (l.map UInt8.toNat)))=_;generalize wT (l.map UInt8.toNat)=v at hv;unfold Lib.signlessC;simp;omega
theorem jeC {l:List UInt8}(hne:l≠[])(hd:Gc l):(∃ v,Lib.parseIntB 64 l=.ok v)\/Lib.parseIntB 64 l=.range:=by
 rw[GD hne hd];rcases WP l 0 hd with ⟨u,h⟩|h
 ·rw[h];unfold Lib.signlessC;by_cases hu:2 ^ 63<=u
  ·right;simp only[if_pos hu]
  ·left;exact⟨u,by simp only[if_neg hu]⟩
 ·rw[h];exact .inr rfl
def jbR (s:List Nat):Bool:=decide (s≠[]) && s.all qc
theorem jbQ (s:List Nat):jbR s=true↔uO s:=by
 unfold jbR uO;simp
def wt:qF:=λf args st=>match args with
 |[]=>if f=8 then .ok (.bool true) st else .no
 |[.str s,.int .i64 a,.int .i64 b]=>if f=160/\a=10/\b=64/\jbR s=true/\s.length<=281474976710656 then(if s.length<=7 then .ok (.tup [.int .i64 (wT s:Int),.nilif]) st else .ok (.tup [.bad,.bad]) st) else .no
 |_=>.no
theorem jm7 (st:St):wt 8 [] st=.ok (.bool true) st:=rfl
def wu:Bs:=⟨wt,jaZ⟩
theorem jca:PI wu:=λs st hd hl=>by
 have e:wt 160 [.str s,.int .i64 10,.int .i64 64] st=if(160=160/\(10:Int)=10/\(64:Int)=64/\jbR s=true/\s.length<=281474976710656) then(if s.length<=7 then .ok (.tup [.int .i64 (wT s:Int),.nilif]) st else .ok (.tup [.bad,.bad]) st) else .no:=rfl
 simp only[show wu.run=wt from rfl];rw[e,if_pos ⟨rfl,rfl,rfl,(jbQ s).2 hd,hl⟩];exact⟨λh=>if_pos h,λh=>if_neg om⟩
theorem UI (f:FuncId)(args:List AV)(st:St):wt f args st=.no\/(f=8/\args=[])\/(f=160/\∃ s,args=[.str s,.int .i64 10,.int .i64 64]/\uO s/\s.length<=281474976710656):=by
 unfold wt;split
 ·by_cases h:f=8
  ·exact .inr (.inl ⟨h,rfl⟩)
  ·exact .inl (if_neg h)
 ·rename_i s a b;by_cases h:f=160/\a=10/\b=64/\jbR s=true/\s.length<=281474976710656
  ·obtain⟨h1,rfl,rfl,h4,h5⟩:=h;exact .inr (.inr ⟨h1,s,rfl,(jbQ s).1 h4,h5⟩)
  ·exact .inl (if_neg h)
 ·exact .inl rfl
theorem jky (f:FuncId)(args:List AV)(st:St)(h9:f≠8)(h31:f≠160):wt f args st=.no:=by
 rcases UI f args st with h|⟨h,_⟩|⟨h,_⟩
 ·exact h
 ·exact absurd h h9
 ·exact absurd h h31
theorem X6 {ι:Inj}{st:St}{w w':World}(hs:Sim ι st.h st.nx w)(b:Below w.heap.size w w'):Sim ι st.h st.nx w'/\Grew ι w ι w':=by
 have gr:Grew ι w ι w':=⟨b.os,b.tape,b.output,b.size,λk hk _=>b.block k hk,λb B S e=>.inl ⟨b,S,e⟩,λB vs h=>.inl h⟩;exact⟨⟨λc B S e=>by
  obtain⟨o,x,h1,h2,h3⟩:=hs.obj c B S e;exact⟨o,x,h1,(b.block B (hs.lt e)).trans h2,h3⟩,hs.gone,hs.inj,hs.born,hs.glob.grew gr⟩,gr⟩
theorem jkz:Jq γ wu.run:=by
 intro f args st ι w vs hs hv;simp only[show wu.run=wt from rfl];rcases UI f args st with h|⟨rfl,rfl⟩|⟨rfl,s,rfl,hd,hl⟩
 ·rw[h];trivial
 ·rw[jm7];have hvs:vs = #[]:=by
   have:vs.toList=[]:=by simpa[VRs] using hv
   simpa using this
  subst hvs;have hb:Tryz.f8.body.isSome=true:=by kernel_rfl
  obtain⟨c,hc⟩:=Option.isSome_iff_exists.1 hb;refine⟨(w5 u1 Tryz.func8 hc).2,Calls.mono (jjM u1 (jdx kH) jrP w ⟨⟨hs.glob.1.1,λb S e=>by cases e⟩,λB vs e=>by cases e⟩) λe w' ⟨he,hos,ht,ho,hsz,hk⟩=>⟨_,he,ι,Le.refl ι,?_,?_,?_,Cleanly.refl ι st⟩⟩
  ·simp only[VR]
  ·exact(X6 hs ⟨hos,ht,ho,hsz,hk⟩).1
  ·exact(X6 hs ⟨hos,ht,ho,hsz,hk⟩).2
 ·simp only[VRs,VR] at hv;obtain⟨v1,l1,e1,⟨bs,rfl,hbs⟩,v2,l2,rfl,rfl,v3,l3,rfl,rfl,rfl⟩:=hv;have hvs:vs = #[.string bs,.int .i64 10,.int .i64 64]:=by
   cases vs;simpa using e1
  subst hvs;have hlen:bs.data.toList.length=s.length:=by rw[<-hbs,Qaq]
  have hsz:bs.size=s.length:=by rw[<-hlen,Qak];rfl
  have hne:bs.data.toList≠[]:=λh=>hd.1 (by rw[<-hbs,h];rfl);have hd8:Gc bs.data.toList:=λc hc=>by
   have:=hd.2 c.toNat (by rw[<-hbs];exact QaL.2 ⟨c,hc,rfl⟩);unfold qc at this;simp at this;omega
  have hent:Ev.Enters γ 160:=by
   have hb:Tryz.f160.body.isSome=true:=by kernel_rfl
   obtain⟨c,hc⟩:=Option.isSome_iff_exists.1 hb;exact(w5 u1 Tryz.func160 hc).2
  have okc:∀ v,Lib.parseIntB 64 bs.data.toList=.ok v->Calls γ 160 #[.string bs,.int .i64 10,.int .i64 64] w λe w'=>e=.returned (.tuple #[.int .i64 v,.nilIface])/\Below w.heap.size w w':=λv h=>
   (Tryz.strconv_ParseInt_10_at64_ok bs om v h w).mono λe w' ⟨he,hw⟩=>⟨he,by
    rcases hw with rfl|⟨t,rfl⟩
    ·exact⟨rfl,rfl,rfl,μ _,λ_ _=>rfl⟩
    ·exact Lib.bytesWorld_below w 5 t⟩
  have hP:=jca s st hd hl;simp only[show wu.run=wt from rfl] at hP;by_cases h7:s.length<=7
  ·rw[hP.1 h7];refine⟨hent,(okc _ (jgP hne hd8 om)).mono λe w' ⟨he,hb⟩=>⟨_,he,ι,Le.refl ι,?_,(X6 hs hb).1,(X6 hs hb).2,Cleanly.refl ι st⟩⟩;rw[hbs];simp only[VR,VRs];exact⟨_,rfl,_,_,rfl,rfl,_,_,rfl,rfl,rfl⟩
  ·rw[hP.2 om];refine⟨hent,?_⟩;have fin:∀ (x y:Value) (w':World),Below w.heap.size w w'->Jf ι w st st (.tup [.bad,.bad]) (.tuple #[x,y]) w':=λx y w' hb=>by
    refine⟨ι,Le.refl ι,?_,(X6 hs hb).1,(X6 hs hb).2,Cleanly.refl ι st⟩;simp only[VR,VRs];exact⟨_,rfl,_,_,rfl,trivial,_,_,rfl,trivial,rfl⟩
   rcases jeC hne hd8 with ⟨v,h⟩|h
   ·exact(okc v h).mono λe w' ⟨he,hb⟩=>⟨_,he,fin _ _ w' hb⟩
   ·obtain⟨te,pe,hg⟩:=hs.glob.1.1;exact(Tryz.strconv_ParseInt_10_at64_range bs om h _ w hg (.inr ⟨te,pe,rfl⟩)).mono λe w' ⟨N,he,_,_,hb⟩=>⟨_,he,fin _ _ w' hb⟩
end Go.Sy
end
noncomputable section
set_option maxRecDepth 100000
namespace Go.Sy
open Go.Ev Go.Proofs
theorem jl7 {ι:Inj}:∀ {cs:List AV} {v:Value},VRs ι cs v.cells.toList->2<=cs.length->VR ι (.agg cs) v
 |a :: b :: r,v,h,_=>by
  cases v;case agg c=>exact⟨c,rfl,h⟩
  all_goals
   exfalso;obtain⟨v1,l1,e1,_,v2,l2,e2,_⟩:=h;simp[Value.cells] at e1;rw[e2] at e1;simp at e1
 |[],v,h,h2=>by simp at h2
 |[a],v,h,h2=>by simp at h2
theorem arg_src {w:World}{m:SrcT}{v:Value}(h:VRs (frW w) (srE m) v.cells.toList):VR (frW w) (.agg (srE m)) v:=jl7 h (by rw[vF];decide)
theorem base3_8 (st:St):wu.run 8 [] st=.ok (.bool true) st:=rfl
theorem base3_PI:PI wu:=jca
theorem base3_NB:NB wu:=⟨λf h args st=>jky f args st (by rintro rfl;simp[Va] at h) (by rintro rfl;simp[Va] at h),rfl⟩
theorem law_calls {f:FuncId}{xs:List AV}{vs:Array Value}{w:World}(h:XB γ wu f xs st0 (λv _=>v=.bool true) λ_ _=>False)(hg:∃ te pe,w.cell? ⟨1,0,none⟩=some (.iface te pe))(hv:VRs (frW w) xs vs.toList) :
  Calls γ f vs w λe w'=>e=.returned (.bool true)/\w'.os=w.os/\w'.tape=w.tape/\w'.output=w.output/\w.heap.size<=w'.heap.size/\∀ k,k<w.heap.size->w'.heap[k]? = w.heap[k]?:=by
 have h2:=CW.calls u1 (jdx kH) jkz (K:=λv _=>v=.bool true) h.cb (jmm hg) hv;refine Calls.mono h2 λe w' ⟨v,x,st',he,hK,ι',_,hv,_,hg,_⟩=>?_;rw[hK] at hv;simp only[VR] at hv;rw[hv] at he;exact⟨he,hg.os,hg.tape,hg.output,hg.size,λk hk=>hg.keep k hk (λb S e=>by cases e)⟩
theorem jdp:∀ xs:List {n:Int // (Lit.int .i64 n).wf=true},fl (jbw .i64) xs=(xs.map (·.1)).map (AV.int .i64)
 |[]=>rfl
 |x :: r=>by
  have:=jdp r;simp only[fl,QbX,ζ,jbw,List.singleton_append] at this ⊢;rw[this]
theorem rd_sv {H:Type}{w:World}(N:Nat):Reads H γ w (N+1) 27 1 (λs:List {n:Int // (Lit.int .i64 n).wf=true}=>[svV (s.map (·.1))]) (λs=>(s.map λ_=>1).sum+1):=by
 have h:Reads H γ w (N+1) 27 1 (λxs=>[.lst xs.length (fl (jbw .i64) xs)]) (λxs=>(xs.map λ_=>1).sum+1):=Qe dc Tryz.underlying27 (by kernel_rfl) (Jm (N:=N) Tryz.underlying2 (by kernel_rfl)) (λx=>μ _);have e:(λxs:List {n:Int // (Lit.int .i64 n).wf=true}=>[AV.lst xs.length (fl (jbw .i64) xs)])=λs=>[svV (s.map (·.1))]:=funext λxs=>by rw[jdp];unfold svV;rw[Qaq]
 rw[e] at h;exact h
theorem sum_ones {α:Type}:∀ s:List α,(s.map λ_=>1).sum=s.length
 |[]=>rfl
 |_ :: r=>by rw[ζ,List.sum_cons,sum_ones r,ν,Qbo]
theorem arg_sv {w:World}{s:List Int}{a:Option Addr}{len cap:Nat}(h:VRs (frW w) [svV s] (Value.slice a len cap).cells.toList):VR (frW w) (svV s) (.slice a len cap):=by
 obtain⟨v,l,e,h1,rfl⟩:=h;rw[show(Value.slice a len cap).cells.toList=[.slice a len cap] from rfl] at e;cases e;exact h1
end Go.Sy
end
