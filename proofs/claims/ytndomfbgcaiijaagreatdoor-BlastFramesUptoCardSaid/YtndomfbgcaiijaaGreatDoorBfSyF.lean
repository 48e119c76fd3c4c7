import Derived.Test.YtndomfbgcaiijaaGreatDoorBfSyE
import Derived.Test.YtndomfbgcaiijaaGreatDoorProg
import Derived.KernelRfl
import Derived.Shelf.LaysC
import Derived.Shelf.Strconv.ParseIntPublic10
set_option linter.unusedVariables false
set_option linter.unusedSimpArgs false
set_option maxHeartbeats 8000000
open Nat renaming reduceAdd -> γ, reduceSub -> ε, le_refl -> η, le_trans -> χ, zero_le -> Qae, zero_add -> Qaj, lt_of_lt_of_le -> Qat, mul_one -> Qaz, mul_le_mul_right -> QaA, ne_of_lt -> QaD, sub_zero -> QaF, lt_succ_self -> QaW, lt_irrefl -> Qba, le_of_lt -> Qbo, pow_le_pow_right -> Qbu, mod_eq_of_lt -> Qby, add_comm -> QbB, add_sub_cancel -> QbI, add_sub_cancel_left -> Qcs, beq -> QcA, ble -> QcC, add -> QcD, mul -> QcE
open Go.Proofs.Tryz renaming prog -> δ
open List renaming map_cons -> ζ, map_nil -> θ, getD_cons_zero -> κ, getD_cons_succ -> μ, length_cons -> τ, length_append -> υ, length_nil -> φ, range -> ω, getElem_mem -> Qaa, getD_eq_getElem?_getD -> Qab, length_map -> Qac, getElem?_eq_getElem -> Qad, getD -> Qaf, all_eq_true -> Qah, cons_append -> Qai, nil_append -> Qam, map_append -> Qay, all_cons -> QaC, mem_append -> QaH, mem_singleton -> QaL, all_append -> QaN, mem_map -> QaQ, map_congr_left -> QaR, mem_range -> QaZ, take_of_length_le -> Qbb, map_map -> Qbc, getElem?_map -> Qbf, ext_getElem -> Qbg, getElem?_eq_some_iff -> Qbk, range_succ -> Qbs, getElem?_append_left -> Qbt, take_succ_eq_append_getElem -> QbG, getElem?_append_right -> QbK, take_add_one -> QbX, getElem_map -> QbY, getElem?_range -> Qcb, flatMap_cons -> Qcm
open Int renaming pow_succ -> Qbp, mul_ediv_add_emod -> Qcf, emod_nonneg -> Qcg, emod_lt_of_pos -> Qch, add_mul_emod_self_left -> Qci, emod_eq_of_lt -> Qcj, toNat_natCast -> Qck, tmod_eq_emod_of_nonneg -> Qcz
open Bool renaming and_eq_true -> ψ, eq_iff_iff -> Qaw, true_and -> QbJ, eq_false_iff -> Qcd
open Array renaming length_toList -> Qan
noncomputable section
set_option maxRecDepth 100000
namespace Go.Sy
open Go.Ev Go.Proofs
variable {base:Bs}
variable {G:Gr}{n:Int}{v:AV}{k lo n0 w i:Nat}{vars:List VarT}{ns:List ((Nat->Bool)->Int)}{O:Nat->Prop}{st s:St}{cs:List AV}{K:AV->St->Prop}{sv:Ld}{src:SrcT}{m:ModT}{enums:List EnumT}
theorem gR (hb:NB base)(e:Nat):Tot base 43 [eu e,.int .i64 0] (eu e):=by
 refine hb.tot ?_ rfl rfl;refine jB jvJ haa (hb.pur 43 1 dc) ?_;simp only[jqa,jj,ζ,θ,κ,μ];rw[(by unfold jkx;simp only[qq];rfl:jkx=_)];repeat' first|apply jb<;>intro _|simp(disch:=try exact dzG) only[r8,γ,ε]
 exact G0.v rfl rfl
theorem jeV (hb:NB base)(w:Nat)(l:List AV):Tot base 53 [.lst w l,.int .i64 0] (.lst w l):=by
 refine hb.tot ?_ rfl rfl;refine jB jvz haa (hb.pur 53 1 dc) ?_;simp only[jp0,jj,ζ,θ,κ,μ];rw[(by unfold jkn;simp only[qq];rfl:jkn=_)];repeat' first|apply jb<;>intro _|simp(disch:=try exact dzG) only[r8,γ,ε]
 exact G0.v rfl rfl
theorem WC {fb:Nat}(st:St)(K:Md->St->Prop):DX δ base 42 [.ptr fb 0] .calm st.bare K=K .calm st.bare:=by
 refine GA (λK hK=>?_) K;refine Z9 jt5 haa rfl ?_;simp only[jna,jj,ζ,θ,κ,Xc,XV];rw[(by unfold jfO;simp only[qq];rfl:jfO=_)];repeat' first|apply jb<;>intro _|simp(disch:=try exact dzG) only[jdr,vF,r8,γ,ε]
 exact hK
def cE (n:Int)(w:Nat):Lc:=(ω w).map λi=>if bt n i=true then 1 else 0
theorem ui (n:Int)(w:Nat):(cE n w).length=w:=by simp[cE]
theorem jvb (n:Int)(w:Nat):bs (bt n) w=(cE n w).map eu:=by
 unfold bs cE;rw[Qbc];refine QaR λi _=>?_;show eb (bt n i)=eu (if bt n i=true then 1 else 0);cases bt n i<;>rfl
theorem jbN (w:G.WF){wd:Nat}(h1:1<=wd)(h2:wd<=28)(hf:Qe n n wd):VN G (cE n wd) λ_=>n:=by
 refine⟨by rw[ui];exact h1,by rw[ui];exact h2,λi hi=>?_,λv o=>by rw[ui];exact hf⟩;have e:(cE n wd)[i]=if bt n i=true then 1 else 0:=by simp[cE]
 rw[e];show G.Is _ λv=>bt n i;cases bt n i with
 |false=>exact w.is0
 |true=>exact w.is1
theorem kY (hb:NB base)(h1 : -100000000<=n)(h2:n<=100000000):Tot base 39 [.int .i64 n] (.tup [.lst (cE n (wd n n)).length ((cE n (wd n n)).map eu),.int .i64 0]):=by
 have:=jpM hb h1 h2;unfold bv at this;rw[jvb] at this;rw[ui];exact this
theorem juv:Go.Ev.isAgg δ 36=some false:=Qa0
theorem juu:Go.Ev.sizeOf δ 36=some 1:=Qa0
theorem jgg {b o:Nat}{h:T AO}(ho:o<jV h b)(hv:rat h b o=v)(hc:eqs v=true):(jZ δ 36 (.ptr b o) v h=true)=True:=eq_true (JA juv juu ho hv hc)
theorem jjR (hb:NB base){g b:Nat}{O:Nat->Prop}{G:Gr}{l:Lc}{n:(Nat->Bool)->Int}{lo hi:Int}{r:List AV}(st:St)(H:GM st g O G)(w:G.WF)(V:VN G l n)(h1 : -100000000<=lo)(h2:lo<=100000000)(h3 : -100000000<=hi)(h4:hi<=100000000)(hs:G.parts.length+340<=1048576)(C:Cl st b (.ptr g 0 :: r))(hbO:¬ O b)(K Kp:AV->St->Prop)
  (hK:∀ e O' G' s',Aft g O G 338 st O' G' s'->G'.Is e (λv=>decide (lo<=n v/\n v<=hi))->K (eu e) s'):XB δ base 79 [.ptr b 0,.lst l.length (l.map eu),.int .i64 lo,.int .i64 hi] st K Kp:=by
 obtain⟨a1,a2,a3,_⟩:=Qr (lo:=lo) (hi:=lo) h1 h2;obtain⟨b1,b2,b3,_⟩:=Qr (lo:=hi) (hi:=hi) h3 h4;have C1:=kY hb h1 h2;have C2:=kY hb h3 h4;have M:=gR hb;have MV:=jeV hb;have V1:=jbN w a1 (jcg h1 h2) a3;have V2:=jbN w b1 (jcg h3 h4) b3;generalize cE lo (wd lo lo)=cl at *;generalize cE hi (wd hi hi)=ch at *;have hbl:=C.lt;have CB:Cl st.bare b (.ptr g 0 :: r):=by simp only[jz];exact C
 have r0:rat st.h b 0=.ptr g 0:=C.cell 0 hac;have l0:jV st.h b=r.length+1:=C.len;refine qu jvr haa (hb.at0 79 dc dc _ _) ?_;simp only[jpS,jj,ζ,θ,κ,μ];rw[(by unfold jkf;simp only[qq];rfl:jkf=_)];have S1:=jgg (b:=b) (o:=0) (h:=st.h) (by rw[l0];omega) r0 rfl
 (have zz:=@l0;repeat' first|apply jb<;>intro _|simp(disch:=try exact j9) only[C1,C2,M,MV,r0,S1,l0,r8,γ,ε])
 refine jj7 hb st.bare H.bar w V V1 om _ _ λe1 O1 G1 s1 A1 I1=>?_;obtain⟨CB1,n1⟩:=A1.fr.cl CB hbO;have r1:rat s1.h b 0=.ptr g 0:=CB1.cell 0 hac;have l1:jV s1.h b=r.length+1:=CB1.len;have S2:=jgg (b:=b) (o:=0) (h:=s1.h) (by rw[l1];omega) r1 rfl;have hl1:=A1.len
 (have zz:=@l1;repeat' first|apply jb<;>intro _|simp(disch:=try exact j9) only[C1,C2,M,MV,r1,S2,l1,r8,γ,ε])
 refine jj7 hb s1 A1.gm A1.wf (V2.up A1.le) (V.up A1.le) om _ _ λe2 O2 G2 s2 A2 I2=>?_;obtain⟨CB2,n2⟩:=A2.fr.cl CB1 n1;have r2:rat s2.h b 0=.ptr g 0:=CB2.cell 0 hac;have l2:jV s2.h b=r.length+1:=CB2.len;have A12:=A1.trans A2 (η _);have hl2:=A12.len;have x1:=jf9 A12.wf (A2.le.has I1.1);have x2:=jf9 A12.wf I2.1
 (have zz:=@l2;repeat' first|apply jb<;>intro _|simp(disch:=try exact j9) only[M,r2,x1,x2,l2,r8,γ,ε])
 refine WJ hb s2 A2.gm A2.wf (Gj (A2.le.has I1.1)) (Gj I2.1) om _ _ λe3 O3 G3 s3 A3 I3=>?_;repeat' first|apply jb<;>intro _|simp(disch:=try exact dzG) only[M,r8,γ,ε]
 refine hK _ _ _ _ (A12.trans A3 om).bak (I3.of λv o=>?_);have q1:=I1.2 v (A2.le.ok (A3.le.ok o));have q2:=I2.2 v (A3.le.ok o);dsimp only at q1 q2 ⊢;rw[ub,ub,q1,q2];by_cases h1:lo<=n v<;>by_cases h2:n v<=hi<;>simp[h1,h2]<;>omega
abbrev Ja (vars:List VarT):Prop:=∀ v∈vars,-100000000<=v.lo/\v.lo<=100000000/\-100000000<=v.hi/\v.hi<=100000000
def v0T:VarT:=⟨[],0,[],0,0,false,0⟩
def Vf (ns:List ((Nat->Bool)->Int))(i:Nat):(Nat->Bool)->Int:=ns.getD i λ_=>0
def inB (vars:List VarT)(ns:List ((Nat->Bool)->Int))(v:Nat->Bool)(i:Nat):Bool:=decide ((vars.getD i v0T).lo<=Vf ns i v/\Vf ns i v<=(vars.getD i v0T).hi)
theorem WH {f:Nat->Bool}:(ω (k+1)).all f=((ω k).all f && f k):=by rw[Qbs,QaN,QaC,List.all_nil,Bool.and_true]
theorem jiY (h:ns.length=vars.length)(v:Nat->Bool):(ω vars.length).all (inB vars ns v)=yL vars (ns.map λn=>n v):=by
 unfold yL;rw[Qac,decide_eq_true h,QbJ];refine List.all_congr rfl λi=>?_;unfold inB Vf v0T;have:(ns.map λn=>n v).getD i 0=ns.getD i (λ_=>0) v:=by
  rw[Qab,Qbf,Qab];cases ns[i]?<;>rfl
 rw[this];simp
theorem QL (h:k<vars.length):vars.getD k v0T=vars[k]:=by rw[Qab,Qad h];rfl
theorem Z6 (h:k<ns.length):Vf ns k=ns[k]:=by unfold Vf;rw[Qab,Qad h];rfl
theorem jcf (hb:NB base){g b:Nat}{O:Nat->Prop}{G:Gr}{F:Lb}{ns:List ((Nat->Bool)->Int)}{vars:List VarT}{r:List AV}(st:St)(H:GM st g O G)(w:G.WF)(R:FN G F ns)(hN:ns.length=vars.length)(V:Ja vars)(hs:G.parts.length+340 * vars.length<=1048576)(C:Cl st b (.ptr g 0 :: .lst vars.length (fl vaE vars) :: r))(hbO:¬ O b)(K Kp:AV->St->Prop)
  (hK:∀ e O' G' s',Aft g O G (340 * vars.length) st O' G' s'->G'.Is e (λv=>yL vars (ns.map λn=>n v))->K (eu e) s'):XB δ base 46 [.ptr b 0,frV F] st K Kp:=by
 have M:=gR hb;have hl:=R.len;have CB:Cl st.bare b (.ptr g 0 :: .lst vars.length (fl vaE vars) :: r):=by simp only[jz];exact C
 have hbl:b<st.nx:=C.lt;have r1:rat st.h b 1=.lst vars.length (fl vaE vars):=C.cell 1 hac;have l0:jV st.h b=r.length+2:=C.len;have hFv:F.length=vars.length:=om
 refine qu jvG haa (hb.at0 46 dc dc _ _) ?_;simp only[jp7,jj,ζ,θ,κ,μ];rw[(by unfold jku;simp only[qq];rfl:jku=_)];unfold frV;rw[hFv];have hne:((vars.length:Int)=(vars.length:Int))=True:=by simp
 (have zz:=@l0;repeat' first|apply jb<;>intro _|simp(disch:=try exact j9) only[r1,hne,l0,r8,γ,ε])
 refine jU vars.length (λk L s=>(∃ O' G' e,Aft g O G (340 * k) st.bare O' G' s/\G'.Is e (λv=>(ω k).all (inB vars ns v))/\Cl s b (.ptr g 0 :: .lst vars.length (fl vaE vars) :: r)/\¬ O' b/\Has L 5 (eu e))/\Has L 0 (.ptr b 0)/\Has L 1 (.lst vars.length (fl frG F))/\Has L 22 (.lst vars.length (fl vaE vars))) ?_ (λk L s hk hI hi hn=>?_) (λL s hI=>?_)
 .refine⟨⟨O,G,1,Aft.refl H.bar w,w.is1,CB,hbO,?_⟩,?_,?_,?_⟩
  .show Has _ 5 (.int .u32 1);simp(disch:=decide) only[je,jn]
  all_goals simp(disch:=decide) only[je,jn]
 .obtain⟨⟨O1,G1,e,A,I,C1,n1,i5⟩,i0,i1,i22⟩:=hI;have hkF:k<F.length:=om
  have hkn:k<ns.length:=om
  have eF:=λ(st:St) (K:AV->St->Prop)=>G6 (st:=st) (K:=K) hkF;have vk:=V _ (Qaa hk);have VN1:=(R.vn k hkF hkn).up A.le;have q0:rat s.h b 0=.ptr g 0:=C1.cell 0 hac;have m0:jV s.h b=r.length+2:=C1.len;have hbs:=C1.lt;obtain⟨u,hu⟩:∃ u,u=wr (nw s [.str [],AV.int IntKind.i64 0,AV.str [],AV.int IntKind.i64 0,AV.int IntKind.i64 0,AV.bool false,AV.int IntKind.i64 0]) s.nx 0 (vaE vars[k]):=⟨_,rfl⟩;have AU:ApL s.nx s u:=by rw[hu];exact(ApL.nwO s _).wr2 (η _) _ _
  have A1:=A.apl AU (η _);have CU:=AU.cl _ _ C1.lt C1;have CV:Cl u s.nx (vaE vars[k]):=by rw[hu];exact(Cl.new s _).wr0 rfl
  have hlen:=A.len
  (have zz:=@m0;repeat' first|apply jb<;>intro _|simp(disch:=try exact j9) only[ja i0,ja i1,ja i5,ja i22,ja hi,ja hn,eF,q0,m0,r8,γ,ε])
  rw[<-hu];refine jjR hb u A1.gm A1.wf VN1 vk.1 vk.2.1 vk.2.2.1 vk.2.2.2 om CU n1 _ _ λe2 O2 G2 s2 A2 I2=>?_;obtain⟨C2,n2⟩:=A2.fr.cl CU n1;have q2:rat s2.h b 0=.ptr g 0:=C2.cell 0 hac;have m2:jV s2.h b=r.length+2:=C2.len;have S2:=jgg (b:=b) (o:=0) (h:=s2.h) (by rw[m2];omega) q2 rfl;have S1:=jgg (b:=b) (o:=0) (h:=u.h) (by rw[CU.len];simp) (CU.cell 0 hac) rfl;have A12:=A1.trans A2 (η _);have hlen2:=A12.len;have hI2:=I.1;repeat' first|apply jb<;>intro _|simp(disch:=try exact dzG) only[S2,r8,γ,ε]
  refine⟨of_eq_true S1,?_⟩;refine WJ hb s2 A2.gm A2.wf (A2.le.has I.1) I2.1 om _ _ λe3 O3 G3 s3 A3 I3=>?_;obtain⟨C3,n3⟩:=A3.fr.cl C2 n2;repeat' first|apply jb<;>intro _|simp(disch:=try exact dzG) only[M,r8,γ,ε]
  refine⟨⟨⟨O3,G3,e3,(A12.trans A3 om),I3.of λv o=>?_,C3,n3,?_⟩,?_,?_,?_⟩,?_,?_⟩
  .have p1:=I.2 v (A2.le.ok (A3.le.ok o));have p2:=I2.2 v (A3.le.ok o);dsimp only at p1 p2 ⊢;rw[p1,p2,WH];unfold inB;rw[QL hk,Z6 hkn]
  all_goals exact hsX
 .obtain⟨⟨O1,G1,e,A,I,C1,n1,i5⟩,i0,i1,i22⟩:=hI;repeat' first|apply jb<;>intro _|simp(disch:=try exact dzG) only[ja i5,r8,γ,ε]
  exact hK _ _ _ _ A.bak (I.of λv o=>jiY hN v)
theorem Up {P:Program}{f:FuncId}{F:XF}(hl:jx P f=some F){args:List AV}{st:St}(hb:base.at0 f args st){K Kp:AV->St->Prop}
 (h:xC P base F.body (jj F.ps args) st.bare (UA P base F.res (λv s=>K v (back st s)) (λv s=>Kp v (back st s))) (vO P base F.res (λv s=>K v (back st s)) (λv s=>Kp v (back st s)))):XB P base f args st K Kp:=XB.of (jmq hl hb h)
theorem Aft.re {g:Nat}{O':Nat->Prop}{G':Gr}{W s1 s2:St}(A:Aft g O G k W O' G' s1)(hn:st.nx<=W.nx)(hw:∀ c,c<st.nx->jv W.h c=jv st.h c)(h1:s2.nx=s1.nx)(h2:s2.fr=st.fr)(h3:∀ c,c<st.nx\/O' c->jv s2.h c=jv s1.h c):Aft g O G k st O' G' s2:=
 ⟨A.gm.keep (by rw[h1];exact η _) λc hc=>h3 c (.inr hc),A.wf,A.le,A.len,A.ins,⟨by rw[h1];exact χ hn A.fr.nx,h2,λc hc ho=>(h3 c (.inl hc)).trans ((A.fr.keep c (Qat hc hn) ho).trans (hw c hc)),λc hc=>(A.fr.own c hc).imp id λh=>χ hn h⟩⟩
theorem jmP (hb:NB base){g:Nat}{O:Nat->Prop}{G:Gr}{F:Lb}{ns:List ((Nat->Bool)->Int)}{m:ModT}(st:St)(H:GM st g O G)(w:G.WF)(R:FN G F ns)(hN:ns.length=m.vars.length)(V:Ja m.vars)(hs:G.parts.length+340 * m.vars.length<=1048576)(K Kp:AV->St->Prop)
  (hK:∀ e O' G' s',Aft g O G (340 * m.vars.length) st O' G' s'->G'.Is e (λv=>yL m.vars (ns.map λn=>n v))->K (.tup [eu e,.int .i64 0]) s'):XB δ base 14 [.ptr g 0,.agg (mdE m),frV F] st K Kp:=by
 have hc:lall AV.cell (.ptr g 0 :: mdE m)=true:=rfl;refine Up jvW (hb.at0 14 dc dc _ _) ?_;simp only[jqn,jj,ζ,θ,κ,μ];rw[(by unfold jkK;simp only[qq];rfl:jkK=_)];have hbn:st.bare.nx=st.nx:=rfl;obtain⟨W,hW⟩:∃ W,W=nw (df (42,[.ptr (st.nx+1) 0]) (nw (nw st.bare (mdE m)) [.int .i64 0])) (.ptr g 0 :: mdE m):=⟨_,rfl⟩;have hWn:W.nx=st.nx+3:=by rw[hW];rfl
 have hWf:W.fr=[(42,[.ptr (st.nx+1) 0])]:=by rw[hW];rfl
 have HW:GM W g O G:=by rw[hW];exact(((H.bar.nw (mdE m)).nw [.int .i64 0]).keep (t:=df (42,[.ptr (st.nx+1) 0]) (nw (nw st.bare (mdE m)) [.int .i64 0])) (η _) λ_ _=>rfl).nw _
 have CB:Cl W (st.nx+2) (.ptr g 0 :: mdE m):=by rw[hW];exact Cl.new (df (42,[.ptr (st.nx+1) 0]) (nw (nw st.bare (mdE m)) [.int .i64 0])) _
 have CE:Cl W (st.nx+1) [.int .i64 0]:=by rw[hW];refine Cl.nw ?_ _;rw[jbM];exact Cl.new (nw st.bare (mdE m)) _
 have hWk:∀ c,c<st.nx->jv W.h c=jv st.h c:=λc hc=>by
  rw[hW];refine(qp (by show c≠st.nx+2;omega)).trans ?_;show jv (nw (nw st.bare (mdE m)) [.int .i64 0]).h c=_;exact(qp (by show c≠st.nx+1;omega)).trans (qp (s:=st.bare) (QaD hc))
 have hO:∀ c,st.nx<=c->¬ O c:=λc hc h=>by have:=H.lt h;omega
 unfold mdE at hc hW CB ⊢;repeat' first|apply jb<;>intro _|simp(disch:=try exact dzG) only[hbn,Ya,Jb (f:=42) (vs:=[.ptr (st.nx+1) 0]),yw (f:=42) (vs:=[.ptr (st.nx+1) 0]),zH,WC,r8,γ,ε]
 rw[<-hW];refine jcf hb W HW w R hN V hs CB (hO _ om) _ _ λe O1 G1 s1 A I=>?_;obtain⟨CE1,n1⟩:=A.fr.cl CE (hO _ om);have le:=CE1.len;have f1:s1.fr=[(42,[.ptr (st.nx+1) 0])]:=A.fr.fr.trans hWf;have f2:(wr s1 (st.nx+1) 0 [.int .i64 0]).fr=[(42,[.ptr (st.nx+1) 0])]:=by rw[uL];exact f1
 have q0:rat (wr s1 (st.nx+1) 0 [.int .i64 0]).h (st.nx+1) 0=.int .i64 0:=(CE1.wr 0 [.int .i64 0]).cell 0 (by simp[upd]);have l0:jV (wr s1 (st.nx+1) 0 [.int .i64 0]).h (st.nx+1)=1:=(CE1.wr 0 [.int .i64 0]).len
 (have zz:=aI @le @l0;repeat' first|apply jb<;>intro _|simp(disch:=try exact j9) only[yw (f:=42) (vs:=[.ptr (st.nx+1) 0]),zH,WC,q0,le,l0,r8,γ,ε])
 exact hK e O1 G1 _ (A.re om hWk rfl rfl λc hc=>qW (by rintro rfl;rcases hc with h|h;omega;exact n1 h)) I
def eqB (ns ms:List ((Nat->Bool)->Int))(v:Nat->Bool)(i:Nat):Bool:=decide (Vf ns i v=Vf ms i v)
theorem jpi {ms:List ((Nat->Bool)->Int)}{n:Nat}(h1:ns.length=n)(h2:ms.length=n)(v:Nat->Bool):(ω n).all (eqB ns ms v)=decide (ns.map (λf=>f v)=ms.map λf=>f v):=by
 rw[Qaw,Qah,decide_eq_true_eq];constructor
 .intro h;refine Qbg (by simp[h1,h2]) λi q1 q2=>?_;have hi:i<n:=by simpa[h1] using q1
  have:=of_decide_eq_true (h i (QaZ.2 hi));rw[Z6 om,Z6 om] at this;simpa using this
 .intro h i hi;have hi:=QaZ.1 hi;unfold eqB;rw[Z6 om,Z6 om];refine decide_eq_true ?_;have:=congrArg (λl=>l[i]?) h;simpa[Qad,h1,h2,hi] using this
theorem jpw (hb:NB base){g:Nat}{O:Nat->Prop}{G:Gr}{F F2:Lb}{ns ms:List ((Nat->Bool)->Int)}{n:Nat}(st:St)(H:GM st g O G)(w:G.WF)(R:FN G F ns)(R2:FN G F2 ms)(hN:ns.length=n)(hM:ms.length=n)(hw:∀ i (h:i<F.length) (h2:i<F2.length),F[i].length=F2[i].length)(hs:G.parts.length+114 * n<=1048576)(K Kp:AV->St->Prop)
  (hK:∀ e O' G' s',Aft g O G (114 * n) st O' G' s'->G'.Is e (λv=>decide (ns.map (λf=>f v)=ms.map λf=>f v))->K (.tup [eu e,.int .i64 0]) s'):XB δ base 13 [.ptr g 0,frV F,frV F2] st K Kp:=by
 have M:=gR hb;have hl:=R.len.trans hN;have hl2:=R2.len.trans hM;have hne:((n:Int)=(n:Int))=True:=by simp
 refine Up jvX (hb.at0 13 dc dc _ _) ?_;simp only[jqo,jj,ζ,θ,κ,μ];rw[(by unfold jkL;simp only[qq];rfl:jkL=_)];unfold frV;rw[hl,hl2];have hbn:st.bare.nx=st.nx:=rfl;obtain⟨W,hW⟩:∃ W,W=df (42,[.ptr st.nx 0]) (nw st.bare [.int .i64 0]):=⟨_,rfl⟩;have hWn:W.nx=st.nx+1:=by rw[hW];rfl
 have hWf:W.fr=[(42,[.ptr st.nx 0])]:=by rw[hW];rfl
 have HW:GM W g O G:=by rw[hW];exact(H.bar.nw [.int .i64 0]).keep (η _) λ_ _=>rfl
 have CE:Cl W st.nx [.int .i64 0]:=by rw[hW,jbM];exact Cl.new st.bare _
 have hWk:∀ c,c<st.nx->jv W.h c=jv st.h c:=λc hc=>by rw[hW];exact qp (s:=st.bare) (QaD hc)
 have hO:¬ O st.nx:=λh=>Qba _ (H.lt h);repeat' first|apply jb<;>intro _|simp(disch:=try exact dzG) only[hbn,hne,Ya,Jb (f:=42) (vs:=[.ptr st.nx 0]),yw (f:=42) (vs:=[.ptr st.nx 0]),zH,WC,r8,γ,ε]
 rw[<-hW];refine jU n (λk L s=>(∃ O' G' e,Aft g O G (114 * k) W O' G' s/\G'.Is e (λv=>(ω k).all (eqB ns ms v))/\Cl s st.nx [.int .i64 0]/\¬ O' st.nx/\Has L 8 (eu e))/\Has L 0 (.ptr g 0)/\Has L 1 (.lst n (fl frG F))/\Has L 2 (.lst n (fl frG F2))/\Has L 7 (.ptr st.nx 0)) ?_ (λk L s hk hI hi hn=>?_) (λL s hI=>?_)
 .refine⟨⟨O,G,1,Aft.refl HW w,w.is1,CE,hO,?_⟩,?_,?_,?_,?_⟩
  .show Has _ 8 (.int .u32 1);simp(disch:=decide) only[je,jn]
  all_goals simp(disch:=decide) only[je,jn]
 .obtain⟨⟨O1,G1,e,A,I,C1,n1,i8⟩,i0,i1,i2,i7⟩:=hI;have hkF:k<F.length:=om
  have hkG:k<F2.length:=om
  have eF:=λ(st:St) (K:AV->St->Prop)=>G6 (st:=st) (K:=K) hkF;have eG:=λ(st:St) (K:AV->St->Prop)=>G6 (st:=st) (K:=K) hkG;have P1:=(R.vn k hkF om).up A.le;have P2:=(R2.vn k hkG om).up A.le;have hwk:=hw k hkF hkG;have hww:((F[k].length:Int)=(F2[k].length:Int))=True:=by rw[hwk];simp
  have hlen:=A.len;repeat' first|apply jb<;>intro _|simp(disch:=try exact dzG) only[ja i0,ja i1,ja i2,ja i8,ja i7,ja hi,ja hn,eF,eG,hww,r8,γ,ε]
  refine jfB hb s A.gm A.wf P1 P2 om _ _ λe2 O2 G2 s2 A2 I2=>?_;obtain⟨C2,n2⟩:=A2.fr.cl C1 n1;have A12:=A.trans A2 (η _);have hlen2:=A12.len;repeat' first|apply jb<;>intro _|simp(disch:=try exact dzG) only[M,r8,γ,ε]
  refine WJ hb s2 A2.gm A2.wf (A2.le.has I.1) I2.1 om _ _ λe3 O3 G3 s3 A3 I3=>?_;obtain⟨C3,n3⟩:=A3.fr.cl C2 n2;repeat' first|apply jb<;>intro _|simp(disch:=try exact dzG) only[M,r8,γ,ε]
  refine⟨⟨⟨O3,G3,e3,A12.trans A3 om,I3.of λv o=>?_,C3,n3,?_⟩,?_,?_,?_,?_⟩,?_,?_⟩
  .have p1:=I.2 v (A2.le.ok (A3.le.ok o));have p2:=I2.2 v (A3.le.ok o);dsimp only at p1 p2 ⊢;rw[p1,p2,WH];unfold eqB;rw[Z6 om,Z6 om]
  all_goals exact hsX
 .obtain⟨⟨O1,G1,e,A,I,C1,n1,i8⟩,i0,i1,i2,i7⟩:=hI;have f1:s.fr=[(42,[.ptr st.nx 0])]:=A.fr.fr.trans hWf;have f2:(wr s st.nx 0 [.int .i64 0]).fr=[(42,[.ptr st.nx 0])]:=by rw[uL];exact f1
  have q0:rat (wr s st.nx 0 [.int .i64 0]).h st.nx 0=.int .i64 0:=(C1.wr 0 [.int .i64 0]).cell 0 (by simp[upd]);have le:=C1.len;have l0:jV (wr s st.nx 0 [.int .i64 0]).h st.nx=1:=(C1.wr 0 [.int .i64 0]).len
  (have zz:=aI @le @l0;repeat' first|apply jb<;>intro _|simp(disch:=try exact j9) only[ja i8,ja i7,yw (f:=42) (vs:=[.ptr st.nx 0]),zH,WC,q0,le,l0,r8,γ,ε])
  exact hK e O1 G1 _ (A.re om hWk rfl rfl λc hc=>qW (by rintro rfl;rcases hc with h|h;omega;exact n1 h)) (I.of λv o=>jpi hN hM v)
def stB (vars:List VarT)(ns:List ((Nat->Bool)->Int))(v:Nat->Bool)(i:Nat):Bool:=!(vars.getD i v0T).beg ||decide (Vf ns i v=(vars.getD i v0T).first)
theorem jpJ (hb:NB base){g:Nat}{O:Nat->Prop}{G:Gr}{F:Lb}{ns:List ((Nat->Bool)->Int)}{m:ModT}(st:St)(H:GM st g O G)(w:G.WF)(R:FN G F ns)(hN:ns.length=m.vars.length)(V:Ja m.vars)(hf:∀ v∈m.vars,v.beg=true->-100000000<=v.first/\v.first<=100000000)(hs:G.parts.length+454 * m.vars.length<=1048576)(K Kp:AV->St->Prop)
  (hK:∀ e O' G' s',Aft g O G (454 * m.vars.length) st O' G' s'->G'.Is e (λv=>yL m.vars (ns.map λn=>n v) && (ω m.vars.length).all (stB m.vars ns v))->K (.tup [eu e,.int .i64 0]) s'):XB δ base 22 [.ptr g 0,.agg (mdE m),frV F] st K Kp:=by
 have M:=gR hb;have MV:=jeV hb;have hl:=R.len.trans hN;have hc:lall AV.cell (.ptr g 0 :: mdE m)=true:=rfl;refine Up jvO (hb.at0 22 dc dc _ _) ?_;simp only[jqf,jj,ζ,θ,κ,μ];rw[(by unfold jkC;simp only[qq];rfl:jkC=_)];have hbn:st.bare.nx=st.nx:=rfl;obtain⟨W,hW⟩:∃ W,W=nw (df (42,[.ptr (st.nx+1) 0]) (nw (nw st.bare (mdE m)) [.int .i64 0])) (.ptr g 0 :: mdE m):=⟨_,rfl⟩;have hWn:W.nx=st.nx+3:=by rw[hW];rfl
 have hWf:W.fr=[(42,[.ptr (st.nx+1) 0])]:=by rw[hW];rfl
 have HW:GM W g O G:=by rw[hW];exact(((H.bar.nw (mdE m)).nw [.int .i64 0]).keep (t:=df (42,[.ptr (st.nx+1) 0]) (nw (nw st.bare (mdE m)) [.int .i64 0])) (η _) λ_ _=>rfl).nw _
 have CB:Cl W (st.nx+2) (.ptr g 0 :: mdE m):=by rw[hW];exact Cl.new (df (42,[.ptr (st.nx+1) 0]) (nw (nw st.bare (mdE m)) [.int .i64 0])) _
 have CE:Cl W (st.nx+1) [.int .i64 0]:=by rw[hW];refine Cl.nw ?_ _;rw[jbM];exact Cl.new (nw st.bare (mdE m)) _
 have CM:Cl W st.nx (mdE m):=by rw[hW];refine Cl.nw ?_ _;rw[jbM];exact(Cl.new st.bare (mdE m)).nw _
 have hWk:∀ c,c<st.nx->jv W.h c=jv st.h c:=λc hc=>by
  rw[hW];refine(qp (by show c≠st.nx+2;omega)).trans ?_;show jv (nw (nw st.bare (mdE m)) [.int .i64 0]).h c=_;exact(qp (by show c≠st.nx+1;omega)).trans (qp (s:=st.bare) (QaD hc))
 have hO:∀ c,st.nx<=c->¬ O c:=λc hc h=>by have:=H.lt h;omega
 unfold mdE at hc hW CB ⊢;repeat' first|apply jb<;>intro _|simp(disch:=try exact dzG) only[hbn,Ya,Jb (f:=42) (vs:=[.ptr (st.nx+1) 0]),yw (f:=42) (vs:=[.ptr (st.nx+1) 0]),zH,WC,r8,γ,ε]
 rw[<-hW];refine jcf hb W HW w R hN V om CB (hO _ om) _ _ λe0 O0 G0 s0 A0 I0=>?_;obtain⟨CE0,n0⟩:=A0.fr.cl CE (hO _ om);obtain⟨CM0,_⟩:=A0.fr.cl CM (hO _ om);have r0:rat s0.h st.nx 0=.lst m.vars.length (fl vaE m.vars):=CM0.cell 0 (by simp[mdE]);have l0:=CM0.len;have hm3:(mdE m).length=3:=rfl;rw[hm3] at l0;unfold frV;rw[hl]
 (have zz:=@l0;repeat' first|apply jb<;>intro _|simp(disch:=try exact j9) only[r0,l0,r8,γ,ε])
 refine jU m.vars.length (λk L s=>(∃ O' G' e,Aft g O G (340 * m.vars.length+114 * k) W O' G' s/\G'.Is e (λv=>yL m.vars (ns.map λn=>n v) && (ω k).all (stB m.vars ns v))/\Cl s (st.nx+1) [.int .i64 0]/\¬ O' (st.nx+1)/\Has L 9 (eu e))/\Has L 0 (.ptr g 0)/\Has L 2 (.lst m.vars.length (fl frG F))/\Has L 20 (.lst m.vars.length (fl vaE m.vars))/\Has L 7 (.ptr (st.nx+1) 0)) ?_ (λk L s hk hI hi hn=>?_) (λL s hI=>?_)
 .refine⟨⟨O0,G0,e0,A0,I0.of λv o=>by simp,CE0,n0,?_⟩,?_,?_,?_,?_⟩<;>exact hsX
 .obtain⟨⟨O1,G1,e,A,I,C1,n1,i9⟩,i0,i2,i20,i7⟩:=hI;have hkF:k<F.length:=om
  have eF:=λ(st:St) (K:AV->St->Prop)=>G6 (st:=st) (K:=K) hkF;obtain⟨u,hu⟩:∃ u,u=wr (nw s [.str [],AV.int IntKind.i64 0,AV.str [],AV.int IntKind.i64 0,AV.int IntKind.i64 0,AV.bool false,AV.int IntKind.i64 0]) s.nx 0 (vaE m.vars[k]):=⟨_,rfl⟩;have AU:ApL s.nx s u:=by rw[hu];exact(ApL.nwO s _).wr2 (η _) _ _
  have A1:=A.apl AU (η _);have CU:=AU.cl _ _ C1.lt C1;have P1:=(R.vn k hkF om).up A.le;have hlen:=A.len;cases hbg:m.vars[k].beg with
  |false=>
   repeat' first|apply jb<;>intro _|simp(disch:=try exact dzG) only[ja i0,ja i2,ja i9,ja i20,ja hi,ja hn,hbg,r8,γ,ε]
   rw[<-hu];refine⟨⟨⟨O1,G1,e,A1.weak om,I.of λv o=>?_,CU,n1,?_⟩,?_,?_,?_,?_⟩,?_,?_⟩
   .rw[WH];unfold stB;rw[QL hk,hbg];simp
   all_goals first
    |(simp(disch:=decide) only[je,jn];done)
    |(simp(disch:=decide) only[je];assumption)
  |true=>
   obtain⟨f1,f2⟩:=hf _ (Qaa hk) hbg;obtain⟨c1,c2,c3,_⟩:=Qr (lo:=m.vars[k].first) (hi:=m.vars[k].first) f1 f2;have hC:=kY hb f1 f2;have P2:=jbN A.wf c1 (jcg f1 f2) c3;generalize cE m.vars[k].first (wd m.vars[k].first m.vars[k].first)=ch at *
   repeat' first|apply jb<;>intro _|simp(disch:=try exact dzG) only[ja i0,ja i2,ja i9,ja i20,ja hi,ja hn,hbg,eF,hC,MV,r8,γ,ε]
   rw[<-hu];refine jfB hb u A1.gm A1.wf P1 P2 om _ _ λe2 O2 G2 s2 A2 I2=>?_;obtain⟨C2,n2⟩:=A2.fr.cl CU n1;have A12:=A1.trans A2 (η _);have hlen2:=A12.len;repeat' first|apply jb<;>intro _|simp(disch:=try exact dzG) only[M,r8,γ,ε]
   refine WJ hb s2 A2.gm A2.wf (A2.le.has I.1) I2.1 om _ _ λe3 O3 G3 s3 A3 I3=>?_;obtain⟨C3,n3⟩:=A3.fr.cl C2 n2;repeat' first|apply jb<;>intro _|simp(disch:=try exact dzG) only[M,r8,γ,ε]
   refine⟨⟨⟨O3,G3,e3,(A12.trans A3 (η _)).weak om,I3.of λv o=>?_,C3,n3,?_⟩,?_,?_,?_,?_⟩,?_,?_⟩
   .have p1:=I.2 v (A2.le.ok (A3.le.ok o));have p2:=I2.2 v (A3.le.ok o);dsimp only at p1 p2 ⊢;rw[p1,p2,WH];unfold stB;rw[QL hk,Z6 om,hbg,Bool.and_assoc];rfl
   all_goals exact hsX
 .obtain⟨⟨O1,G1,e,A,I,C1,n1,i9⟩,i0,i2,i20,i7⟩:=hI;have f1:s.fr=[(42,[.ptr (st.nx+1) 0])]:=A.fr.fr.trans hWf;have f2:(wr s (st.nx+1) 0 [.int .i64 0]).fr=[(42,[.ptr (st.nx+1) 0])]:=by rw[uL];exact f1
  have q0:rat (wr s (st.nx+1) 0 [.int .i64 0]).h (st.nx+1) 0=.int .i64 0:=(C1.wr 0 [.int .i64 0]).cell 0 (by simp[upd]);have le:=C1.len;have l0:jV (wr s (st.nx+1) 0 [.int .i64 0]).h (st.nx+1)=1:=(C1.wr 0 [.int .i64 0]).len
  (have zz:=aI @le @l0;repeat' first|apply jb<;>intro _|simp(disch:=try exact j9) only[ja i9,ja i7,yw (f:=42) (vs:=[.ptr (st.nx+1) 0]),zH,WC,q0,le,l0,r8,γ,ε])
  exact hK e O1 G1 _ ((A.weak (m:=454 * m.vars.length) om).re om hWk rfl rfl λc hc=>qW (by rintro rfl;rcases hc with h|h;omega;exact n1 h)) I
def LO (lo:Nat)(O:Nat->Prop)(s:St)(v:AV)(k:Nat)(cs:List AV):Prop:=(v=.nils/\k=0/\cs=[])\/∃ b,v=.slice b 0 k k 1 false/\0<k/\cs.length=k/\Cl s b cs/\lo<=b/\¬ O b
theorem LO.fr {O':Nat->Prop}{t:St}(h:LO lo O s v k cs)(F:Fr2 O O' s t):LO lo O' t v k cs:=h.imp id λ⟨b,h1,h2,h3,C,h5,h6⟩=>have k:=F.cl C h6;⟨b,h1,h2,h3,k.1,h5,k.2⟩
theorem LO.app {g:Nat}(h:LO lo O s v k cs)(H:GM s g O G)(x:AV)(hlo:lo<=s.nx)(hk:k<=1000000):∃ v' s',(∀ K:AV->St->Prop,jk (JG 1 24 v (.slice s.nx 0 1 1 1 true) (Go.Sy.nw s [x])) K=K v' s')/\LO lo O s' v' (k+1) (cs ++ [x])/\GM s' g O G/\s.nx<=s'.nx/\s'.fr=s.fr/\∀ c,c<lo->jv s'.h c=jv s.h c:=by
 have hr:rats (Go.Sy.nw s [x]).h s.nx 0 1=[x]:=(Cl.new s [x]).rats0 rfl;have hv:1<=jV (Go.Sy.nw s [x]).h s.nx:=by rw[(Cl.new s [x]).len];exact η 1
 have V:∃ a b,Lv a b (Go.Sy.nw s [x]) v k cs 1/\a<=s.nx/\(∀ c,O c->¬ (a<=c/\c<b))/\(lo<=a\/b=0):=by
  rcases h with ⟨h1,h2,h3⟩|⟨b,h1,h2,h3,C,h5,h6⟩
  .exact⟨0,0,.inl ⟨h1,h2,h3⟩,Qae _,λc _=>by omega,.inr rfl⟩
  .exact⟨b,b+1,.inr ⟨b,h1,h2,om,C.nw _,η _,QaW _⟩,Qbo C.lt,λc hc hh=>by
    have:c=b:=om
    exact h6 (this▸hc),.inl h5⟩
 obtain⟨a,b,V,ha,hO,hab⟩:=V;have A:=V.app (news:=[x]) rfl (by rw[jf];omega);have hg:∀ c,c<s.nx->¬ (a<=c/\c<b)->jv (aps v (Go.Sy.nw s [x]) [x]).h c=jv s.h c:=λc hc h=>(V.get _ _ c om (by rw[jf];omega)).trans (qp om);refine⟨apv 1 v (Go.Sy.nw s [x]),aps v (Go.Sy.nw s [x]) [x],λK=>?_,?_,H.keep (by rw[jm,jf];omega) λc hc=>hg c (H.lt hc) (hO c hc),by rw[jm,jf];omega,by rw[QM,ZT],λc hc=>hg c om om⟩
 .rw[Jt V dc om om hv,hr]
 .rcases A with ⟨e,_⟩|⟨d,e,h2,h3,D,_⟩
  .unfold apv at e;split at e<;>cases e
  .have hd:d=s.nx+1:=by
    unfold apv at e;split at e<;>(injection e with e1;exact e1.symm)
   subst hd;exact .inr ⟨s.nx+1,e,h2,om,D,om,λh=>by have:=H.lt h;omega⟩
theorem LO.fz (h:LO lo O s v k cs)(hp:cs.all pc=true):∃ ks,fz 8 s.h v=some (.lst k cs,ks)/\∀ b∈ks,¬ O b/\lo<=b:=by
 rcases h with ⟨rfl,rfl,rfl⟩|⟨b,rfl,h2,h3,C,h5,h6⟩
 .exact⟨[],rfl,λb hb=>by cases hb⟩
 .exact⟨_,Zx (d:=6) C om hp,λc hc=>by rw[QaL.1 hc];exact⟨h6,h5⟩⟩
def wdV (v:VarT):Nat:=wd v.lo v.hi
def qZ (vars:List VarT)(k:Nat):Nat:=((vars.take k).map wdV).sum
theorem gN (h:k<vars.length):qZ vars (k+1)=qZ vars k+wdV vars[k]:=by unfold qZ;rw[QbG h,Qay,List.sum_append];simp
theorem Hr (h:∀ v∈vars,wdV v<=32):∀ k,qZ vars k<=32 * k:=by
 intro k;induction k with
 |zero=>simp[qZ]
 |succ k ih=>
  by_cases hk:k<vars.length
  .rw[gN hk];have:=h _ (Qaa hk);omega
  .have:qZ vars (k+1)=qZ vars k:=by unfold qZ;rw[Qbb om,Qbb om]
   omega
def opF (vars:List VarT)(n0 k:Nat):Lb:=(ω k).map λi=>QU (n0+qZ vars i) (wdV (vars.getD i v0T))
theorem Wo (vars:List VarT)(n0 k:Nat):(opF vars n0 k).length=k:=by simp[opF]
theorem juQ (h:k<vars.length):opF vars n0 (k+1)=opF vars n0 k ++ [QU (n0+qZ vars k) (wdV vars[k])]:=by unfold opF;rw[Qbs,Qay,<-QL h];rfl
theorem Ve (n w:Nat):(QU n w).length=w:=by simp[QU]
theorem jtD (hb:NB base){g:Nat}{O:Nat->Prop}{G:Gr}{m:ModT}(st:St)(H:GM st g O G)(w:G.WF)(V:Ja m.vars)(hle:∀ v∈m.vars,v.lo<=v.hi)(hm:m.vars.length<=1000)(hs:G.parts.length<=100000)(hi0:G.ins.length<=100000)(K Kp:AV->St->Prop)
  (hK:∀ O' s',GM s' g O' (G.addI (qZ m.vars m.vars.length))->Fr2 O O' st s'->K (.tup [frV (opF m.vars G.parts.length m.vars.length),.int .i64 0]) s'):XB δ base 18 [.ptr g 0,.agg (mdE m)] st K Kp:=by
 have hw:∀ v∈m.vars,1<=wdV v/\wdV v<=32:=λv hv=>by
  obtain⟨v1,v2,v3,v4⟩:=V v hv;obtain⟨q1,q2,_⟩:=Qr v1 v4;exact⟨q1,q2⟩
 have hof:=Hr (vars:=m.vars) λv hv=>(hw v hv).2;have C0:Cl (nw st.bare (mdE m)) st.nx (mdE m):=Cl.new st.bare (mdE m);refine vW jvS haa (hb.pur 18 2 dc) (hb.no 18 dc _ _) ?_;simp only[jqj,jj,ζ,θ,κ,μ];rw[(by unfold jkG;simp only[qq];rfl:jkG=_)];have hbn:st.bare.nx=st.nx:=rfl;have H0:=H.bar.nw (mdE m);have F0:Fr2 O O st.bare (nw st.bare (mdE m)):=Fr2.of (ApL.nwO _ _) (η _);repeat' first|apply jb<;>intro _|simp(disch:=try exact dzG) only[r8,γ,ε]
 refine jU m.vars.length (λk L s=>(∃ O' v,GM s g O' (G.addI (qZ m.vars k))/\Fr2 O O' st.bare s/\LO st.nx O' s v k (fl frG (opF m.vars G.parts.length k))/\Has L 6 v)/\Has L 0 (.ptr g 0)/\Has L 12 (.lst m.vars.length (fl vaE m.vars))) ?_ (λk L s hk hI hi hn=>?_) (λL s hI=>?_)
 .refine⟨⟨O,.nils,by rw[show qZ m.vars 0=0 from rfl,Gr.addI_0];exact H0,F0,.inl ⟨rfl,rfl,rfl⟩,?_⟩,?_,?_⟩<;>exact hsX
 .obtain⟨⟨O1,v,H1,F1,L1,i6⟩,i0,i12⟩:=hI;have hv:=Qaa hk;obtain⟨v1,v2,v3,v4⟩:=V _ hv;have hW:=HT hb v1 v4 (hle _ hv);obtain⟨w1,w2⟩:=hw _ hv;have hok:=hof k;obtain⟨u,hu⟩:∃ u,u=wr (nw s [.str [],AV.int IntKind.i64 0,AV.str [],AV.int IntKind.i64 0,AV.int IntKind.i64 0,AV.bool false,AV.int IntKind.i64 0]) s.nx 0 (vaE m.vars[k]):=⟨_,rfl⟩;have AU:ApL s.nx s u:=by rw[hu];exact(ApL.nwO s _).wr2 (η _) _ _
  have HU:=H1.apl AU (η _);have FU:=F1.trans (Fr2.of AU (η _));have LU:=L1.fr (Fr2.of AU (η _));have hal:=G.addI_len (qZ m.vars k);have hil:(G.addI (qZ m.vars k)).ins.length=G.ins.length+qZ m.vars k:=by simp[Gr.addI]
  repeat' first|apply jb<;>intro _|simp(disch:=try exact dzG) only[ja i0,ja i12,ja hi,ja hn,hW,r8,γ,ε]
  rw[<-hu];refine jol hb (wd:=wdV m.vars[k]) u HU (w.addI om) w1 w2 om om _ _ λO2 s2 H2 F2=>?_;rw[Gr.addI_add,hal] at *;have LL:=LU.fr F2;have FF:=FU.trans F2;obtain⟨v',s3,eA,L3,H3,n3,f3,k3⟩:=LL.app H2 (.lst (wdV m.vars[k]) ((QU (G.parts.length+qZ m.vars k) (wdV m.vars[k])).map eu)) (by have:=FF.nx;rw[hbn] at this;exact this) om;repeat' first|apply jb<;>intro _|simp(disch:=try exact dzG) only[ja i6,eA,r8,γ,ε]
  have hfl:fl frG (opF m.vars G.parts.length k) ++ [.lst (wdV m.vars[k]) ((QU (G.parts.length+qZ m.vars k) (wdV m.vars[k])).map eu)]=fl frG (opF m.vars G.parts.length (k+1)):=by
   rw[juQ hk];simp[fl,frG,Ve]
  rw[hfl] at L3;refine⟨⟨⟨O2,v',by rw[gN hk];exact H3,⟨χ FF.nx n3,f3.trans FF.fr,λc hc ho=>(k3 c hc).trans (FF.keep c hc ho),FF.own⟩,L3,?_⟩,?_,?_⟩,?_,?_⟩;all_goals exact hsX
 .obtain⟨⟨O1,v,H1,F1,L1,i6⟩,i0,i12⟩:=hI;repeat' first|apply jb<;>intro _|simp(disch:=try exact dzG) only[ja i6,r8,γ,ε]
  obtain⟨ks,hfz,hks⟩:=L1.fz (zq (λ_=>rfl) _);have hfv:frV (opF m.vars G.parts.length m.vars.length)=.lst m.vars.length (fl frG (opF m.vars G.parts.length m.vars.length)):=by unfold frV;rw[Wo]
  rw[hfv] at hK;exact jnR (s:=s.bare) (jn4 (k:=.i64) (n:=0) hfz) hks H1.bar (⟨F1.nx,rfl,F1.keep,F1.own⟩:Fr2 O O1 st.bare s.bare) (hK O1)
def G0r:Gr:=⟨[(0,0)],[],[]⟩
theorem jj9:G0r.WF:=by
 refine⟨rfl,dc,λi a b h hn=>?_,(λa h=>by cases h),List.nodup_nil,(λx h=>by cases h)⟩;have hi:=(Qbk.1 h).1;have:i=0:=by simp[G0r] at hi;exact hi
 subst this;simp[G0r] at h;exact absurd (by rw[<-h.1,<-h.2]) hn
theorem jsa (hk:∀ st',st'.nx=st.nx+1->st'.fr=st.fr->(∀ c,c≠st.nx->jv st'.h c=jv st.h c)->jv st'.h st.nx=some (.map [])->K (.map st.nx) st'):jk (gT st) K:=by
 simp only[gT,St.alloc_eq,jk];refine hk _ rfl rfl (λc hc=>?_) ?_
 .show jv ((j2 (jK st.nx)).run _ st.h) c=_;rw[jW,if_neg hc]
 .show jv ((j2 (jK st.nx)).run _ st.h) st.nx=_;rw[jW,if_pos rfl]
theorem jsC (a:AV)(r:Nat)(st:St)(K:AV->St->Prop):jk (WD [a,.nils,.nilm] [((2,1),.map r)] st) K=K (.agg [a,.nils,.map r]) st:=rfl
theorem jvj (hb:NB base)(st:St)(K Kp:AV->St->Prop)(hK:∀ g O s',GM s' g O G0r->(∀ c,O c->st.nx<=c)->ApL st.nx st s'->K (.ptr g 0) s'):XB δ base 11 [] st K Kp:=by
 refine qu jvY haa (hb.at0 11 dc dc _ _) ?_;simp only[jqp,jj,ζ,θ,κ,μ];rw[(by unfold jkM;simp only[qq];rfl:jkM=_)];repeat' first|apply jb<;>intro _|simp(disch:=try exact dzG) only[Vr,r8,γ,ε]
 refine ki (bytes:=8) (l:=1) (c:=1) (k:=.i64) (k':=.i64) dc dc dc λs1 M=>?_;have C1:=M.cl (cs:=[.int .u32 0,.int .u32 0]) rfl λi hi=>by
  have:i=0\/i=1:=om
  rcases this with rfl|rfl<;>rfl
 have A1:=M.apl;have n1:=M.nx;clear M;repeat' first|apply jb<;>intro _|simp(disch:=try exact dzG) only[juZ,r8,γ,ε]
 refine jsa λs2 n2 f2 k2 m2=>?_;have hbn:st.bare.nx=st.nx:=rfl;have A2:ApL s1.nx s1 s2:=⟨om,f2,λc hc h=>k2 c om⟩;have C2:=A2.cl _ _ C1.lt C1;have hc:lall AV.cell (AV.agg [.slice st.nx 0 1 1 2 true,.nils,.map s1.nx]).cells=true:=rfl;repeat' first|apply jb<;>intro _|simp(disch:=try exact dzG) only[jsC,r8,γ,ε]
 have D:=Cl.new s2 [.slice st.nx 0 1 1 2 true,.nils,.map s1.nx];have E:=C2.nw [.slice st.nx 0 1 1 2 true,.nils,.map s1.nx];have A:=(A1.trans A2 A1.nx).trans (ApL.nwO s2 [.slice st.nx 0 1 1 2 true,.nils,.map s1.nx]) (χ A1.nx A2.nx);have hn:=A2.nx;have hn1:=A1.nx;refine hK s2.nx (Ho s2.nx st.nx 0 s1.nx G0r) _ ⟨st.nx,0,s1.nx,true,rfl,⟨?_,⟨E.lt,E.row,E.len,E.cell⟩,λh=>absurd rfl h,?_,?_,om,om,om⟩⟩ (λc hc=>?_) ⟨A.nx,rfl,A.hp⟩
 .exact⟨D.lt,D.row,D.len,D.cell⟩
 .exact(qp (s:=s2) om).trans m2
 .show s1.nx<s2.nx+1;omega
 .rcases hc with h|h|h|⟨h,_⟩
  .omega
  .omega
  .omega
  .exact absurd rfl h
def ofF (vars:List VarT)(sv:Ld)(k:Nat):Lb:=(ω k).map λi=>z8 (cE (sv.getD i 0) (wd (sv.getD i 0) (sv.getD i 0))) (wdV (vars.getD i v0T))
theorem XA (vars:List VarT)(sv:Ld)(k:Nat):(ofF vars sv k).length=k:=by simp[ofF]
theorem juT (h:k<vars.length)(h2:k<sv.length):ofF vars sv (k+1)=ofF vars sv k ++ [z8 (cE sv[k] (wd sv[k] sv[k])) (wdV vars[k])]:=by
 unfold ofF;rw[Qbs,Qay,<-QL h];have:sv.getD k 0=sv[k]:=by rw[Qab,Qad h2];rfl
 rw[<-this];rfl
theorem jwV (hb:NB base)(m:ModT)(hm:m.vars.length<=1000000)(sv:Ld)(V:Ja m.vars)(hr:yL m.vars sv=true):Tot base 12 [.agg (mdE m),svV sv] (.tup [frV (ofF m.vars sv m.vars.length),.int .i64 0]):=by
 refine hb.tot ?_ (by unfold svV;simp[pa,pc,Je]) rfl;obtain⟨hs,hat⟩:=zU.1 hr;have E:=hb.pl (jcy hb m sv hm om) (by unfold svV;simp[pa,pc,Je]) rfl;rw[hr] at E;have hfv:frV (ofF m.vars sv m.vars.length)=.lst m.vars.length (fl frG (ofF m.vars sv m.vars.length)):=by unfold frV;rw[XA]
 rw[hfv];unfold svV at *;refine jB jra haa (hb.pur 12 1 dc) ?_;simp only[jlw,jj,ζ,θ,κ,μ];rw[(by unfold jbV;simp only[qq];rfl:jbV=_)];repeat' first|apply jb<;>intro _|simp(disch:=try exact dzG) only[E,r8,γ,ε]
 refine jU m.vars.length (λk L s=>(∃ v h,LB 1 h s v ((ofF m.vars sv k).map λl=>l.map eu)/\1<=h/\h<=s.nx/\Has L 6 v)/\Has L 1 (.lst sv.length (sv.map (.int .i64)))/\Has L 16 (.lst m.vars.length (fl vaE m.vars))) ?_ (λk L s hk hI hi hn=>?_) (λL s hI=>?_)
 .refine⟨⟨.nils,1,.inl ⟨rfl,rfl⟩,η _,nxX,?_⟩,?_,?_⟩<;>exact hsX
 .obtain⟨⟨v,q,B,q1,q2,i6⟩,i1,i16⟩:=hI;have hks:k<sv.length:=om
  obtain⟨r1,r2,r3,r4⟩:=V _ (Qaa hk);obtain⟨t1,t2⟩:=hat k hk hks;obtain⟨c1,c2,c3,_⟩:=Qr (lo:=sv[k]) (hi:=sv[k]) om om;obtain⟨_,w2,_⟩:=Qr (lo:=m.vars[k].lo) (hi:=m.vars[k].hi) r1 r4;have hC:=kY hb (n:=sv[k]) om om;have hW:=HT hb (lo:=m.vars[k].lo) (hi:=m.vars[k].hi) r1 r4 om;have hle:=jnf (n:=sv[k]) r1 r4 t1 t2;have hS:=juT (vars:=m.vars) (sv:=sv) hk hks;have hcl:=ui sv[k] (wd sv[k] sv[k]);rw[<-hcl] at c1 hle;unfold wdV at hS;generalize cE sv[k] (wd sv[k] sv[k])=ce at *;generalize wd m.vars[k].lo m.vars[k].hi=wv at *;repeat' first|apply jb<;>intro _|simp(disch:=try exact dzG) only[ja i6,ja i1,ja i16,ja hi,ja hn,hC,hW,Q8,r8,γ,ε]
  obtain⟨u,hu⟩:∃ u,u=wr (nw s [.str [],AV.int IntKind.i64 0,AV.str [],AV.int IntKind.i64 0,AV.int IntKind.i64 0,AV.bool false,AV.int IntKind.i64 0]) s.nx 0 (vaE m.vars[k]):=⟨_,rfl⟩;have AU:ApL s.nx s u:=by rw[hu];exact(ApL.nwO s _).wr2 (η _) _ _
  have un:u.nx=s.nx+1:=by rw[hu];rfl
  have BU:=B.keep AU q2 (η q);rw[<-hu];clear hu;refine HV hb c1 hle w2 u _ _ λb s1 Cb hb1 a1=>?_;have BV:=BU.keep a1 om (η q);have n1:=a1.nx;have hbl:=Cb.lt;have hxl:((z8 ce wv).map eu).length=wv:=by rw[Qac,Xm hle]
  have BW:=BV.keep (ApL.nwO s1 [.slice b 0 wv wv 1 false]) om (η q);obtain⟨v',s2,eA,B2,n2,f2,g2⟩:=LB.app (bytes:=24) (xc:=1) (xx:=true) (l:=(z8 ce wv).map eu) (ex:=false) (c:=b) BW (by rw[hxl];exact Cl.new s1 _) (Cb.nw _) (UV _) om om (by rw[Qac,XA];omega) (by rw[Qac,XA];omega);have hS2:((ofF m.vars sv k).map λl=>l.map eu) ++ [(z8 ce wv).map eu]=(ofF m.vars sv (k+1)).map λl=>l.map eu:=by rw[hS,Qay];rfl
  rw[hS2] at B2;rw[jf] at n2;repeat' first|apply jb<;>intro _|simp(disch:=try exact dzG) only[ja i6,eA,r8,γ,ε]
  refine⟨⟨⟨v',s2.nx,B2,om,η _,?_⟩,?_,?_⟩,?_,?_⟩;all_goals exact hsX
 .obtain⟨⟨v,q,B,q1,q2,i6⟩,i1,i16⟩:=hI;have f:=LB.fz (d:=5) (m:=0) B (Qae _);have hfb:∀ F:Lb,fl bE (F.map λl=>l.map eu)=fl frG F:=λF=>by
   induction F with
   |nil=>rfl
   |cons l F ih=>rw[ζ,Qd,Qd,ih];simp[bE,frG]
  rw[hfb,Qac,XA] at f;repeat' first|apply jb<;>intro _|simp(disch:=try exact dzG) only[ja i6,r8,γ,ε]
  exact FzD.tup (.cons f (.cons (.pc rfl) .nil))
theorem Lw.one {hi bv xc n bytes:Nat}{x:AV}{xx:Bool}(h:Lw lo hi s v n cs 1)(C:Cl s bv [x])(hhi:hi<=s.nx)(hby:(n+1) * bytes<=140737488355328)(hn:n+1<=9223372036854775807) :
  ∃ v' s',(∀ K:AV->St->Prop,jk (JG 1 bytes v (.slice bv 0 1 xc 1 xx) s) K=K v' s')/\Lw lo s'.nx s' v' (n+1) (cs ++ [x]) 1/\ApL lo s s':=by
 obtain⟨m',zl',zz',ks',hg'⟩:=C.row;have h4l:=C.len;rw[yV hg'] at h4l;have h4l:m'=1:=h4l;have e7:QcC (QcD 0 (QcE 1 1)) m'=true:=qo (by rw[h4l];decide);have e8:jR zl' zz' ks' (QcE 1 1) 0=[x]:=by
  have h:=C.rats0 (k:=1) rfl;rw[QP] at h;rw[qm,<-h];exact QaR λi _=>by rw[J8 hg']
 obtain⟨v',s',e,r1,r2⟩:=jmM (bytes:=bytes) (n2:=1) (cs2:=[x]) h hhi rfl dc hby hn;refine⟨v',s',λK=>?_,r1,r2⟩;rw[<-e K];have e1:QcC (QcE 1 1) (jP [x])=true:=qo (by rw[jO];exact η _);have e2:yl [x] (QcE 1 1)=[x]:=by rw[qX];rfl
 unfold JG;simp only[JJ,firstCells,e1,e2,hg',yg,jF,e7,cond_true,e8]
theorem p32 (h:w<=32):(2:Int) ^ w<=4294967296:=by
 have:=Qbu (n:=2) dc h;rw[<-U9];omega
theorem U8 (hb:NB base)(h:w<=32):Tot base 82 [.int .i64 (w:Int)] (.int .i64 (2 ^ w)):=by
 refine hb.tot ?_ rfl rfl;refine jB jvo haa (hb.pur 82 1 dc) ?_;simp only[jpP,jj,ζ,θ,κ,μ];rw[(by unfold jkc;simp only[qq];rfl:jkc=_)];repeat' first|apply jb<;>intro _|simp(disch:=try exact dzA) only[rzZ,γ,ε]
 refine ye (λm L s=>m<=w/\Has L 0 (.int .i64 (m:Int))/\Has L 3 (.int .i64 (2 ^ (w - m)))) ?_ w ?_
 .rintro m L s ⟨hm,i0,i3⟩;unfold um;by_cases hz:m=0
  .subst hz;rw[QaF] at i3;repeat' first|apply jb<;>intro _|simp(disch:=try exact dzA) only[ja i0,ja i3,rzZ,γ,ε]
   exact G0.v rfl rfl
  .have hp:(0:Int)<(m:Int):=om
   have e:(2:Int) ^ (w - (m - 1))=2 * 2 ^ (w - m):=by rw[show w - (m - 1)=(w - m)+1 by omega,Qbp,Int.mul_comm]
   have q1:=p32 (w:=w - (m - 1)) om;have q2:=p2 (w - m);rw[e] at q1;have em:((m - 1:Nat):Int)=(m:Int) - 1:=om
   rw[show((2:Int) ^ (w - m))=(2:Int) ^ (w - m) from rfl] at i3;generalize hq:(2:Int) ^ (w - m)=q at *;repeat' first|apply jb<;>intro _|simp(disch:=try exact dzA) only[ja i0,ja i3,hp,rzZ,γ,ε]
   refine⟨m - 1,om,om,?_⟩;rw[e,em];simp(disch:=decide) only[h12]
 .refine⟨η _,?_,?_⟩
  .simp(disch:=decide) only[h12]
  .rw[Nat.sub_self];show Has _ 3 (.int .i64 1);simp(disch:=decide) only[h12]
theorem jrZ (hb:NB base){lo hi:Int}(h1 : -100000000<=lo)(h2:hi<=100000000)(h:lo<=hi):Tot base 50 [.int .i64 lo,.int .i64 hi] (.int .i64 (wd lo hi:Int)):=by
 refine hb.tot ?_ rfl rfl;obtain⟨w1,w2,w3,w4⟩:=Qr h1 h2;unfold Qe at w3;generalize wd lo hi=w at *;have hlt:¬ hi<lo:=om
 refine jB jvC haa (hb.pur 50 1 dc) ?_;simp only[jp3,jj,ζ,θ,κ,μ];rw[(by unfold jkq;simp only[qq];rfl:jkq=_)];repeat' first|apply jb<;>intro _|simp(disch:=try exact dzA) only[hlt,rzZ,γ,ε]
 refine ye (λmm L s=>∃ k:Nat,1<=k/\k<=w/\mm=w - k/\Has L 0 (.int .i64 lo)/\Has L 1 (.int .i64 hi)/\Has L 5 (.int .i64 (k:Int))) ?_ (w - 1) ?_
 .rintro mm L s ⟨k,hk1,hk2,rfl,i0,i1,i5⟩;unfold um;have hk3:(k:Int)<=32:=om
  have E:=U8 hb (w:=k - 1) om;rw[show((k - 1:Nat):Int)=(k:Int) - 1 by omega] at E;have hq0:=p2 (k - 1);have hq:=p32 (w:=k - 1) om;by_cases e:k=w
  .rw[<-e] at w3;generalize (2:Int) ^ (k - 1)=q at *;have f1:=w3.1;have f2:hi<=q - 1:=by have:=w3.2;omega
   repeat' first|apply jb<;>intro _|simp(disch:=try exact dzA) only[ja i0,ja i1,ja i5,E,rzZ,γ,ε]
   exact G0.v (by rw[e]) rfl
  .have hn:=w4 (k - 1) om;generalize (2:Int) ^ (k - 1)=q at *;have hn:¬ (-q<=lo/\hi<=q - 1):=λh=>hn ⟨h.1,om⟩;repeat' first|apply jb<;>intro _|simp(disch:=try exact dzA) only[ja i0,ja i1,ja i5,E,rzZ,γ,ε]
   all_goals first
    |(exfalso;omega)
    |(refine⟨w - (k+1),om,k+1,om,om,rfl,?_⟩;rw[show((k+1:Nat):Int)=(k:Int)+1 by omega];simp(disch:=decide) only[h12,i0,i1])
 .refine⟨1,om,w1,rfl,?_⟩;rw[show((1:Nat):Int)=1 from rfl];simp(disch:=decide) only[h12]
theorem jcm {a b:Int}(hb:0<b):jk (yE .rem (.int .i64 a) (.int .i64 b) st) K=K (.int .i64 (a.tmod b)) st:=by
 obtain⟨n,rfl⟩:∃ n:Nat,b=((n+1:Nat):Int):=⟨b.toNat - 1,om⟩;have:(QN .rem).run .i64 a ((n+1:Nat):Int)=some (.int .i64 (a.tmod ((n+1:Nat):Int))):=by
  cases a with
  |ofNat m=>rfl
  |negSucc m=>rfl
 simp only[yE,JX,cond_true,this,jN,jk]
theorem jif {a P:Int}(hP:0<P) : -P<a.tmod P/\a.tmod P<P/\(if a.tmod P<0 then a.tmod P+P else a.tmod P)=a % P:=by
 have h1:=Qcg a (show P≠0 by omega);have h2:=Qch a hP;by_cases h:0<=a
 .rw[Qcz h,if_neg om];exact⟨om,h2,rfl⟩
 .obtain⟨c,rfl⟩:∃ c,a=-c:=⟨-a,om⟩;have hc:0<=c:=om
  have e:=Qcf c P;have r1:=Qcg c (show P≠0 by omega);have r2:=Qch c hP;rw[Int.neg_tmod,Qcz hc];refine⟨om,om,?_⟩;by_cases z:c % P=0
  .rw[z,if_neg dc];have : -c=P * (-(c / P)):=by rw[Int.mul_neg];omega
   rw[this,Int.mul_emod_right];rfl
  .rw[if_pos om];have : -c=(-(c % P)+P)+P * (-(c / P) - 1):=by rw[Int.mul_sub,Int.mul_neg];omega
   rw[this,Qci];exact(Qcj om om).symm
def XY (n:Int)(w:Nat):Int:=if 2 ^ (w - 1)<=n % 2 ^ w then n % 2 ^ w - 2 ^ w else n % 2 ^ w
theorem js5 (hb:NB base)(h1:1<=w)(h2:w<=32):Tot base 51 [.int .i64 n,.int .i64 (w:Int)] (.int .i64 (XY n w)):=by
 refine hb.tot ?_ rfl rfl;have E1:=U8 hb h2;have E2:=U8 hb (w:=w - 1) om;rw[show((w - 1:Nat):Int)=(w:Int) - 1 by omega] at E2;have p1:=p2 w;have p3:=p32 h2;have p4:=p2 (w - 1);have p5:=p32 (w:=w - 1) om;unfold XY;generalize (2:Int) ^ w=P at *;generalize (2:Int) ^ (w - 1)=Q at *;obtain⟨t1,t2,t3⟩:=jif (a:=n) p1;have R:=λ(st:St) (K:AV->St->Prop)=>jcm (a:=n) (st:=st) (K:=K) p1;generalize n.tmod P=t at *;generalize n % P=r at *;refine jB jvB haa (hb.pur 51 1 dc) ?_;simp only[jp2,jj,ζ,θ,κ,μ];rw[(by unfold jkp;simp only[qq];rfl:jkp=_)];repeat' first|apply jb<;>intro _|simp(disch:=try exact dzA) only[E1,E2,R,rzZ,γ,ε]
 all_goals
  refine G0.v (congrArg (AV.int .i64) ?_) rfl;split at t3<;>split<;>omega
theorem KL (n:Int)(h1:1<=w):Qe (XY n w) (XY n w) w:=by
 obtain⟨k,rfl⟩:∃ k,w=k+1:=⟨w - 1,om⟩;obtain⟨b1,b2⟩:=wH n (k+1);have hq:=p2 k;unfold Qe XY;rw[QbI,Qbp] at *;generalize n % ((2:Int) ^ k * 2)=r at *;generalize (2:Int) ^ k=q at *;split<;>constructor<;>omega
theorem js3 (h1:1<=w)(h:Qe n n w):XY n w=n:=by
 obtain⟨k,rfl⟩:∃ k,w=k+1:=⟨w - 1,om⟩;have e:=Zy h h1;have b:=wH n k;have hq:=p2 k;unfold XY;rw[uF] at *;rw[QbI,Qbp] at *;generalize n % (2:Int) ^ k=r at *;generalize (2:Int) ^ k=q at *;cases hb:bt n k<;>rw[hb] at e<;>simp at e ⊢
 .rw[if_neg om];omega
 .rw[if_pos om];omega
def ZB (n:Int)(w:Nat):List Bool:=(ω w).map (bt n)
theorem jtn (n:Int)(w:Nat):ZB n (w+1)=ZB n w ++ [bt n w]:=by unfold ZB;rw[Qbs,Qay];rfl
theorem jdL (n:Int)(w:Nat):(ZB n w).length=w:=by simp[ZB]
theorem jjT (A B:List Bool):bA (A ++ B)=bA A ++ bA B:=Qay ..
theorem jtq (A:List Bool):(bA A).length=A.length:=Qac ..
theorem Hu (h:k<w):n % 2 ^ w / 2 ^ k % 2=n / 2 ^ k % 2:=by
 obtain⟨d,rfl⟩:∃ d,w=k+(d+1):=⟨w - k - 1,om⟩;have hk:=p2 k;have e:=Qcf n (2 ^ (k+(d+1)));have e2:(2:Int) ^ (k+(d+1))=2 ^ k * (2 ^ d * 2):=by rw[Int.pow_add,Qbp]
 generalize n / 2 ^ (k+(d+1))=q at *;generalize hr:n % 2 ^ (k+(d+1))=r at *;rw[e2] at e;have e3:n=r+2 ^ k * ((2 ^ d * 2) * q):=by rw[<-Int.mul_assoc];omega
 rw[e3,Int.add_mul_ediv_left _ _ om,Int.mul_comm _ 2,Int.mul_assoc,Qci]
theorem jrn {a:Int}(h:0<=a)(h2:a<=4294967296):jk (yE .quo (.int .i64 a) (.int .i64 2) st) K=K (.int .i64 (a / 2)) st:=by
 obtain⟨n,rfl⟩:∃ n:Nat,a=(n:Int):=⟨a.toNat,om⟩;have e:qU .i64 ((n / 2:Nat):Int)=((n / 2:Nat):Int):=Zw om om;show K (.int .i64 (qU .i64 ((n / 2:Nat):Int))) st=_;rw[e];rfl
theorem jtm (hb:NB base)(h1:1<=w)(h2:w<=32):Tot base 52 [.int .i64 n,.int .i64 (w:Int)] (.lst w (bA (ZB n w))):=by
 refine hb.tot ?_ rfl rfl;have E1:=U8 hb h2;have p1:=p2 w;have p3:=p32 h2;obtain⟨t1,t2,t3⟩:=jif (a:=n) p1;have R:=λ(st:St) (K:AV->St->Prop)=>jcm (a:=n) (st:=st) (K:=K) p1;have b1:=wH n w;refine jB jvA haa (hb.pur 52 1 dc) ?_;simp only[jp1,jj,ζ,θ,κ,μ];rw[(by unfold jko;simp only[qq];rfl:jko=_)];generalize hP:(2:Int) ^ w=P at *;generalize hr:n % P=r at *;generalize n.tmod P=t at *;repeat' first|apply jb<;>intro _|simp(disch:=try exact dzG) only[E1,R,r8,γ,ε]
 all_goals
  refine ye (λmm L s=>∃ (k:Nat) (v:AV),k<=w/\mm=w - k/\Lw 0 s.nx s v k (bA (ZB n k)) 1/\Has L 1 (.int .i64 (w:Int))/\Has L 5 v/\Has L 6 (.int .i64 (r / 2 ^ k))/\Has L 7 (.int .i64 (k:Int))) ?_ w ?_
 all_goals first
  |(
   refine⟨0,_,Qae _,rfl,Lw.new (s:=st0) (Qae _) (QaW _),?_,?_,?_,?_⟩
   .simp(disch:=decide) only[h12]
   .simp(disch:=decide) only[je,jn,q6]
   .rw[Int.pow_zero,Int.ediv_one,<-t3];first
     |(rw[if_pos (by assumption)];simp(disch:=decide) only[je,jn];done)
     |(rw[if_neg (by assumption)];simp(disch:=decide) only[je,jn];done)
   .simp(disch:=decide) only[h12])
  |(
   rintro mm L s ⟨k,v,hk,rfl,W,i1,i5,i6,i7⟩;unfold um;by_cases e:k=w
   .subst e;repeat' first|apply jb<;>intro _|simp(disch:=try exact dzG) only[ja i1,ja i5,ja i7,r8,γ,ε]
    have f:=Lw.fz (m:=0) (d:=7) W (Qae _) (jbQ _);exact f
   .have hk2:(k:Int)<(w:Int):=om
    have m0:0<=r / 2 ^ k:=Int.ediv_nonneg b1.1 (Int.le_of_lt (p2 k));have m1:r / 2 ^ k<=r:=Int.ediv_le_self _ b1.1;have eb:decide (r / 2 ^ k % 2=1)=bt n k:=by unfold bt;rw[<-hr,<-hP,Hu om]
    have e2:r / 2 ^ k / 2=r / 2 ^ (k+1):=by rw[Int.ediv_ediv,if_neg (λh=>by have:=p2 k;have:=h.1;omega),Int.sub_zero,Qbp]
    have em:(r / 2 ^ k).tmod 2=r / 2 ^ k % 2:=Qcz m0;have R2:=λ(st:St) (K:AV->St->Prop)=>jcm (a:=r / 2 ^ k) (b:=2) (st:=st) (K:=K) dc;have Q2:=λ(st:St) (K:AV->St->Prop)=>jrn (a:=r / 2 ^ k) (st:=st) (K:=K) m0 om;rw[em] at R2;rw[e2] at Q2;obtain⟨v',s',eA,W2,A2⟩:=Lw.one (bytes:=1) (xc:=1) (xx:=true) (W.nwO [.bool (decide (r / 2 ^ k % 2=1))]) (Cl.new s [.bool (decide (r / 2 ^ k % 2=1))]) nxX om om;have e3:bA (ZB n k) ++ [.bool (decide (r / 2 ^ k % 2=1))]=bA (ZB n (k+1)):=by rw[jtn,jjT,eb];rfl
    rw[e3] at W2;have e4:((k+1:Nat):Int)=(k:Int)+1:=om
    repeat' first|apply jb<;>intro _|simp(disch:=try exact dzG) only[ja i1,ja i5,ja i6,ja i7,hk2,R2,Q2,eA,r8,γ,ε]
    refine⟨w - (k+1),om,k+1,v',om,rfl,W2,?_,?_,?_,?_⟩;all_goals first
     |(rw[e4];simp(disch:=decide) only[je,jn];done)
     |(simp(disch:=decide) only[je,jn];done)
     |(simp(disch:=decide) only[je];assumption))
def wsL (vars:List VarT):List AV:=vars.map λv=>.int .i64 (wdV v:Int)
theorem jrh (vars:List VarT):(wsL vars).all pc=true:=by simp[wsL,pc]
theorem US (vars:List VarT):(wsL vars).length=vars.length:=by simp[wsL]
theorem jlH (h:k<vars.length):jk (XW (.lptr (wsL vars) k) st) K=K (.int .i64 (wdV vars[k]:Int)) st:=by
 rw[qI (by rw[US];exact h)];simp[wsL,h]
theorem YM (V:Ja vars){v:VarT}(h:v∈vars):1<=wdV v/\wdV v<=28:=by
 obtain⟨v1,v2,v3,v4⟩:=V v h;exact⟨(Qr v1 v4).1,jcg v1 v4⟩
theorem K0 (hb:NB base)(m:ModT)(hm:m.vars.length<=1000000)(V:Ja m.vars)(hle:∀ v∈m.vars,v.lo<=v.hi):Tot base 19 [.agg (mdE m)] (.lst m.vars.length (wsL m.vars)):=by
 refine hb.tot ?_ (by simp[pa,pc,Je]) rfl;refine jB jvR haa (hb.pur 19 1 dc) ?_;simp only[jqi,jj,ζ,θ,κ,μ];rw[(by unfold jkF;simp only[qq];rfl:jkF=_)];repeat' first|apply jb<;>intro _|simp(disch:=try exact dzG) only[r8,γ,ε]
 refine jU m.vars.length (λk L s=>(∃ v,Lw 1 s.nx s v k (wsL (m.vars.take k)) 1/\Has L 3 v)/\Has L 8 (.lst m.vars.length (fl vaE m.vars))) ?_ (λk L s hk hI hi hn=>?_) (λL s hI=>?_)
 .refine⟨⟨_,Lw.new (s:=nw st0 (mdE m)) nxX nxX,?_⟩,?_⟩<;>simp(disch:=decide) only[je,jn,jf,q6]
 .obtain⟨⟨v,W,i3⟩,i8⟩:=hI;obtain⟨r1,r2,r3,r4⟩:=V _ (Qaa hk);have hW:=jrZ hb (lo:=m.vars[k].lo) (hi:=m.vars[k].hi) r1 r4 (hle _ (Qaa hk));have hT:wsL (m.vars.take k) ++ [.int .i64 (wd m.vars[k].lo m.vars[k].hi:Int)]=wsL (m.vars.take (k+1)):=by
   rw[QbG hk];unfold wsL;rw[Qay];rfl
  have n1:1<=s.nx:=by obtain⟨b,ex,h1,h2,h3,h4,h5,h6⟩:=W;omega
  have AU:ApL s.nx s (wr (Go.Sy.nw s [.str [],AV.int IntKind.i64 0,AV.str [],AV.int IntKind.i64 0,AV.int IntKind.i64 0,AV.bool false,AV.int IntKind.i64 0]) s.nx 0 (vaE m.vars[k])):=(ApL.nwO s _).wr2 (η _) _ _;have W1:=(W.keep AU (η _)).nwO [.int .i64 (wd m.vars[k].lo m.vars[k].hi:Int)];obtain⟨v',s',eA,W2,A2⟩:=Lw.one (bytes:=8) (xc:=1) (xx:=true) W1 (Cl.new _ _) nxX om om;rw[hT] at W2;rw[show(wr (Go.Sy.nw s [.str [],AV.int IntKind.i64 0,AV.str [],AV.int IntKind.i64 0,AV.int IntKind.i64 0,AV.bool false,AV.int IntKind.i64 0]) s.nx 0 (vaE m.vars[k])).nx=s.nx+1 from rfl] at eA;repeat' first|apply jb<;>intro _|simp(disch:=try exact dzG) only[ja i3,ja i8,ja hi,ja hn,hW,eA,r8,γ,ε]
  refine⟨⟨⟨v',W2,?_⟩,?_⟩,?_,?_⟩;all_goals exact hsX
 .obtain⟨⟨v,W,i3⟩,i8⟩:=hI;rw[Qbb om] at W;repeat' first|apply jb<;>intro _|simp(disch:=try exact dzG) only[ja i3,r8,γ,ε]
  have f:=Lw.fz (m:=0) (d:=7) W (Qae _) (jrh _);exact f
def Jq (vars:List VarT)(sv:Ld)(k:Nat):Ld:=(ω k).map λi=>if i<sv.length then XY (sv.getD i 0) (wdV (vars.getD i v0T)) else 0
theorem VA (vars:List VarT)(sv:Ld)(k:Nat):(Jq vars sv k).length=k:=by simp[Jq]
theorem js4 (h:k<vars.length):Jq vars sv (k+1)=Jq vars sv k ++ [if h2:k<sv.length then XY sv[k] (wdV vars[k]) else 0]:=by
 unfold Jq;rw[Qbs,Qay,<-QL h];by_cases h2:k<sv.length
 .have:sv.getD k 0=sv[k]:=by rw[Qab,Qad h2];rfl
  rw[ζ,if_pos h2,dif_pos h2,this];rfl
 .rw[ζ,if_neg h2,dif_neg h2];rfl
theorem jtO (hb:NB base)(m:ModT)(hm:m.vars.length<=1000000)(V:Ja m.vars)(hle:∀ v∈m.vars,v.lo<=v.hi)(sv:Ld)(hs:sv.length<=1000000):Tot base 20 [.agg (mdE m),svV sv] (svV (Jq m.vars sv m.vars.length)):=by
 refine hb.tot ?_ (by unfold svV;simp[pa,pc,Je]) rfl;have E19:=K0 hb m hm V hle;have hsl:=US m.vars;unfold svV;rw[VA];refine jB jvQ haa (hb.pur 20 1 dc) ?_;simp only[jqh,jj,ζ,θ,κ,μ];rw[(by unfold jkE;simp only[qq];rfl:jkE=_)];repeat' first|apply jb<;>intro _|simp(disch:=try exact dzG) only[E19,r8,γ,ε]
 refine jU m.vars.length (λk L s=>(∃ v,Lw 1 s.nx s v k ((Jq m.vars sv k).map (.int .i64)) 1/\Has L 5 v)/\Has L 1 (.lst sv.length (sv.map (.int .i64)))/\Has L 11 (.lst m.vars.length (wsL m.vars))) ?_ (λk L s hk hI hi hn=>?_) (λL s hI=>?_)
 .refine⟨⟨_,Lw.new (s:=nw st0 (mdE m)) nxX nxX,?_⟩,?_,?_⟩<;>simp(disch:=decide) only[je,jn,jf,q6]
 .obtain⟨⟨v,W,i5⟩,i1,i11⟩:=hI;obtain⟨w1,w2⟩:=YM V (Qaa hk);have hS:=js4 (sv:=sv) hk;have eW:=λ(st:St) (K:AV->St->Prop)=>jlH (st:=st) (K:=K) hk;by_cases h2:k<sv.length
  .have hlt:(k:Int)<(sv.length:Int):=om
   have E:=js5 hb (n:=sv[k]) (w:=wdV m.vars[k]) w1 om;rw[dif_pos h2] at hS;obtain⟨v',s',eA,W2,A2⟩:=Lw.one (bytes:=8) (xc:=1) (xx:=true) (W.nwO [.int .i64 (XY sv[k] (wdV m.vars[k]))]) (Cl.new s _) nxX om om;rw[show(Jq m.vars sv k).map (AV.int .i64) ++ [AV.int .i64 (XY sv[k] (wdV m.vars[k]))]=(Jq m.vars sv (k+1)).map (.int .i64) by rw[hS,Qay];rfl] at W2;repeat' first|apply jb<;>intro _|simp(disch:=try exact dzG) only[ja i1,ja i5,ja i11,ja hi,ja hn,hlt,eW,Q8,E,eA,r8,γ,ε]
   refine⟨⟨⟨v',W2,?_⟩,?_,?_⟩,?_,?_⟩;all_goals exact hsX
  .have hlt:¬ (k:Int)<(sv.length:Int):=om
   rw[dif_neg h2] at hS;obtain⟨v',s',eA,W2,A2⟩:=Lw.one (bytes:=8) (xc:=1) (xx:=true) (W.nwO [.int .i64 0]) (Cl.new s _) nxX om om;rw[show(Jq m.vars sv k).map (AV.int .i64) ++ [AV.int .i64 0]=(Jq m.vars sv (k+1)).map (.int .i64) by rw[hS,Qay];rfl] at W2;repeat' first|apply jb<;>intro _|simp(disch:=try exact dzG) only[ja i1,ja i5,ja i11,ja hi,ja hn,hlt,eW,eA,r8,γ,ε]
   refine⟨⟨⟨v',W2,?_⟩,?_,?_⟩,?_,?_⟩;all_goals exact hsX
 .obtain⟨⟨v,W,i5⟩,i1,i11⟩:=hI;repeat' first|apply jb<;>intro _|simp(disch:=try exact dzG) only[ja i5,r8,γ,ε]
  have f:=Lw.fz (m:=0) (d:=7) W (Qae _) (Wv _);exact f
def Jr (vars:List VarT)(t:Ld):Nat->List Bool
 |0=>[]
 |k+1=>Jr vars t k ++ ZB (t.getD k 0) (wdV (vars.getD k v0T))
theorem uX (t:Ld):∀ k,k<=vars.length->(Jr vars t k).length=qZ vars k
 |0,_=>rfl
 |k+1,h=>by rw[Jr,υ,uX t k om,jdL,gN om,QL om]
theorem Uf (h:i<k)(hk:k<=vars.length):qZ vars i+wdV (vars.getD i v0T)<=qZ vars k:=by
 induction k with
 |zero=>omega
 |succ k ih=>
  rw[gN om];by_cases e:i=k
  .subst e;rw[QL om];omega
  .have:=ih om om;omega
theorem jdJ {t:Ld}{j:Nat}:∀ k,k<=vars.length->i<k->j<wdV (vars.getD i v0T)->(Jr vars t k).getD (qZ vars i+j) false=bt (t.getD i 0) j
 |0,_,h,_=>by omega
 |k+1,hk,h,hj=>by
  have hl:=uX (vars:=vars) t k om;rw[Jr,Qab];by_cases e:i=k
  .subst e;rw[QbK om,hl,Qcs];unfold ZB;rw[Qbf,Qcb hj];rfl
  .have:=Uf (vars:=vars) (i:=i) (k:=k) om om;rw[Qbt om,<-Qab];exact jdJ k om om hj
theorem jpO (hb:NB base)(m:ModT)(hm:m.vars.length<=1000000)(V:Ja m.vars)(hle:∀ v∈m.vars,v.lo<=v.hi)(t:Ld)(ht:t.length=m.vars.length):Tot base 21 [.agg (mdE m),svV t] (.lst (Jr m.vars t m.vars.length).length (bA (Jr m.vars t m.vars.length))):=by
 refine hb.tot ?_ (by unfold svV;simp[pa,pc,Je]) rfl;have E19:=K0 hb m hm V hle;have hsl:=US m.vars;unfold svV;refine jB jvP haa (hb.pur 21 1 dc) ?_;simp only[jqg,jj,ζ,θ,κ,μ];rw[(by unfold jkD;simp only[qq];rfl:jkD=_)];repeat' first|apply jb<;>intro _|simp(disch:=try exact dzG) only[E19,r8,γ,ε]
 refine jU m.vars.length (λk L s=>(∃ v,Lw 1 s.nx s v (Jr m.vars t k).length (bA (Jr m.vars t k)) 1/\Has L 5 v)/\Has L 1 (.lst t.length (t.map (.int .i64)))/\Has L 10 (.lst m.vars.length (wsL m.vars))) ?_ (λk L s hk hI hi hn=>?_) (λL s hI=>?_)
 .refine⟨⟨_,Lw.new (s:=nw st0 (mdE m)) nxX nxX,?_⟩,?_,?_⟩<;>simp(disch:=decide) only[je,jn,jf,q6]
 .obtain⟨⟨v,W,i5⟩,i1,i10⟩:=hI;obtain⟨w1,w2⟩:=YM V (Qaa hk);have hkt:k<t.length:=om
  have eW:=λ(st:St) (K:AV->St->Prop)=>jlH (st:=st) (K:=K) hk;have E:=jtm hb (n:=t[k]) (w:=wdV m.vars[k]) w1 om;have ho:=Hr (vars:=m.vars) (λv hv=>by have:=(YM V hv).2;omega) k;have hbl:=uX (vars:=m.vars) t k om;have hS:Jr m.vars t (k+1)=Jr m.vars t k ++ ZB t[k] (wdV m.vars[k]):=by
   rw[Jr,QL hk,Qab,Qad hkt];rfl
  have hlB:=jdL t[k] (wdV m.vars[k]);obtain⟨v',s',eA,W2,A2⟩:=jmM (bytes:=1) (n2:=wdV m.vars[k]) (cs2:=bA (ZB t[k] (wdV m.vars[k]))) W (η _) (by rw[jtq,hlB,Qaz]) dc om om;rw[<-jjT,<-hS,show(Jr m.vars t k).length+wdV m.vars[k]=(Jr m.vars t (k+1)).length by rw[hS,υ,hlB]] at W2;repeat' first|apply jb<;>intro _|simp(disch:=try exact dzG) only[ja i1,ja i5,ja i10,ja hi,ja hn,eW,Q8,E,eA,r8,γ,ε]
  refine⟨⟨⟨v',W2,?_⟩,?_,?_⟩,?_,?_⟩;all_goals exact hsX
 .obtain⟨⟨v,W,i5⟩,i1,i10⟩:=hI;repeat' first|apply jb<;>intro _|simp(disch:=try exact dzG) only[ja i5,r8,γ,ε]
  have f:=Lw.fz (m:=0) (d:=7) W (Qae _) (jbQ _);exact f
def stI (vars:List VarT)(t:Ld)(i:Nat):Bool:=!(vars.getD i v0T).beg ||decide (t.getD i 0=(vars.getD i v0T).first)
theorem jmQ (hb:NB base)(m:ModT)(hm:m.vars.length<=1000000)(t:Ld)(ht:t.length<=1099511627776):Tot base 23 [.agg (mdE m),svV t] (.bool (yL m.vars t && (ω m.vars.length).all (stI m.vars t))):=by
 refine hb.tot ?_ (by unfold svV;simp[pa,pc,Je]) rfl;have E10:=UO hb m t hm ht;cases hr:yL m.vars t with
 |false=>
  rw[hr] at E10;unfold svV at *;refine jB jq9 haa (hb.pur 23 1 dc) ?_;simp only[jlv,jj,ζ,θ,κ,μ];rw[(by unfold jbU;simp only[qq];rfl:jbU=_)];repeat' first|apply jb<;>intro _|simp(disch:=try exact dzG) only[E10,r8,γ,ε]
  exact G0.v rfl rfl
 |true=>
  have hl:=(zU.1 hr).1;rw[hr] at E10;rw[QbJ];unfold svV at *;refine jB jq9 haa (hb.pur 23 1 dc) ?_;simp only[jlv,jj,ζ,θ,κ,μ];rw[(by unfold jbU;simp only[qq];rfl:jbU=_)];repeat' first|apply jb<;>intro _|simp(disch:=try exact dzG) only[E10,r8,γ,ε]
  refine jU m.vars.length (λk L s=>((ω k).all (stI m.vars t)=true/\1<=s.nx)/\Has L 1 (.lst t.length (t.map (.int .i64)))/\Has L 12 (.lst m.vars.length (fl vaE m.vars))) ?_ (λk L s hk hI hi hn=>?_) (λL s hI=>?_)
  .refine⟨⟨rfl,nxX⟩,?_,?_⟩<;>exact hsX
  .obtain⟨⟨h0,n1⟩,i1,i12⟩:=hI;have hkt:k<t.length:=om
   have hs:stI m.vars t k=(!m.vars[k].beg ||decide (t[k]=m.vars[k].first)):=by
    unfold stI;rw[QL hk,Qab,Qad hkt];rfl
   have bad:stI m.vars t k=false->(ω m.vars.length).all (stI m.vars t)=false:=λe=>by
    rw[Qcd];intro h;rw[Qah] at h;have:=h k (QaZ.2 hk);rw[e] at this;cases this
   cases hbg:m.vars[k].beg with
   |false=>
    rw[hbg] at hs;repeat' first|apply jb<;>intro _|simp(disch:=try exact dzG) only[ja i1,ja i12,ja hi,ja hn,hbg,r8,γ,ε]
    refine⟨⟨⟨by rw[WH,h0,hs];rfl,nxX⟩,?_,?_⟩,?_,?_⟩;all_goals first
     |(simp(disch:=decide) only[je,jn];done)
     |(simp(disch:=decide) only[je];assumption)
   |true=>
    rw[hbg] at hs;repeat' first|apply jb<;>intro _|simp(disch:=try exact dzG) only[ja i1,ja i12,ja hi,ja hn,hbg,Q8,r8,γ,ε]
    .rename_i h3;have hb3:=bad (by rw[hs,decide_eq_false (λe=>h3 e.symm)];rfl);exact G0.v (congrArg AV.bool hb3.symm) rfl
    .rename_i h3;have h3:m.vars[k].first=t[k]:=by simpa using h3
     refine⟨⟨⟨by rw[WH,h0,hs,decide_eq_true h3.symm];rfl,om⟩,?_,?_⟩,?_,?_⟩<;>(simp(disch:=decide) only[je];assumption)
  .obtain⟨⟨h0,n1⟩,i1,i12⟩:=hI;repeat' first|apply jb<;>intro _|simp(disch:=try exact dzG) only[r8,γ,ε]
   exact G0.v (congrArg AV.bool h0.symm) rfl
def Xx (src:SrcT):ModT×Bool:=match J7 src with
 |none=>(md0,false)
 |some t=>if 5000<t.length then(md0,false) else((zy t [116,114,117,101]).m,decide ((zy t [116,114,117,101]).c=0/\(zy t [116,114,117,101]).l=0/\(zy t [116,114,117,101]).k=0) && decide (Zi (zy t [116,114,117,101]).m.vars<=1000))
theorem jlY (h:(Xx src).2=true):VarsOK (Xx src).1.vars (Xx src).1.enums:=by
 unfold Xx at h ⊢;cases hs:J7 src with
 |none=>rw[hs] at h;cases h
 |some t=>
  rw[hs] at h;dsimp only at h ⊢;split at h
  .cases h
  .rename_i h5;rw[if_neg h5];simp only[ψ,decide_eq_true_eq] at h;exact(jcG h.1.1).1
theorem juI:Go.Ev.isAgg δ 32=some true:=Qa0
theorem juH:Go.Ev.sizeOf δ 32=some 3:=Qa0
theorem juL {b:Nat}{h:T AO}(ho:3<=jV h b)(hv:rats h b 0 3=mdE m):(jZ δ 32 (.ptr b 0) (.agg (mdE m)) h=true)=True:=eq_true (YW juI juH dc om hv rfl)
theorem jbn {c:List AV}{q p:Bool}(h:FzsD 0 7 s c (mdE m))(h2:q=p):G0 (.tup [.agg (mdE m),.bool p]) (.tup [.agg c,.bool q]) s:=by
 subst h2;exact FzD.tup (.cons (.agg h) (.cons (.pc rfl) .nil))
theorem jiO :FzsD 0 7 s [.nils,.nils,.nils] (mdE md0):=.cons .nils (.cons .nils (.cons .nils .nil))
theorem jr1 (hb:NB base)(hP:PI base)(src:SrcT)(wr:WrS src):Tot base 9 [.agg (srE src)] (.tup [.agg (mdE (Xx src).1),.bool (Xx src).2]):=by
 refine hb.tot ?_ (by simp[pa,gn]) rfl;have E35:=jj2 hb src wr;unfold jge at E35;have hd:Xx src=match J7 src with|none=>(md0,false)|some t=>if 5000<t.length then(md0,false) else((zy t [116,114,117,101]).m,decide ((zy t [116,114,117,101]).c=0/\(zy t [116,114,117,101]).l=0/\(zy t [116,114,117,101]).k=0) && decide (Zi (zy t [116,114,117,101]).m.vars<=1000)):=rfl
 refine jB xw9 haa (hb.pur 9 1 dc) ?_;simp only[yw9,jj,ζ,θ,κ,μ];rw[(by unfold zw9;simp only[qq];rfl:zw9=_)];cases hs:J7 src with
 |none=>
  rw[hs] at E35 hd;have E35:Tot base 37 [.agg (srE src)] (.tup [.str [],.int .i64 141]):=E35;dsimp only at hd;rw[hd];repeat' first|apply jb<;>intro _|simp(disch:=try exact dzG) only[E35,r8,γ,ε]
  all_goals exact jbn jiO rfl
 |some t=>
  rw[hs] at E35 hd;have E35:Tot base 37 [.agg (srE src)] (.tup [.str t,.int .i64 0]):=E35;dsimp only at hd;by_cases h5:5000<t.length
  .have h5':(5000:Int)<(t.length:Int):=om
   rw[if_pos h5] at hd;rw[hd];repeat' first|apply jb<;>intro _|simp(disch:=try exact dzG) only[E35,h5',r8,γ,ε]
   all_goals exact jbn jiO rfl
  .have h5':¬ (5000:Int)<(t.length:Int):=om
   rw[if_neg h5] at hd;rw[hd];have E34:=jtC hb hP t [116,114,117,101] om dc;have ok:=λh=>jcG (l:=t) (f:=[116,114,117,101]) h;unfold gh at E34;generalize zy t [116,114,117,101]=r at E34 ok;obtain⟨m,x,c,l,k⟩:=r;dsimp only at E34 ok ⊢;have E34:Tot base 36 [.str t,.str [116,114,117,101]] (.tup [.agg (mdE m),.agg (eE x),.agg [.int .i64 c,.int .i64 l,.int .i64 k]]):=E34;by_cases hz:c=0/\l=0/\k=0
   .have V:=(ok hz.1).1;have E36:=λst K Kp=>(jcr hb m.vars V.len m.enums.length m.moves.length (fl enE m.enums) (fl moE m.moves)).pa (by simp[pa,pc]) (λst=>hb.no 33 dc _ _) st K Kp;rw[decide_eq_true hz,QbJ];have E36:∀ (st:St) (K Kp:AV->St->Prop),XB δ base 33 [.agg (mdE m)] st K Kp=K (.int .i64 (Zi m.vars)) st:=E36;have f2:(nw (nw st0 (srE src)) [AV.nils,AV.nils,AV.nils]).nx=2:=rfl;have CX:=((((((f2▸Cl.new (nw (nw st0 (srE src)) [AV.nils,AV.nils,AV.nils]) [AV.nils,AV.nils,AV.nils]:Cl (nw (nw (nw st0 (srE src)) [AV.nils,AV.nils,AV.nils]) [AV.nils,AV.nils,AV.nils]) 2 [AV.nils,AV.nils,AV.nils]).nw [AV.int .i64 0,AV.int .i64 0,AV.str [],AV.nils,AV.int .i64 0,AV.int .i64 0]).nw [AV.int .i64 0,AV.int .i64 0,AV.int .i64 0]).wr0 (c':=mdE m) rfl).wrO (c:=3) dc 0 (eE x)).wrO (c:=4) dc 0 [AV.int .i64 0,AV.int .i64 0,AV.int .i64 0]);have sm:=juL (by rw[CX.len];exact η 3) (CX.rats0 rfl);obtain⟨rfl,rfl,rfl⟩:=hz;repeat' first|apply jb<;>intro _|simp(disch:=try exact dzG) only[E35,h5',E34,jny,jnx,jnw,fEq,E36,sm,r8,γ,ε]
    all_goals exact jbn (FzsD.pc (Je m)) rfl
   .rw[decide_eq_false hz,Bool.false_and];repeat' first|apply jb<;>intro _|simp(disch:=try exact dzG) only[E35,h5',E34,jny,jnx,jnw,fEq,hz,r8,γ,ε]
    all_goals exact jbn (FzsD.pc (Je m)) rfl
def VOk (v:VarT):Prop:=v.lo<=v.hi/\(v.beg=true->v.lo<=v.first/\v.first<=v.hi)
theorem jjS :∀ {xs:List Ex} {v u:VarT},Js vars enums v xs=.ok u->VOk v->VOk u
 |[],v,u,h,k=>by rw[Js] at h;cases h;exact k
 |x :: xs,v,u,h,k=>by
  rw[Js] at h;split at h
  .cases h
  .split at h
   .cases h
   .split at h
    .cases h
    .rename_i hr;exact jjS h ⟨k.1,λ_=>by dsimp only;omega⟩
theorem jpa {d:DeclT}{v:VarT}(hv:∀ e∈enums,0<e.vals.length)(h:wR enums d=.ok v):VOk v:=by
 unfold wR at h;split at h
 .cases h;exact⟨(by decide:(0:Int)<=1),λh=>by cases h⟩
 .split at h
  .rename_i h2;cases h;refine⟨?_,λh=>by cases h⟩;dsimp only;have hlt:JD enums d.ty<(enums.length:Int):=uN;have hi2:(JD enums d.ty).toNat<enums.length:=om
   have eg:enums.getD (JD enums d.ty).toNat en0=enums[(JD enums d.ty).toNat]:=by simp[Qaf,hi2]
   rw[eg];have:=hv _ (Qaa hi2);omega
  .split at h
   .cases h
   .split at h
    .cases h
    .split at h
     .cases h
     .cases h;exact⟨by dsimp only;omega,λh=>by cases h⟩
theorem jpk {ts:Lb}{d:DeclT}{b:MT}(hv:∀ e∈m.enums,0<e.vals.length)(h:Yo m ts d=.ok b):∃ v:VarT,b.1={ m with vars:=m.vars ++ [v] }/\VOk v:=by
 unfold Yo at h;split at h
 .cases h
 .split at h
  .cases h
  .rename_i v hk;unfold w7 at h;split at h
   .cases h
   .rename_i u hu;unfold Ks at h;split at h
    .cases h
    .cases h;exact⟨u,rfl,jjS hu (jpa hv hk)⟩
theorem jwQ (O:SrcOK src){m:MT}(h:zW src=.ok m):(∀ v∈m.1.vars,VOk v)/\m.1.vars.length<=1000:=by
 unfold zW at h;split at h
 .cases h
 .rename_i b h1;have H1:=zX (n:=0) (P:=λk (c:MT)=>c.1.vars=[]/\∀ e∈c.1.enums,0<e.vals.length) (λk c x c' hx hc hr=>by
   rw[Vz hr];refine⟨hc.1,λu hu=>?_⟩;rcases QaH.1 hu with hu|hu
   .exact hc.2 u hu
   .rw[QaL.1 hu];exact(O.vals x hx).1) ⟨rfl,λe he=>by cases he⟩ h1
  split at h
  .cases h
  .rename_i c h2;have H2:=zX (n:=0) (P:=λk (c:MT)=>(∀ v∈c.1.vars,VOk v)/\c.1.enums=b.1.enums/\c.1.vars.length=k) (λk c x c' hx hc hr=>by
    obtain⟨v,he,hv⟩:=jpk (by rw[hc.2.1];exact H1.2) hr;rw[he];refine⟨λu hu=>?_,hc.2.1,by simp[hc.2.2]⟩;rcases QaH.1 hu with hu|hu
    .exact hc.1 u hu
    .rw[QaL.1 hu];exact hv) ⟨(λv hv=>by rw[H1.1] at hv;cases hv),rfl,by rw[H1.1];rfl⟩ h2
   have H3:=zX (n:=0) (P:=λ_ (d:MT)=>d.1.vars=c.1.vars) (λk d x d' _ hd hr=>(Kt hr).1.trans hd) rfl h;have:=O.nv;rw[H3];exact⟨H2.1,by have:=H2.2.2;omega⟩
theorem joE {l f:Lc}(h:(zy l f).c=0):(∀ v∈(zy l f).m.vars,VOk v)/\(zy l f).m.vars.length<=1000:=by
 unfold zy at h ⊢;by_cases h1:(zk l).2.1≠0
 .rw[if_pos h1] at h;exact absurd (show((zk l).2.1:Int)=0 from h) om
 .rw[if_neg h1] at h ⊢;have O:=Hg (l:=l) (by simpa using h1);cases hm:zW (zk l).1 with
  |er a b c=>
   rw[hm] at h;exact absurd h (Vg hm)
  |ok m=>
   rw[hm] at h;dsimp only at h ⊢;by_cases h2:(yp f).2.1≠0
   .rw[if_pos h2] at h;exact absurd (show((yp f).2.1:Int)=0 from h) om
   .rw[if_neg h2] at h ⊢;cases hr:yK m.1.vars m.1.enums true (yp f).1 2 [] with
    |er a b c=>
     rw[hr] at h;exact absurd h (Xt hr)
    |ok y=>exact jwQ O hm
theorem joF (h:(Xx src).2=true):(∀ v∈(Xx src).1.vars,VOk v)/\(Xx src).1.vars.length<=1000:=by
 unfold Xx at h ⊢;cases hs:J7 src with
 |none=>rw[hs] at h;cases h
 |some t=>
  rw[hs] at h;dsimp only at h ⊢;split at h
  .cases h
  .rename_i h5;rw[if_neg h5];simp only[ψ,decide_eq_true_eq] at h;exact joE h.1.1
def Zs (f:Nat->Bool):Nat->Int
 |0=>0
 |k+1=>Zs f k+if f k then 2 ^ k else 0
theorem jcT (f:Nat->Bool):∀ k,0<=Zs f k/\Zs f k<2 ^ k
 |0=>⟨Int.le_refl 0,(by decide:(0:Int)<1)⟩
 |k+1=>by
  obtain⟨h1,h2⟩:=jcT f k;have:=p2 k;rw[Zs,Qbp];generalize (2:Int) ^ k=q at *;cases f k<;>simp<;>omega
theorem Kz (f:Nat->Bool){j:Nat}:∀ k,j<=k->Zs f k % 2 ^ j=Zs f j
 |0,h=>by
  have:j=0:=om
  subst this;rfl
 |k+1,h=>by
  by_cases e:j=k+1
  .subst e;exact Qcj (jcT f _).1 (jcT f _).2
  .have ih:=Kz f (j:=j) k om;have e2:(2:Int) ^ k=2 ^ j * 2 ^ (k - j):=(λd (h:k=j+d)=>by rw[h,Int.pow_add]:∀ d,k=j+d->(2:Int) ^ k=2 ^ j * 2 ^ d) (k - j) om;rw[Zs];cases f k
   .simpa using ih
   .rw[if_pos rfl,e2,Qci,ih]
theorem joV (f:Nat->Bool)(h:i<w):bt (Zs f w) i=f i:=by
 have e:=uF (Zs f w) i;rw[Kz f w (by omega:i+1<=w),Kz f w (by omega:i<=w),Zs] at e;have:=p2 i;generalize (2:Int) ^ i=q at *;cases h1:bt (Zs f w) i<;>cases h2:f i<;>rw[h1,h2] at e<;>simp at e ⊢<;>omega
theorem jtj (h:i<w):bt (XY n w) i=bt n i:=by
 have e:XY n w % 2 ^ w=n % 2 ^ w:=by
  unfold XY;split
  .have:n % 2 ^ w - 2 ^ w=n % 2 ^ w+2 ^ w * (-1):=om
   rw[this,Qci,Int.emod_emod]
  .exact Int.emod_emod ..
 unfold bt;rw[<-Hu h,e,Hu h]
def Hs (f:Nat->Bool)(w:Nat):Int:=XY (Zs f w) w
theorem jeQ (f:Nat->Bool)(h:i<w):bt (Hs f w) i=f i:=(jtj h).trans (joV f h)
theorem jwT (v:Nat->Bool)(a:Nat):ed v (2 * a)=v a:=by
 unfold ed;rw[show 2 * a / 2=a by omega,show 2 * a % 2=0 by omega];cases v a<;>rfl
theorem joU {n:Nat}(h1:1<=w)(h2:w<=28)(hl:n+w<=G.parts.length):VN G (QU n w) λv=>Hs (λj=>v (n+j)) w:=by
 have hlen:=Ve n w;refine⟨om,om,λi hi=>?_,λv _=>by rw[hlen];exact KL _ h1⟩;have e:(QU n w)[i]=2 * (n+i):=by simp[QU]
 rw[e];refine⟨by unfold Gr.has;omega,λv _=>?_⟩;rw[jwT];exact(jeQ (λj=>v (n+j)) om).symm
def opN (vars:List VarT)(n0 k:Nat):List ((Nat->Bool)->Int):=(ω k).map λi v=>Hs (λj=>v (n0+qZ vars i+j)) (wdV (vars.getD i v0T))
theorem ke (vars:List VarT)(n0 k:Nat):(opN vars n0 k).length=k:=by simp[opN]
theorem vZ (h:i<vars.length):vars.getD i v0T∈vars:=by rw[QL h];exact Qaa h
theorem juP (V:Ja vars)(hl:n0+qZ vars vars.length<=G.parts.length):FN G (opF vars n0 vars.length) (opN vars n0 vars.length):=by
 refine⟨(Wo ..).trans (ke ..).symm,λi h1 h2=>?_⟩;rw[Wo] at h1;obtain⟨w1,w2⟩:=YM V (vZ h1);have:=Uf (vars:=vars) h1 (η _);have e1:(opF vars n0 vars.length)[i]'(by rw[Wo];exact h1)=QU (n0+qZ vars i) (wdV (vars.getD i v0T)):=by simp[opF]
 have e2:(opN vars n0 vars.length)[i]=λv=>Hs (λj=>v (n0+qZ vars i+j)) (wdV (vars.getD i v0T)):=by simp[opN]
 rw[e1,e2];exact joU w1 w2 om
theorem joP (w:G.WF){t:Ld}(V:Ja vars)(ht:t.length=vars.length)(hi:G.ins=(G0r.addI (qZ vars vars.length)).ins)(hf:∀ i (h:i<t.length),Qe t[i] t[i] (wdV (vars.getD i v0T))):(opN vars 1 vars.length).map (λf=>f (vA (G.vals (Jr vars t vars.length))))=t:=by
 refine Qbg (by rw[Qac,ke,ht]) λi h1 h2=>?_;have hiv:i<vars.length:=om
 obtain⟨w1,w2⟩:=YM V (vZ hiv);have hm:=Uf (vars:=vars) hiv (η _);rw[QbY];have e2:(opN vars 1 vars.length)[i]'(by rw[ke];exact hiv)=λv=>Hs (λj=>v (1+qZ vars i+j)) (wdV (vars.getD i v0T)):=by simp[opN]
 rw[e2];dsimp only;have hb:=jfu w1 (KL (Zs (λj=>vA (G.vals (Jr vars t vars.length)) (1+qZ vars i+j)) (wdV (vars.getD i v0T))) w1) (hf i h2);refine of_decide_eq_true (hb.symm.trans ?_);rw[Qah];intro j hj;have hj:=QaZ.1 hj;have hlen:G.ins.length=qZ vars vars.length:=by rw[hi];simp[Gr.addI,G0r]
 have hji:qZ vars i+j<G.ins.length:=om
 have hv:=w.vals_in (Jr vars t vars.length) hji;have hins:G.ins[qZ vars i+j]=2 * (1+(qZ vars i+j)):=by simp only[hi];simp[Gr.addI,G0r]
 rw[hins,show 2 * (1+(qZ vars i+j)) / 2=1+qZ vars i+j by omega,jdJ _ (η _) hiv hj] at hv;have hn:=jeQ (λj=>vA (G.vals (Jr vars t vars.length)) (1+qZ vars i+j)) hj;unfold Hs at hn;rw[hn,hv,Qab,Qad h2];simp
theorem jfn (h:i<(Jq vars sv k).length):(Jq vars sv k)[i]=if i<sv.length then XY (sv.getD i 0) (wdV (vars.getD i v0T)) else 0:=by simp[Jq]
theorem jjI (V:Ja vars)(sv:Ld):∀ i (h:i<(Jq vars sv vars.length).length),Qe (Jq vars sv vars.length)[i] (Jq vars sv vars.length)[i] (wdV (vars.getD i v0T)):=λi h=>by
 rw[jfn h];rw[VA] at h;obtain⟨w1,w2⟩:=YM V (vZ h);split
 .exact KL _ w1
 .have:=p2 (wdV (vars.getD i v0T) - 1);exact⟨om,om⟩
theorem W4 (V:Ja vars)(hr:yL vars sv=true):∀ i (h:i<sv.length),i<vars.length/\Qe sv[i] sv[i] (wdV (vars.getD i v0T))/\wd sv[i] sv[i]<=wdV (vars.getD i v0T)/\-100000000<=sv[i]/\sv[i]<=100000000:=λi h=>by
 obtain⟨hl,hs⟩:=zU.1 hr;have hiv:i<vars.length:=om
 obtain⟨a1,a2⟩:=hs i hiv h;obtain⟨v1,v2,v3,v4⟩:=V _ (Qaa hiv);rw[QL hiv];exact⟨hiv,jfc (Qr v1 v4).2.2.1 a1 a2 (η _),jnf v1 v4 a1 a2,om,om⟩
theorem jpm (V:Ja vars)(hr:yL vars sv=true):Jq vars sv vars.length=sv:=by
 obtain⟨hl,_⟩:=zU.1 hr;refine Qbg (by rw[VA,hl]) λi h1 h2=>?_;obtain⟨h3,h4,_⟩:=W4 V hr i h2;rw[jfn h1,if_pos h2,Qab,Qad h2];exact js3 (YM V (vZ h3)).1 h4
theorem juS (w:G.WF)(V:Ja vars)(hr:yL vars sv=true):FN G (ofF vars sv vars.length) (sv.map λx _=>x):=by
 obtain⟨hl,_⟩:=zU.1 hr;refine⟨by rw[XA,Qac,hl],λi h1 h2=>?_⟩;rw[XA] at h1;have h3:i<sv.length:=om
 obtain⟨_,f,c,n1,n2⟩:=W4 V hr i h3;obtain⟨w1,w2⟩:=YM V (vZ h1);obtain⟨a1,a2,a3,_⟩:=Qr n1 n2;have e1:(ofF vars sv vars.length)[i]'(by rw[XA];exact h1)=z8 (cE sv[i] (wd sv[i] sv[i])) (wdV (vars.getD i v0T)):=by simp[ofF,h3]
 rw[e1,QbY];exact(jbN w a1 (jcg n1 n2) a3).ext (by rw[ui];exact c) w2
theorem juR (V:Ja vars)(hr:yL vars sv=true):∀ i (h:i<(ofF vars sv vars.length).length) (h2:i<(opF vars n0 vars.length).length),(ofF vars sv vars.length)[i].length=(opF vars n0 vars.length)[i].length:=λi h h2=>by
 obtain⟨hl,_⟩:=zU.1 hr;have h1:i<vars.length:=by rw[XA] at h;exact h
 have h3:i<sv.length:=om
 obtain⟨_,f,c,n1,n2⟩:=W4 V hr i h3;have e1:(ofF vars sv vars.length)[i]=z8 (cE sv[i] (wd sv[i] sv[i])) (wdV (vars.getD i v0T)):=by simp[ofF,h3]
 have e2:(opF vars n0 vars.length)[i]=QU (n0+qZ vars i) (wdV (vars.getD i v0T)):=by simp[opF]
 rw[e1,e2,Ve,Xm (by rw[ui];exact c)]
theorem juK {t:Ld}{v:Nat->Bool}(h:ns.map (λf=>f v)=t):(ω vars.length).all (stB vars ns v)=(ω vars.length).all (stI vars t):=by
 have:stB vars ns v=stI vars t:=funext λi=>by
  unfold stB stI Vf;have e:(ns.getD i λ_=>0) v=t.getD i 0:=by
   rw[<-h,Qab,Qab,Qbf];cases ns[i]?<;>rfl
  rw[e]
 rw[this]
def zw4:XC:=(Oy [IV 2 0,Tw] [Ig 32 8 [],TH 33 32] 33 [Tw] (Oy [o7 35 3 2,OG 36 9 35,oy 34 36,O8 37 34,O9 38 34,Ib 5 [.nils,.nils,.nils],o9 3 5 37,oz 6 38] [oy 39 6,ol 40 (I8 39),oy 41 40,Oh 42 41 1,TT 43 41 42,Tr 44 41 .gtr 43 40,On 45 41 Oi 44] 45 [oK 4 Io] (ou (I4 (Ig 46 11 []) 7 46) (Oy [oy 48 7,o7 49 3 5,OL 50 18 48 49,oy 47 50,O8 51 47,O9 52 47,oz 8 51,oz 9 52] [oy 53 9,ON 54 .neq 53 oB,oy 55 54,Oh 56 55 8,TT 57 55 56,OV 58 55 0 5,OS 59 55 58,TT 60 55 59,Iu 61 55 (.bin .neq 57 60),On 62 55 Oi 61] 62 [Tw] (.seq (TN [o7 63 3 5,oE 64 true none (oQ 19 []) [63],IP 65 64,IO 66] 0 67 66 65 67 0 1 [oy 68 66,TK 69 64 66,oF 70 69,oz 10 68,oz 11 70] (ID [oy 71 8,oy 72 10,TK 73 71 72,oF 74 73,IU 75 74,oy 76 11,IA 77 .neq 75 76] 77 [Tw]) 78 66 1 66 78) (Te [o7 79 3 5,OU 80,OL 81 20 79 80,oz 12 81] [o7 82 3 5,oy 83 12,OL 84 21 82 83,oz 13 84] (Te [oy 86 7,oy 87 13,oy 88 8,Ig 89 16 [86,87,88],oy 85 89,O8 90 85,O9 91 85,oz 14 90,oz 15 91] [oy 93 7,o7 94 3 5,oy 95 8,Ig 96 14 [93,94,95],oy 92 96,O8 97 92,O9 98 92,oz 16 97,oz 17 98] (Te [oy 100 7,o7 101 3 5,oy 102 8,Ig 103 22 [100,101,102],oy 99 103,O8 104 99,O9 105 99,oz 18 104,oz 19 105] [oy 107 7,oy 108 13,oy 109 16,oy 110 17,Ig 111 15 [107,108,109,110],oy 106 111,O8 112 106,O9 113 106,oz 20 112,oz 21 113] (Oy [oy 115 7,oy 116 13,oy 117 18,oy 118 19,Ig 119 15 [115,116,117,118],oy 114 119,O8 120 114,O9 121 114,oz 22 120,oz 23 121] [oy 122 15,ON 123 .neq 122 oB,oy 124 123,Oh 125 124 21,Iu 126 124 (I8 125),T7 127 124 126,oy 128 127,Oh 129 128 23,Iu 130 128 (I8 129),T7 131 128 130,oy 132 131,Oh 133 132 14,Oh 134 132 12,O7 135 (132,false) 17 [] [133,134],Iu 136 132 (I8 135),T7 137 132 136,oy 138 137,Oh 139 138 20,Iu 140 138 (.ldA 3 5),Oh 141 138 12,O7 142 (138,false) 10 [] [140,141],Iu 143 138 (.gen .neq 4 false 139 142),T7 144 138 143,oy 145 144,Oh 146 145 22,Iu 147 145 (.ldA 3 5),Oh 148 145 12,O7 149 (145,false) 23 [] [147,148],Iu 150 145 (.gen .neq 4 false 146 149),On 151 145 Oi 150] 151 [Tw] (Oy [o7 153 3 5,OU 154,OL 155 12 153 154,oy 152 155,O8 156 152,O9 157 152,oz 24 156,oz 25 157] [o7 158 3 5,OU 159,OL 160 10 158 159,oy 161 25,ON 162 .eql 161 oB,ow 163 (.gen .neq 4 false 160 162)] 163 [Tw] (.seq (ID (T5 164 25 (Tt 165 164)) 165 [oy 166 24,IU 167 166,ON 168 .eql 167 oB,TR 168]) (Te [oy 170 7,oy 171 24,Ig 172 16 [170,.c .nils,171],oy 169 172,O8 173 169,O9 174 169,oz 26 173,oz 27 174] [oy 176 7,oy 177 24,oy 178 8,Ig 179 13 [176,177,178],oy 175 179,O8 180 175,O9 181 175,oz 28 180,oz 29 181] (OK [oy 183 7,oy 184 13,oy 185 28,oy 186 29,Ig 187 15 [183,184,185,186],oy 182 187,O8 188 182,O9 189 182,oz 30 188,oz 31 189] [oy 190 27,ON 191 .eql 190 oB,oy 192 191,Os 193 192 31,II 194 192 193 OI,oy 195 194,Os 196 195 30,II 197 195 196 OI,oy 198 197,Os 199 198 26,Os 200 198 1,O7 201 (198,true) 17 [] [199,200],II 202 198 201 OI,TR 202])))))))))))))
def yw4:XF:=⟨[0,1],zw4,[(.t 4)]⟩
theorem xw4:jx δ 4=some yw4:=Qa0
theorem jrr (F:Lb):jk (KB (frV F) st) K=K (.int .i64 (F.length:Int)) st:=gb F.length (fl frG F)
theorem jrv {F:Lb}(h:k<F.length)(st:St)(K:AV->St->Prop):jk (Vq 1 (frV F) (.int .i64 (k:Int)) st) K=K (.lptr (fl frG F) k) st:=by
 unfold frV;rw[jcp om om,Qck,Qaz]
theorem jwW (hb:NB base)(m:ModT)(hm:m.vars.length<=1000000)(sv:Ld)(hs:sv.length<=1000000)(hr:yL m.vars sv=false):Tot base 12 [.agg (mdE m),svV sv] (.tup [.lst 0 [],.int .i64 191]):=by
 refine hb.tot ?_ (by unfold svV;simp[pa,pc,Je]) rfl;have E:=hb.pl (jcy hb m sv hm om) (by unfold svV;simp[pa,pc,Je]) rfl;rw[hr] at E;unfold svV at *;refine jB jra haa (hb.pur 12 1 dc) ?_;simp only[jlw,jj,ζ,θ,κ,μ];rw[(by unfold jbV;simp only[qq];rfl:jbV=_)];repeat' first|apply jb<;>intro _|simp(disch:=try exact dzG) only[E,r8,γ,ε]
 exact FzD.tup (.cons .nils (.cons (.pc rfl) .nil))
theorem jod (b:Bool):(b != b)=false:=by cases b<;>rfl
theorem law4_ok (hb:NB base)(h8:∀ st,base.run 8 [] st=.ok (.bool true) st)(hP:PI base)(src:SrcT)(sv:Ld)(hm:szS src<=1048576)(hs:sv.length<=1000000000):XB δ base 4 [.agg (srE src),svV sv] st0 (λv _=>v=.bool true) λ_ _=>False:=by
 have E8:=λ(st:St) (K Kp:AV->St->Prop)=>GX (P:=δ) (base:=base) (h8 st) K Kp;have E9:=jr1 hb hP src (jri hm);have hsl:∀ (st:St) (K:AV->St->Prop),jk (KB (svV sv) st) K=K (.int .i64 (sv.length:Int)) st:=λst K=>gb _ _;refine qu xw4 haa (hb.at0 4 dc dc _ _) ?_;simp only[yw4,jj,ζ,θ,κ,μ];rw[(by unfold zw4;simp only[qq];rfl:zw4=_)];cases h1:(Xx src).2 with
 |false=>
  rw[h1] at E9;repeat' first|apply jb<;>intro _|simp(disch:=try exact dzG) only[E8,E9,r8,γ,ε]
 |true=>
  have VO:=jlY h1;obtain⟨vok,n1000⟩:=joF h1;rw[h1] at E9;generalize (Xx src).1=m at E9 VO vok n1000;have V:Ja m.vars:=VO.ends;have hle:∀ v∈m.vars,v.lo<=v.hi:=λv hv=>(vok v hv).1;by_cases h40:40<sv.length
  .have h40':(40:Int)<(sv.length:Int):=om
   repeat' first|apply jb<;>intro _|simp(disch:=try exact dzG) only[E8,E9,hsl,h40',r8,γ,ε]
  .have h40':¬ (40:Int)<(sv.length:Int):=om
   obtain⟨w0,hw0⟩:∃ w0,w0=wr (nw (nw st0.bare (srE src)) [AV.nils,AV.nils,AV.nils]) 1 0 (mdE m):=⟨_,rfl⟩;have n0:w0.nx=2:=by rw[hw0];rfl
   have f1:(nw st0.bare (srE src)).nx=1:=rfl;have C0:Cl w0 1 (mdE m):=by rw[hw0];exact(f1▸Cl.new (nw st0.bare (srE src)) [AV.nils,AV.nils,AV.nils]).wr0 rfl
   repeat' first|apply jb<;>intro _|simp(disch:=try exact dzG) only[E8,E9,hsl,h40',r8,γ,ε]
   rw[<-hw0];clear hw0;refine jvj hb w0 _ _ λg O s1 H1 hO A1=>?_;have C1:Cl s1 1 (mdE m):=A1.cl 1 _ om C0;have o1:¬ O 1:=λh=>by have:=hO 1 h;omega
   have r1:rats s1.h 1 0 3=mdE m:=C1.rats0 rfl;have l1:=C1.len
   (have zz:=C1.r;repeat' first|apply jb<;>intro _|simp(disch:=try exact j9) only[r1,C1.q,C1.r,r8,γ,ε])
   have ho:=Hr (vars:=m.vars) (λv hv=>by have:=(YM V hv).2;omega) m.vars.length;refine jtD hb s1 H1 jj9 V hle n1000 dc dc _ _ λO2 s2 H2 F2=>?_;have w2:(G0r.addI (qZ m.vars m.vars.length)).WF:=jj9.addI (by show 1+_<=_;omega);obtain⟨C2,o2⟩:=F2.cl C1 o1;have R2:FN (G0r.addI (qZ m.vars m.vars.length)) (opF m.vars 1 m.vars.length) (opN m.vars 1 m.vars.length):=juP V (by rw[Gr.addI_len];exact η _);have gl2:(G0r.addI (qZ m.vars m.vars.length)).parts.length=1+qZ m.vars m.vars.length:=Gr.addI_len ..;have il2:(G0r.addI (qZ m.vars m.vars.length)).ins.length=qZ m.vars m.vars.length:=by simp[Gr.addI,G0r]
   have hgp:G0r.parts.length=1:=rfl;rw[hgp];have E19:=K0 hb m om V hle;have r2:rats s2.h 1 0 3=mdE m:=C2.rats0 rfl;have hFl:=Wo m.vars 1 m.vars.length
   (have zz:=C2.r;repeat' first|apply jb<;>intro _|simp(disch:=try exact j9) only[r2,jrr,hFl,E19,C2.q,C2.r,r8,γ,ε])
   refine jU m.vars.length (λk L s=>s=s2/\Has L 1 (svV sv)/\Has L 5 (.ptr 1 0)/\Has L 7 (.ptr g 0)/\Has L 8 (frV (opF m.vars 1 m.vars.length))/\Has L 64 (.lst m.vars.length (wsL m.vars))) ?_ (λk L s hk hI hi hn=>?_) (λL s hI=>?_)
   .refine⟨rfl,?_,?_,?_,?_,?_⟩<;>exact hsX
   .obtain⟨rfl,i1,i5,i7,i8,i64⟩:=hI;have hkF:k<(opF m.vars 1 m.vars.length).length:=om
    have eI:=jrv hkF;have eF:=λ(st:St) (K:AV->St->Prop)=>G6 (st:=st) (K:=K) hkF;have eW:=λ(st:St) (K:AV->St->Prop)=>jlH (st:=st) (K:=K) hk;have hlk:(opF m.vars 1 m.vars.length)[k].length=wdV m.vars[k]:=by simp[opF,Ve,hk]
    have hwl:=US m.vars;repeat' first|apply jb<;>intro _|simp(disch:=try exact dzG) only[ja i8,ja i64,ja hi,ja hn,eI,eF,eW,hlk,r8,γ,ε]
    refine⟨⟨?_,?_,?_,?_,?_⟩,?_,?_⟩<;>(simp(disch:=decide) only[je];assumption)
   obtain⟨rfl,i1,i5,i7,i8,i64⟩:=hI;have E20:=jtO hb m om V hle sv om;have tl:=VA m.vars sv m.vars.length;have tf:=jjI V sv;have tid:=λh=>jpm (sv:=sv) V h;have E21:=jpO hb m om V hle _ tl;have bl:=uX (vars:=m.vars) (Jq m.vars sv m.vars.length) _ (η _);have opv:=λ(G:Gr) (w:G.WF) (hi:G.ins=(G0r.addI (qZ m.vars m.vars.length)).ins)=>joP w V tl hi tf;have E17:=jn7 hb (Jq m.vars sv m.vars.length) (Jq m.vars sv m.vars.length) om om;rw[decide_eq_true rfl] at E17;have E10:=UO hb m (Jq m.vars sv m.vars.length) om om;have E23:=jmQ hb m om (Jq m.vars sv m.vars.length) om;generalize Jq m.vars sv m.vars.length=t at *;generalize Jr m.vars t m.vars.length=vals at *;have hpa:pa (.lst vals.length (bA vals))=true:=rfl
   (have zz:=C2.r;repeat' first|apply jb<;>intro _|simp(disch:=try exact j9) only[ja i1,ja i5,ja i7,ja i8,r2,E20,E21,C2.q,C2.r,r8,γ,ε])
   refine jfz hb vals (x:=.lst vals.length (bA vals)) (λh=>jeY hpa) om om om R2 _ H2 w2 _ _ λs3 A3=>?_;rw[opv _ w2 rfl];have H3:=H2.apl A3 (η _);have C3:Cl s3 1 (mdE m):=A3.cl 1 _ C2.lt C2;have r3:rats s3.h 1 0 3=mdE m:=C3.rats0 rfl;have hN:=ke m.vars 1 m.vars.length
   (have zz:=C3.r;repeat' first|apply jb<;>intro _|simp(disch:=try exact j9) only[ja i5,ja i7,ja i8,r3,C3.q,C3.r,r8,γ,ε])
   refine jmP hb s3 H3 w2 R2 hN V om _ _ λe1 O4 G4 s4 A4 I4=>?_;obtain⟨C4,o4⟩:=A4.fr.cl C3 o2;have r4:rats s4.h 1 0 3=mdE m:=C4.rats0 rfl;have len4:=A4.len
   (have zz:=C4.r;repeat' first|apply jb<;>intro _|simp(disch:=try exact j9) only[ja i5,ja i7,ja i8,r4,C4.q,C4.r,r8,γ,ε])
   refine jpJ hb s4 A4.gm A4.wf (R2.up A4.le) hN V (λv hv hb=>by have:=V v hv;have:=(vok v hv).2 hb;omega) om _ _ λe2 O5 G5 s5 A5 I5=>?_;obtain⟨C5,o5⟩:=A5.fr.cl C4 o4;have r5:rats s5.h 1 0 3=mdE m:=C5.rats0 rfl;have len5:=A5.len;have ins5:=A5.ins.trans A4.ins;have q5:=opv G5 A5.wf ins5;have b1:=(I4.up A5.le).2 _ (A5.wf.vals_ok vals);have b2:=I5.2 _ (A5.wf.vals_ok vals);have w5:=A5.wf;have H5:=A5.gm;have hs5:=juK (vars:=m.vars) q5;dsimp only at b1 b2;rw[q5] at b1 b2;rw[hs5] at b2;have S1:=λK Kp=>(jcw hb w5 vals (I4.up A5.le).1 om (by rw[ins5];omega)).xb (st:=s5) (aZ':=[.ptr g 0,.lst vals.length (bA vals),eu e1,.int .i64 0]) (qw H5.lend (yh hpa (yh rfl (yh rfl Qo)))) (λst=>hb.no 15 dc _ _) K Kp;have S2:=λK Kp=>(jcw hb w5 vals I5.1 om (by rw[ins5];omega)).xb (st:=s5) (aZ':=[.ptr g 0,.lst vals.length (bA vals),eu e2,.int .i64 0]) (qw H5.lend (yh hpa (yh rfl (yh rfl Qo)))) (λst=>hb.no 15 dc _ _) K Kp;rw[b1] at S1;rw[b2] at S2;have ER:=UO hb m sv om om;cases hr:yL m.vars sv with
   |false=>
    rw[hr] at ER;have E12:=jwW hb m om sv om hr
    (have zz:=C5.r;repeat' first|apply jb<;>intro _|simp(disch:=try exact j9) only[ja i1,ja i5,ja i7,ja i8,r5,S1,S2,wG,E17,E10,E23,jgq,jod,E12,ER,C5.q,C5.r,r8,γ,ε])
    all_goals rfl
   |true=>
    rw[hr] at ER;have E12:=jwV hb m om sv V hr;have hsv:=(zU.1 hr).1;have ets:=tid hr;have RO:FN G5 (ofF m.vars sv m.vars.length) (sv.map λx _=>x):=juS w5 V hr;have cm:∀ v:Nat->Bool,(sv.map λ(x:Int) (_:Nat->Bool)=>x).map (λn=>n v)=sv:=λv=>by rw[Qbc];exact List.map_id' _
    have EQ:=jn7 hb sv sv om om;rw[decide_eq_true rfl] at EQ
    (have zz:=C5.r;repeat' first|apply jb<;>intro _|simp(disch:=try exact j9) only[ja i1,ja i5,ja i7,ja i8,r5,S1,S2,wG,E17,E10,E23,jgq,jod,E12,ER,C5.q,C5.r,r8,γ,ε])
    refine jfz hb [] (x:=.nils) (λh=>rfl) dc (by rw[ins5];omega) (by rw[XA];omega) RO s5 H5 w5 _ _ λs6 A6=>?_;rw[cm];have H6:=H5.apl A6 (η _);repeat' first|apply jb<;>intro _|simp(disch:=try exact dzG) only[ja i7,ja i8,r8,γ,ε]
    refine jpw hb s6 H6 w5 RO (R2.up (A4.le.trans A5.le)) (by rw[Qac,hsv]) hN (juR V hr) om _ _ λe3 O7 G7 s7 A7 I7=>?_;have b3:=I7.2 _ (A7.wf.vals_ok vals);dsimp only at b3;rw[cm,opv G7 A7.wf (A7.ins.trans ins5),ets,decide_eq_true rfl] at b3;have hl7:=A7.ins.trans ins5;have S3:=λK Kp=>(jcw hb A7.wf vals I7.1 om (by rw[hl7];omega)).xb (st:=s7) (aZ':=[.ptr g 0,.lst vals.length (bA vals),eu e3,.int .i64 0]) (qw A7.gm.lend (yh hpa (yh rfl (yh rfl Qo)))) (λst=>hb.no 15 dc _ _) K Kp;rw[b3] at S3;repeat' first|apply jb<;>intro _|simp(disch:=try exact dzG) only[ja i1,ja i7,S3,wG,EQ,r8,γ,ε]
    all_goals rfl
end Go.Sy
end
noncomputable section
namespace Go.Proofs
open Go.Shelf
def Tryz.laysC174_ren:Go.Shelf.Ren:=⟨λ|174=>160|247=>181|245=>182|287=>195|279=>196|280=>197|281=>198|282=>199|321=>203|322=>204|316=>205|171=>207|205=>206|243=>208|246=>209|283=>210|284=>211|285=>212|286=>213|129=>215|317=>214|318=>216|319=>217|320=>218|337=>219|338=>220|n=>n,λ|9=>9|3=>3|2=>2|75=>254|85=>255|4=>4|167=>284|5=>5|53=>130|175=>285|46=>287|168=>288|37=>276|0=>0|210=>297|21=>21|127=>299|145=>302|143=>300|171=>304|173=>307|212=>310|51=>43|20=>20|213=>311|232=>314|233=>315|80=>316|n=>n,λ|15=>0|16=>1|17=>2|18=>3|19=>4|n=>n⟩
theorem Tryz.laysC174:Go.Proofs.LaysC.n174 δ Tryz.laysC174_ren:={
 mixed:=Qa0
 f129:=Tryz.func215.trans (congrArg some Qa0)
 f171:=Tryz.func207.trans (congrArg some Qa0)
 f174:=Tryz.func160.trans (congrArg some Qa0)
 f205:=Tryz.func206.trans (congrArg some Qa0)
 f243:=Tryz.func208.trans (congrArg some Qa0)
 f245:=Tryz.func182.trans (congrArg some Qa0)
 f246:=Tryz.func209.trans (congrArg some Qa0)
 f247:=Tryz.func181.trans (congrArg some Qa0)
 f279:=Tryz.func196.trans (congrArg some Qa0)
 f280:=Tryz.func197.trans (congrArg some Qa0)
 f281:=Tryz.func198.trans (congrArg some Qa0)
 f282:=Tryz.func199.trans (congrArg some Qa0)
 f283:=Tryz.func210.trans (congrArg some Qa0)
 f284:=Tryz.func211.trans (congrArg some Qa0)
 f285:=Tryz.func212.trans (congrArg some Qa0)
 f286:=Tryz.func213.trans (congrArg some Qa0)
 f287:=Tryz.func195.trans (congrArg some Qa0)
 f316:=Tryz.func205.trans (congrArg some Qa0)
 f317:=Tryz.func214.trans (congrArg some Qa0)
 f318:=Tryz.func216.trans (congrArg some Qa0)
 f319:=Tryz.func217.trans (congrArg some Qa0)
 f320:=Tryz.func218.trans (congrArg some Qa0)
 f321:=Tryz.func203.trans (congrArg some Qa0)
 f322:=Tryz.func204.trans (congrArg some Qa0)
 f337:=Tryz.func219.trans (congrArg some Qa0)
 f338:=Tryz.func220.trans (congrArg some Qa0)
 t0:=Tryz.underlying0
 a0:=Tryz.isAgg0
 z0:=Tryz.sizeOf0
 v0:=Tryz.zeroValue0
 t2:=Tryz.underlying2
 a2:=Tryz.isAgg2
 z2:=Tryz.sizeOf2
 v2:=Tryz.zeroValue2
 t3:=Tryz.underlying3
 a3:=Tryz.isAgg3
 z3:=Tryz.sizeOf3
 v3:=Tryz.zeroValue3
 t4:=Tryz.underlying4
 a4:=Tryz.isAgg4
 z4:=Tryz.sizeOf4
 v4:=Tryz.zeroValue4
 t5:=Tryz.underlying5
 a5:=Tryz.isAgg5
 z5:=Tryz.sizeOf5
 v5:=Tryz.zeroValue5
 t9:=Tryz.underlying9
 a9:=Tryz.isAgg9
 z9:=Tryz.sizeOf9
 v9:=Tryz.zeroValue9
 t20:=Tryz.underlying20
 a20:=Tryz.isAgg20
 z20:=Tryz.sizeOf20
 v20:=Tryz.zeroValue20
 t21:=Tryz.underlying21
 a21:=Tryz.isAgg21
 z21:=Tryz.sizeOf21
 v21:=Tryz.zeroValue21
 t37:=Tryz.underlying276
 a37:=Tryz.isAgg276
 z37:=Tryz.sizeOf276
 v37:=Tryz.zeroValue276
 t46:=Tryz.underlying287
 a46:=Tryz.isAgg287
 z46:=Tryz.sizeOf287
 v46:=Tryz.zeroValue287
 t51:=Tryz.underlying43
 a51:=Tryz.isAgg43
 z51:=Tryz.sizeOf43
 v51:=Tryz.zeroValue43
 t53:=Tryz.underlying130
 a53:=Tryz.isAgg130
 z53:=Tryz.sizeOf130
 v53:=Tryz.zeroValue130
 t75:=Tryz.underlying254
 a75:=Tryz.isAgg254
 z75:=Tryz.sizeOf254
 v75:=Tryz.zeroValue254
 t85:=Tryz.underlying255
 a85:=Tryz.isAgg255
 z85:=Tryz.sizeOf255
 v85:=Tryz.zeroValue255
 t127:=Tryz.underlying299
 a127:=Tryz.isAgg299
 z127:=Tryz.sizeOf299
 v127:=Tryz.zeroValue299
 t143:=Tryz.underlying300
 a143:=Tryz.isAgg300
 z143:=Tryz.sizeOf300
 v143:=Tryz.zeroValue300
 t145:=Tryz.underlying302
 a145:=Tryz.isAgg302
 z145:=Tryz.sizeOf302
 v145:=Tryz.zeroValue302
 t167:=Tryz.underlying284
 a167:=Tryz.isAgg284
 z167:=Tryz.sizeOf284
 v167:=Tryz.zeroValue284
 t168:=Tryz.underlying288
 a168:=Tryz.isAgg288
 z168:=Tryz.sizeOf288
 v168:=Tryz.zeroValue288
 t171:=Tryz.underlying304
 a171:=Tryz.isAgg304
 z171:=Tryz.sizeOf304
 v171:=Tryz.zeroValue304
 t173:=Tryz.underlying307
 a173:=Tryz.isAgg307
 z173:=Tryz.sizeOf307
 v173:=Tryz.zeroValue307
 t175:=Tryz.underlying285
 a175:=Tryz.isAgg285
 z175:=Tryz.sizeOf285
 v175:=Tryz.zeroValue285
 t210:=Tryz.underlying297
 a210:=Tryz.isAgg297
 z210:=Tryz.sizeOf297
 v210:=Tryz.zeroValue297
 t212:=Tryz.underlying310
 a212:=Tryz.isAgg310
 z212:=Tryz.sizeOf310
 v212:=Tryz.zeroValue310
 t213:=Tryz.underlying311
 a213:=Tryz.isAgg311
 z213:=Tryz.sizeOf311
 t232:=Tryz.underlying314
 a232:=Tryz.isAgg314
 z232:=Tryz.sizeOf314
 v232:=Tryz.zeroValue314
 t233:=Tryz.underlying315
 a233:=Tryz.isAgg315
 z233:=Tryz.sizeOf315
 v233:=Tryz.zeroValue315
 g15:=Qa0
 g16:=Qa0
 g17:=Qa0
 g18:=Qa0
 g19:=Qa0
 t80:=Tryz.underlying316
 a80:=Tryz.isAgg316
 z80:=Tryz.sizeOf316
 v80:=Tryz.zeroValue316
 i0:=Qa0
 i2:=Qa0
 i3:=Qa0
 i4:=Qa0
 i5:=Qa0
 i9:=Qa0
 i20:=Qa0
 i21:=Qa0
 i37:=Qa0
 i46:=Qa0
 i51:=Qa0
 i53:=Qa0
 i75:=Qa0
 i80:=Qa0
 i85:=Qa0
 i127:=Qa0
 i143:=Qa0
 i145:=Qa0
 i167:=Qa0
 i168:=Qa0
 i171:=Qa0
 i173:=Qa0
 i175:=Qa0
 i210:=Qa0
 i212:=Qa0
 i232:=Qa0
 i233:=Qa0
 m15:=Qa0
 m16:=Qa0
 m17:=Qa0
 m18:=Qa0
 m19:=Qa0
 c0:=Qa0
 c2:=Qa0
 c3:=Qa0
 c4:=Qa0
 c5:=Qa0
 c9:=Qa0
 c20:=Qa0
 c21:=Qa0
 c37:=Qa0
 c46:=Qa0
 c51:=Qa0
 c53:=Qa0
 c75:=Qa0
 c80:=Qa0
 c85:=Qa0
 c127:=Qa0
 c143:=Qa0
 c145:=Qa0
 c167:=Qa0
 c168:=Qa0
 c171:=Qa0
 c173:=Qa0
 c175:=Qa0
 c210:=Qa0
 c212:=Qa0
 c213:=Qa0
 c232:=Qa0
 c233:=by kernel_rfl }
open Go.RowKit in
theorem Tryz.strconv_ParseInt_10_at64_ok (s:ByteArray)(hmax:s.size<=9223372036854775806)(v:Int)(h:Lib.parseIntB 64 s.data.toList=.ok v)(w:World) :
 Calls δ 160 #[.string s,.int .i64 10,.int .i64 64] w λe w'=>e=.returned (.tuple #[.int .i64 v,.nilIface])/\(w'=w\/∃ t,w'=Lib.bytesWorld w 5 t):=Any.strconv_ParseInt_10_at64_ok Tryz.laysC174 s hmax v h w
open Go.RowKit in
theorem Tryz.strconv_ParseInt_10_at64_range (s:ByteArray)(hlim:s.size<=281474976710656)(h:Lib.parseIntB 64 s.data.toList=.range)(ev:Value)(w:World)(hv:w.cell? ⟨1,0,none⟩=some ev)(hev:ev=.nilIface\/∃ te pe,ev=.iface te pe) :
 Calls δ 160 #[.string s,.int .i64 10,.int .i64 64] w λe w'=>∃ N,e=.returned (.tuple #[.int .i64 (Lib.intSat 64 s.data.toList),.iface 288 (.pointer (some ⟨N,0,none⟩))])/\w.heap.size<=N/\w'.heap[N]? = some (.cells #[.string ⟨#[80,97,114,115,101,73,110,116]⟩,.string s,ev] 297 (0,0))/\Below w.heap.size w w':=Any.strconv_ParseInt_10_at64_range Tryz.laysC174 s hlim h ev w hv hev
end Go.Proofs
end
noncomputable section
set_option maxRecDepth 100000
namespace Go.Sy
open Go.Ev Go.Proofs
open Go.RowKit (Below)
variable {l:List UInt8}
theorem WU:okP δ=true:=Qa0
theorem gf:Tryz.prog.follows .mixedOrders=true:=Qa0
theorem juM:jiX (Gw δ 10000000 400 8 [] st0)=true:=Qa0
def HN (l:List UInt8):Prop:=∀ c∈l,48<=c.toNat/\c.toNat<=57
theorem jal:∀ (l:List UInt8) (acc:Nat),HN l->(acc+1) * 10 ^ l.length<=100000000->Lib.parseUintM 18446744073709551615 acc l=.ok ((l.map UInt8.toNat).foldl (λv c=>10 * v+(c - 48)) acc)
 |[],acc,_,_=>rfl
 |c :: r,acc,hd,h=>by
  have hc:=hd c hac;rw[τ,Nat.pow_succ] at h;have hp:1<=10 ^ r.length:=Nat.one_le_pow _ _ dc;have hacc:(acc+1) * 10<=100000000:=by
   have:(acc+1) * 10 * 1<=(acc+1) * 10 * 10 ^ r.length:=Nat.mul_le_mul_left _ hp;have e:(acc+1) * 10 * 10 ^ r.length=(acc+1) * (10 ^ r.length * 10):=by rw[Nat.mul_assoc,Nat.mul_comm 10]
   omega
  unfold Lib.parseUintM;rw[if_pos hc,if_neg om,if_neg om,jal r _ (λd hd'=>hd d (by simp[hd']))]
  .show _=Lib.NumEnd.ok ((r.map UInt8.toNat).foldl _ (10 * acc+(c.toNat - 48)));rw[Nat.mul_comm acc 10]
  .refine χ ?_ h;have e:(acc+1) * (10 ^ r.length * 10)=((acc+1) * 10) * 10 ^ r.length:=by rw[Nat.mul_comm (10 ^ r.length),Nat.mul_assoc]
   rw[e];exact QaA _ om
theorem VM:∀ (l:List UInt8) (acc:Nat),HN l->(∃ u,Lib.parseUintM 18446744073709551615 acc l=.ok u)\/Lib.parseUintM 18446744073709551615 acc l=.range
 |[],acc,_=>.inl ⟨acc,rfl⟩
 |c :: r,acc,hd=>by
  have hc:=hd c hac;unfold Lib.parseUintM;rw[if_pos hc];by_cases h1:1844674407370955162<=acc
  .rw[if_pos h1];exact .inr rfl
  .rw[if_neg h1];by_cases h2:18446744073709551615<acc * 10+(c.toNat - 48)
   .rw[if_pos h2];exact .inr rfl
   .rw[if_neg h2];exact VM r _ λd hd'=>hd d (by simp[hd'])
theorem jam (hne:l≠[])(hd:HN l):Lib.parseIntB 64 l=Lib.signlessC (2 ^ 63) (Lib.parseUintM 18446744073709551615 0 l):=by
 obtain⟨c,r,rfl⟩:=List.exists_cons_of_ne_nil hne;have hc:=hd c hac;rw[Lib.parseIntB_plain 64 c r om om];unfold Lib.parseUintB;rw[if_neg hac]
theorem jiF (hne:l≠[])(hd:HN l)(h7:l.length<=7):Lib.parseIntB 64 l=.ok (vH (l.map UInt8.toNat):Int):=by
 have hle:10 ^ l.length<=10 ^ 7:=Qbu dc h7;have e7:10 ^ 7=10000000:=dc
 rw[jam hne hd,jal l 0 hd om];have hv:=jop (s:=l.map UInt8.toNat) (n:=l.length) hac h7 (λc hc=>by
  obtain⟨b,hb,rfl⟩:=QaQ.1 hc;have:=hd b hb;unfold qf;simp;omega)
 show Lib.signlessC _ (.ok (vH (l.map UInt8.toNat)))=_;generalize vH (l.map UInt8.toNat)=v at hv;unfold Lib.signlessC;simp;omega
theorem jgt (hne:l≠[])(hd:HN l):(∃ v,Lib.parseIntB 64 l=.ok v)\/Lib.parseIntB 64 l=.range:=by
 rw[jam hne hd];rcases VM l 0 hd with ⟨u,h⟩|h
 .rw[h];unfold Lib.signlessC;by_cases hu:2 ^ 63<=u
  .right;simp only[if_pos hu]
  .left;exact⟨u,by simp only[if_neg hu]⟩
 .rw[h];exact .inr rfl
def jdy (s:Lc):Bool:=decide (s≠[]) && s.all qf
theorem jdx (s:Lc):jdy s=true↔WB s:=by
 unfold jdy WB;simp
def w8:qG:=λf args st=>match args with
 |[]=>if f=8 then .ok (.bool true) st else .no
 |[.str s,.int .i64 a,.int .i64 b]=>if f=160/\a=10/\b=64/\jdy s=true/\s.length<=281474976710656 then(if s.length<=7 then .ok (.tup [.int .i64 (vH s:Int),.nilif]) st else .ok (.tup [.bad,.bad]) st) else .no
 |_=>.no
theorem jpu (st:St):w8 8 [] st=.ok (.bool true) st:=rfl
def w9:Bs:=⟨w8,jcJ⟩
theorem jdQ:PI w9:=λs st hd hl=>by
 have e:w8 160 [.str s,.int .i64 10,.int .i64 64] st=if(160=160/\(10:Int)=10/\(64:Int)=64/\jdy s=true/\s.length<=281474976710656) then(if s.length<=7 then .ok (.tup [.int .i64 (vH s:Int),.nilif]) st else .ok (.tup [.bad,.bad]) st) else .no:=rfl
 simp only[show w9.run=w8 from rfl];rw[e,if_pos ⟨rfl,rfl,rfl,(jdx s).2 hd,hl⟩];exact⟨λh=>if_pos h,λh=>if_neg om⟩
theorem Kf (f:FuncId)(args:List AV)(st:St):w8 f args st=.no\/(f=8/\args=[])\/(f=160/\∃ s,args=[.str s,.int .i64 10,.int .i64 64]/\WB s/\s.length<=281474976710656):=by
 unfold w8;split
 .by_cases h:f=8
  .exact .inr (.inl ⟨h,rfl⟩)
  .exact .inl (if_neg h)
 .rename_i s a b;by_cases h:f=160/\a=10/\b=64/\jdy s=true/\s.length<=281474976710656
  .obtain⟨h1,rfl,rfl,h4,h5⟩:=h;exact .inr (.inr ⟨h1,s,rfl,(jdx s).1 h4,h5⟩)
  .exact .inl (if_neg h)
 .exact .inl rfl
theorem jmJ (f:FuncId)(args:List AV)(st:St)(h9:f≠8)(h31:f≠160):w8 f args st=.no:=by
 rcases Kf f args st with h|⟨h,_⟩|⟨h,_⟩
 .exact h
 .exact absurd h h9
 .exact absurd h h31
theorem YB {ι:Inj}{st:St}{w w':World}(hs:Sim ι st.h st.nx w)(b:Below w.heap.size w w'):Sim ι st.h st.nx w'/\Grew ι w ι w':=by
 have gr:Grew ι w ι w':=⟨b.os,b.tape,b.output,b.size,λk hk _=>b.block k hk,λb B S e=>.inl ⟨b,S,e⟩,λB vs h=>.inl h⟩;exact⟨⟨λc B S e=>by
  obtain⟨o,x,h1,h2,h3⟩:=hs.obj c B S e;exact⟨o,x,h1,(b.block B (hs.lt e)).trans h2,h3⟩,hs.gone,hs.inj,hs.born,hs.glob.grew gr⟩,gr⟩
theorem jmK:JH δ w9.run:=by
 intro f args st ι w vs hs hv;simp only[show w9.run=w8 from rfl];rcases Kf f args st with h|⟨rfl,rfl⟩|⟨rfl,s,rfl,hd,hl⟩
 .rw[h];trivial
 .rw[jpu];have hvs:vs = #[]:=by
   have:vs.toList=[]:=by simpa[VRs] using hv
   simpa using this
  subst hvs;have hb:Tryz.f8.body.isSome=true:=Qa0
  obtain⟨c,hc⟩:=Option.isSome_iff_exists.1 hb;refine⟨(vQ WU Tryz.func8 hc).2,Calls.mono (jlU WU (jfj gf) juM w ⟨⟨hs.glob.1.1,λb S e=>by cases e⟩,λB vs e=>by cases e⟩) λe w' ⟨he,hos,ht,ho,hsz,hk⟩=>⟨_,he,ι,Le.refl ι,?_,?_,?_,Cleanly.refl ι st⟩⟩
  .simp only[VR]
  .exact(YB hs ⟨hos,ht,ho,hsz,hk⟩).1
  .exact(YB hs ⟨hos,ht,ho,hsz,hk⟩).2
 .simp only[VRs,VR] at hv;obtain⟨v1,l1,e1,⟨bs,rfl,hbs⟩,v2,l2,rfl,rfl,v3,l3,rfl,rfl,rfl⟩:=hv;have hvs:vs = #[.string bs,.int .i64 10,.int .i64 64]:=by
   cases vs;simpa using e1
  subst hvs;have hlen:bs.data.toList.length=s.length:=by rw[<-hbs,Qac]
  have hsz:bs.size=s.length:=by rw[<-hlen,Qan];rfl
  have hne:bs.data.toList≠[]:=λh=>hd.1 (by rw[<-hbs,h];rfl);have hd8:HN bs.data.toList:=λc hc=>by
   have:=hd.2 c.toNat (by rw[<-hbs];exact QaQ.2 ⟨c,hc,rfl⟩);unfold qf at this;simp at this;omega
  have hent:Ev.Enters δ 160:=by
   have hb:Tryz.f160.body.isSome=true:=Qa0
   obtain⟨c,hc⟩:=Option.isSome_iff_exists.1 hb;exact(vQ WU Tryz.func160 hc).2
  have okc:∀ v,Lib.parseIntB 64 bs.data.toList=.ok v->Calls δ 160 #[.string bs,.int .i64 10,.int .i64 64] w λe w'=>e=.returned (.tuple #[.int .i64 v,.nilIface])/\Below w.heap.size w w':=λv h=>
   (Tryz.strconv_ParseInt_10_at64_ok bs om v h w).mono λe w' ⟨he,hw⟩=>⟨he,by
    rcases hw with rfl|⟨t,rfl⟩
    .exact⟨rfl,rfl,rfl,η _,λ_ _=>rfl⟩
    .exact Lib.bytesWorld_below w 5 t⟩
  have hP:=jdQ s st hd hl;simp only[show w9.run=w8 from rfl] at hP;by_cases h7:s.length<=7
  .rw[hP.1 h7];refine⟨hent,(okc _ (jiF hne hd8 om)).mono λe w' ⟨he,hb⟩=>⟨_,he,ι,Le.refl ι,?_,(YB hs hb).1,(YB hs hb).2,Cleanly.refl ι st⟩⟩;rw[hbs];simp only[VR,VRs];exact⟨_,rfl,_,_,rfl,rfl,_,_,rfl,rfl,rfl⟩
  .rw[hP.2 om];refine⟨hent,?_⟩;have fin:∀ (x y:Value) (w':World),Below w.heap.size w w'->Jv ι w st st (.tup [.bad,.bad]) (.tuple #[x,y]) w':=λx y w' hb=>by
    refine⟨ι,Le.refl ι,?_,(YB hs hb).1,(YB hs hb).2,Cleanly.refl ι st⟩;simp only[VR,VRs];exact⟨_,rfl,_,_,rfl,trivial,_,_,rfl,trivial,rfl⟩
   rcases jgt hne hd8 with ⟨v,h⟩|h
   .exact(okc v h).mono λe w' ⟨he,hb⟩=>⟨_,he,fin _ _ w' hb⟩
   .obtain⟨te,pe,hg⟩:=hs.glob.1.1;exact(Tryz.strconv_ParseInt_10_at64_range bs om h _ w hg (.inr ⟨te,pe,rfl⟩)).mono λe w' ⟨N,he,_,_,hb⟩=>⟨_,he,fin _ _ w' hb⟩
end Go.Sy
end
noncomputable section
set_option maxRecDepth 100000
namespace Go.Sy
open Go.Ev Go.Proofs
variable {w:World}
theorem jok {ι:Inj}:∀ {cs:List AV} {v:Value},VRs ι cs v.cells.toList->2<=cs.length->VR ι (.agg cs) v
 |a :: b :: r,v,h,_=>by
  cases v;case agg c=>exact⟨c,rfl,h⟩
  all_goals
   exfalso;obtain⟨v1,l1,e1,_,v2,l2,e2,_⟩:=h;simp[Value.cells] at e1;rw[e2] at e1;simp at e1
 |[],v,h,h2=>by simp at h2
 |[a],v,h,h2=>by simp at h2
theorem arg_src {m:SrcT}{v:Value}(h:VRs (frW w) (srE m) v.cells.toList):VR (frW w) (.agg (srE m)) v:=jok h (by rw[ut];decide)
theorem base3_8 (st:St):w9.run 8 [] st=.ok (.bool true) st:=rfl
theorem base3_PI:PI w9:=jdQ
theorem base3_NB:NB w9:=⟨λf h args st=>jmJ f args st (by rintro rfl;simp[Ug] at h) (by rintro rfl;simp[Ug] at h),rfl⟩
theorem law_calls {f:FuncId}{xs:List AV}{vs:Array Value}(h:XB δ w9 f xs st0 (λv _=>v=.bool true) λ_ _=>False)(hg:∃ te pe,w.cell? ⟨1,0,none⟩=some (.iface te pe))(hv:VRs (frW w) xs vs.toList) :
  Calls δ f vs w λe w'=>e=.returned (.bool true)/\w'.os=w.os/\w'.tape=w.tape/\w'.output=w.output/\w.heap.size<=w'.heap.size/\∀ k,k<w.heap.size->w'.heap[k]? = w.heap[k]?:=by
 have h2:=CW.calls WU (jfj gf) jmK (K:=λv _=>v=.bool true) h.cb (joB hg) hv;refine Calls.mono h2 λe w' ⟨v,x,st',he,hK,ι',_,hv,_,hg,_⟩=>?_;rw[hK] at hv;simp only[VR] at hv;rw[hv] at he;exact⟨he,hg.os,hg.tape,hg.output,hg.size,λk hk=>hg.keep k hk (λb S e=>by cases e)⟩
theorem jfb:∀ xs:List {n:Int // (Lit.int .i64 n).wf=true},fl (jde .i64) xs=(xs.map (·.1)).map (AV.int .i64)
 |[]=>rfl
 |x :: r=>by
  have:=jfb r;simp only[fl,Qcm,ζ,jde,List.singleton_append] at this ⊢;rw[this]
theorem rd_sv {H:Type}(N:Nat):Reads H δ w (N+1) 27 1 (λs:List {n:Int // (Lit.int .i64 n).wf=true}=>[svV (s.map (·.1))]) (λs=>(s.map λ_=>1).sum+1):=by
 have h:Reads H δ w (N+1) 27 1 (λxs=>[.lst xs.length (fl (jde .i64) xs)]) (λxs=>(xs.map λ_=>1).sum+1):=Qv dc Tryz.underlying27 Qa0 (JC (N:=N) Tryz.underlying2 Qa0) (λx=>η _);have e:(λxs:List {n:Int // (Lit.int .i64 n).wf=true}=>[AV.lst xs.length (fl (jde .i64) xs)])=λs=>[svV (s.map (·.1))]:=funext λxs=>by rw[jfb];unfold svV;rw[Qac]
 rw[e] at h;exact h
theorem sum_ones {α:Type}:∀ s:List α,(s.map λ_=>1).sum=s.length
 |[]=>rfl
 |_ :: r=>by rw[ζ,List.sum_cons,sum_ones r,τ,QbB]
theorem arg_sv {s:Ld}{a:Option Addr}{len cap:Nat}(h:VRs (frW w) [svV s] (Value.slice a len cap).cells.toList):VR (frW w) (svV s) (.slice a len cap):=by
 obtain⟨v,l,e,h1,rfl⟩:=h;rw[show(Value.slice a len cap).cells.toList=[.slice a len cap] from rfl] at e;cases e;exact h1
end Go.Sy
end
