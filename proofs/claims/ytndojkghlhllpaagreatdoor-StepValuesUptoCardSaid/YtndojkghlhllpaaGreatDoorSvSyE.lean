/-
  Contracts: the code lowered, what it does told by rules, and the contracts of the functions that the law reaches.
-/
import Derived.Test.YtndojkghlhllpaaGreatDoorSvSyD
import Derived.Test.YtndojkghlhllpaaGreatDoorProg
import Derived.KernelRfl
set_option linter.unusedVariables false
set_option linter.unusedSimpArgs false
open Int renaming reduceToNat → Qaa, natCast_zero → Qam, zero_add → Qar, ofNat → Qbi, eq_ofNat_of_zero_le → Qbv, natCast_nonneg → Qcg, toNat_natCast → Qcw
open Nat renaming reduceAdd → Qab, reduceSub → Qac, reduceMul → Qad, reduceBEq → Qae, le_refl → Qao, ble → Qap, beq → Qat, le_trans → Qav, mul → Qaw, add → QaC, succ → QaE, zero_le → QaG, le_max_right → QaI, le_max_left → QaL, mul_le_mul_right → QaM, zero_add → QaP, lt_of_lt_of_le → QaQ, lt_or_ge → QaT, not_lt_zero → Qbg, sub → Qbh, sub_zero → Qbj, zero_mul → Qbq, succ_pos → Qbt, add_mul → Qbu, succ_mul → Qbw, lt_irrefl → QbB, le_of_eq → QbG, min_eq_left → QbM, mod_eq_of_lt → QbQ, succ_lt_succ → QbS, add_assoc → QbU, add_zero → Qci, add_comm → Qcj, ne_of_lt → Qcl, le_of_lt → Qct, lt_trichotomy → Qcz, le_succ_of_le → QcA
open Go.Proofs.Tryz renaming prog → Qaf
open List renaming getD_cons_zero → Qag, getD_cons_succ → Qah, map_cons → Qai, map_nil → Qaj, length_cons → Qak, length_append → Qal, length_nil → Qan, getElem?_eq_getElem → Qas, getD_eq_getElem?_getD → Qau, getElem_mem → Qax, cons_append → Qay, all_eq_true → Qaz, take_length → QaB, nil_append → QaF, length_take → QaH, getD → QaJ, range' → QaK, range → QaN, length_map → QaR, eq_nil_of_length_eq_zero → QaS, length_drop → QaU, mem_append → QaX, append_assoc → QaY, take_zero → QaZ, cons → Qba, all_cons → Qbb, append_nil → Qbk, all_append → Qbl, take_append_drop → Qbn, mem_map → Qbp, map_congr_left → Qbr, mem_cons → Qbs, getElem_cons_zero → Qbx, getElem_cons_drop → Qby, range'_succ → QbA, drop_zero → QbC, getElem_cons_succ → QbF, mem_range → QbI, mem_singleton → QbJ, map_map → QbL, mem_iff_getElem → QbN, map_append → QbO, length_pos_iff → QbP, getElem?_take → QbT, getElem?_append_right → QbV, getElem?_map → QbW, foldl_append → QbX, mem_of_mem_take → QbY, getElem?_append_left → QbZ, mem_cons_of_mem → Qca, drop_drop → Qcb, ext_getElem → Qcc, map_toArray → Qcd, getElem?_drop → Qcf, take_add_one → Qch, countP_singleton → Qck, drop_length → Qcn, take_succ_cons → Qcp, foldr_cons → Qcr, drop_eq_getElem_cons → Qcs, take_take → Qcv, flatMap_cons → Qcy
open Bool renaming and_eq_true → Qaq, or_eq_true → QaO, eq_iff_iff → QaW, false_eq_true → Qbd, not_eq_true' → Qbf, or_eq_false_iff → Qbo, true_eq_false → QbK
open Array renaming length_toList → QaA, getElem?_eq_some_iff → QaD, replicate → Qbe, getD_eq_getD_getElem? → QbD, getElem?_toList → QbH, toList_map → QbR, getElem?_setIfInBounds_ne → Qce, mem_toList_iff → Qcm, toList_append → Qco, getElem?_eq_getElem → Qcq
open Option renaming map_some → QaV, getD_some → Qbc, bind_some → Qbm, map_none → Qbz, map_eq_some_iff → QbE, isSome_iff_exists → Qcu
open Function renaming comp_def → Qcx
noncomputable section
set_option maxRecDepth 100000
namespace Go.Sy
open Go.Ev Go.Proofs
variable {base:Bs}
structure Kq (p mb lo:Nat)(s s':St):Prop where
 nx:s.nx<=s'.nx
 fr:s'.fr=s.fr
 get:∀ b,b<lo->b≠p->b≠mb->jx s'.h b=jx s.h b
section
variable {p mb lo:Nat} {s t u:St}
theorem Kq.refl:Kq p mb lo s s:=⟨Qao _,rfl,λ_ _ _ _=>rfl⟩
theorem Kq.trans (h:Kq p mb lo s t)(k:Kq p mb lo t u):Kq p mb lo s u:=⟨Qav h.nx k.nx,k.fr.trans h.fr,λb h1 h2 h3=>(k.get b h1 h2 h3).trans (h.get b h1 h2 h3)⟩
theorem Kq.nw (h:Kq p mb lo s t)(hl:lo<=t.nx)(ds:List AV):Kq p mb lo s (Go.Sy.nw t ds):=⟨QcA h.nx,h.fr,λb h1 h2 h3=>(Jx (by omega)).trans (h.get b h1 h2 h3)⟩
theorem Kq.wr (h:Kq p mb lo s t){c:Nat}(hc:c=p\/lo<=c)(o:Nat)(vs:List AV):Kq p mb lo s (Go.Sy.wr t c o vs):=⟨h.nx,h.fr,λb h1 h2 h3=>(Je (by omega)).trans (h.get b h1 h2 h3)⟩
theorem Kq.kl (h:Kq p mb lo s t){c:Nat}(hc:lo<=c):Kq p mb lo s (Go.Sy.kl c t):=⟨h.nx,h.fr,λb h1 h2 h3=>(vv (by omega)).trans (h.get b h1 h2 h3)⟩
theorem Kq.mp (h:Kq p mb lo s t)(es:List (AV×AV)):Kq p mb lo s (Go.Sy.mp t mb es):=⟨h.nx,h.fr,λb h1 h2 h3=>by rw[gn,if_neg h3];exact h.get b h1 h2 h3⟩
theorem Kq.aps (h:Kq p mb lo s t){hi n z:Nat}{v:AV}{ds:List AV}{u:St}(V:Lv lo hi u v n ds z)(hl:lo<=t.nx)(news:List AV):Kq p mb lo s (Go.Sy.aps v t news):=⟨by rw[jr];exact QcA h.nx,by rw[Wa];exact h.fr,λb h1 h2 h3=>(V.get t news b (.inl h1) (by omega)).trans (h.get b h1 h2 h3)⟩
theorem Kq.keep (h:Kq p mb lo s t)(k:Keep p t u)(hl:lo<=t.nx):Kq p mb lo s u:=⟨Qav h.nx k.nx,k.fr.trans h.fr,λb h1 h2 h3=>(k.get b (by omega) h2).trans (h.get b h1 h2 h3)⟩
theorem Kq.cl (h:Kq p mb lo s t){b:Nat}{cs:List AV}(C:Cl s b cs)(h1:b<lo)(h2:b≠p)(h3:b≠mb):Cl t b cs:=C.keep h.nx (h.get b h1 h2 h3)
theorem Kq.bk (h:Kq p mb lo s.bare t):Kq p mb lo s (bk s t):=⟨h.nx,rfl,h.get⟩
end
theorem Mp.nw {s:St}{b:Nat}{ts:List (List Nat)}(h:Mp s b ts)(ds:List AV):Mp (Go.Sy.nw s ds) b ts:=h.keep (Nat.le_succ _) (Jx (by have:=h.lt;omega))
theorem Mp.wr {s:St}{b:Nat}{ts:List (List Nat)}(h:Mp s b ts){c:Nat}(hc:b≠c)(o:Nat)(ds:List AV):Mp (Go.Sy.wr s c o ds) b ts:=h.keep (Qao _) (Je hc)
theorem W9 {s:St}{b c:Nat}{es:List (AV×AV)}{cs:List AV}(h:c≠b):Cl (mp s b es) c cs=Cl s c cs:=propext ⟨λC=>C.keep (QbG (jfv s b es)) (by rw[gn,if_neg h]),λC=>C.keep (Qao _) (by rw[gn,if_neg h])⟩
structure MS (p mb lo hi:Nat)(m:ModT)(ts:List (List Nat))(v1 v2 v3:AV)(s:St):Prop where
 cp:Cl s p [v1,v2,v3,.map mb,.bool false]
 mp:Mp s mb ts
 l1:Lv lo hi s v1 m.vars.length (fl vaE m.vars) 7
 l2:Lv lo hi s v2 m.enums.length (fl enE m.enums) 4
 l3:Lv lo hi s v3 m.moves.length (fl moE m.moves) 7
 d12:Df v1 v2
 d13:Df v1 v3
 d23:Df v2 v3
 hp:p<lo
 hm:mb<lo
 pm:p≠mb
 lo:lo<=hi
 hi:hi<=s.nx
def MX (p mb lo:Nat)(m:ModT)(ts:List (List Nat))(s:St):Prop:=∃ v1 v2 v3,MS p mb lo s.nx m ts v1 v2 v3 s
section
variable {p mb lo hi:Nat} {m:ModT} {ts us:List (List Nat)} {v1 v2 v3:AV} {s t:St}
theorem Lv.mp {n z:Nat}{v:AV}{cs:List AV}{es:List (AV×AV)}(h:Lv lo hi s v n cs z)(hm:mb<lo):Lv lo hi (Go.Sy.mp s mb es) v n cs z:=h.imp id λ⟨c,h1,h2,h3,h4,h5,h6⟩=>⟨c,h1,h2,h3,by rw[W9 (by omega)];exact h4,h5,h6⟩
theorem MS.nw (S:MS p mb lo hi m ts v1 v2 v3 s)(ds:List AV):MS p mb lo hi m ts v1 v2 v3 (Go.Sy.nw s ds):=by
 obtain⟨C,M,l1,l2,l3,d12,d13,d23,hp,hm,pm,h1,h2⟩:=S;exact⟨ckX,M.nw ds,ckX,ckX,ckX,d12,d13,d23,hp,hm,pm,h1,by rw[jg];omega⟩
theorem MS.wr (S:MS p mb lo hi m ts v1 v2 v3 s){c:Nat}(hc:hi<=c)(o:Nat)(ds:List AV):MS p mb lo hi m ts v1 v2 v3 (Go.Sy.wr s c o ds):=by
 obtain⟨C,M,l1,l2,l3,d12,d13,d23,hp,hm,pm,h1,h2⟩:=S;exact⟨ckX,M.wr (by omega) o ds,ckX,ckX,ckX,d12,d13,d23,hp,hm,pm,h1,by rw[jh];omega⟩
theorem MS.take (S:MS p mb lo hi m ts v1 v2 v3 s)(us:List (List Nat)):MS p mb lo hi m us v1 v2 v3 (Go.Sy.mp s mb (mpl us)):=by
 obtain⟨C,M,l1,l2,l3,d12,d13,d23,hp,hm,pm,h1,h2⟩:=S;exact⟨by rw[W9 pm];exact C,M.put,l1.mp hm,l2.mp hm,l3.mp hm,d12,d13,d23,hp,hm,pm,h1,h2⟩
theorem MS.keep (S:MS p mb lo hi m ts v1 v2 v3 s)(k:Keep p s t)(C':Cl t p [v1,v2,v3,.map mb,.bool false]):MS p mb lo hi m ts v1 v2 v3 t:=by
 obtain⟨C,M,l1,l2,l3,d12,d13,d23,hp,hm,pm,h1,h2⟩:=S;exact⟨C',M.keep k.nx (k.get mb M.lt (by omega)),k.lv l1 (.inl hp),k.lv l2 (.inl hp),k.lv l3 (.inl hp),d12,d13,d23,hp,hm,pm,h1,Qav h2 k.nx⟩
theorem MS.up (S:MS p mb lo hi m ts v1 v2 v3 s){hi':Nat}(h:hi<=hi')(h2:hi'<=s.nx):MS p mb lo hi' m ts v1 v2 v3 s:=by
 obtain⟨C,M,l1,l2,l3,d12,d13,d23,hp,hm,pm,h1,h3⟩:=S;exact⟨C,M,l1.up h,l2.up h,l3.up h,d12,d13,d23,hp,hm,pm,Qav h1 h,h2⟩
theorem MS.bare (S:MS p mb lo hi m ts v1 v2 v3 s):MS p mb lo hi m ts v1 v2 v3 s.bare:=by
 obtain⟨C,M,l1,l2,l3,d12,d13,d23,hp,hm,pm,h1,h2⟩:=S;exact⟨C.bar,⟨M.lt,M.get⟩,by rw[jG];exact l1,by rw[jG];exact l2,by rw[jG];exact l3,d12,d13,d23,hp,hm,pm,h1,h2⟩
theorem MS.ofbk {u:St}(S:MS p mb lo hi m ts v1 v2 v3 s):MS p mb lo hi m ts v1 v2 v3 (bk u s):=by
 obtain⟨C,M,l1,l2,l3,d12,d13,d23,hp,hm,pm,h1,h2⟩:=S;have e:∀ b cs,Cl s b cs->Cl (bk u s) b cs:=λb cs h=>⟨h.lt,h.row,h.len,h.cell⟩;have el:∀ v n cs z,Lv lo hi s v n cs z->Lv lo hi (bk u s) v n cs z:=λv n cs z h=>h.imp id λ⟨c,h1,h2,h3,h4,h5,h6⟩=>⟨c,h1,h2,h3,e _ _ h4,h5,h6⟩;exact⟨e _ _ C,⟨M.lt,M.get⟩,el _ _ _ _ l1,el _ _ _ _ l2,el _ _ _ _ l3,d12,d13,d23,hp,hm,pm,h1,h2⟩
theorem MS.enum (S:MS p mb lo hi m ts v1 v2 v3 s)(e:EnumT):MS p mb lo (s.nx+1) { m with enums:=m.enums ++ [e] } ts v1 (apv 4 v2 s) v3 (Go.Sy.wr (Go.Sy.aps v2 s (enE e)) p 1 [apv 4 v2 s]):=by
 obtain⟨C,M,l1,l2,l3,d12,d13,d23,hp,hm,pm,h1,h2⟩:=S;have h4:=C.lt;have hn:(Go.Sy.wr (Go.Sy.aps v2 s (enE e)) p 1 [apv 4 v2 s]).nx=s.nx+1:=by rw[jh,jr]
 refine⟨?_,?_,?_,?_,?_,(Df.put l1 h2).2,d13,(Df.put l3 h2).1,hp,hm,pm,by omega,by rw[hn];exact Qao _⟩
 ·exact(cast (l2.cl s (enE e) _ p (.inl hp) h4).symm C:Cl (Go.Sy.aps v2 s (enE e)) p _).wr 1 [apv 4 v2 s]
 ·exact M.keep (by rw[hn];omega) (by rw[Je (λh=>pm h.symm)];exact l2.get s (enE e) mb (.inl hm) M.lt)
 ·rw[jz (.inl hp)];exact(l1.apsD (Df.symm d12)).up (by omega)
 ·rw[jz (.inl hp),Qal,Qd,JG];exact l2.put (Jq e) (by omega) rfl
 ·rw[jz (.inl hp)];exact(l3.apsD d23).up (by omega)
end
def KM (p mb lo:Nat)(st:St)(r:KR (ModT×List (List Nat)))(K Kp:AV->St->Prop):Prop:=match r with
 |.ok y=>∀ s',Kq p mb lo st s'->MX p mb lo y.1 y.2 s'->K (.tup []) s'
 |.er c l k=>∀ s',Kq p mb lo st s'->Kp (kf c l k) s'
def Xp (ts:List (List Nat))(nm:List Nat)(l c:Int):KR (List (List Nat)):=if nm∈ts then .er 162 l c else .ok (ts ++ [nm])
def zj (l c:Int):List (List Nat)->List (List Nat)->KR (List (List Nat))
 |ts,[]=>.ok ts
 |ts,n :: ns=>match Xp ts n l c with
  |.er a b d=>.er a b d
  |.ok ts=>zj l c ts ns
def wE (m:ModT)(ts:List (List Nat))(e:EnumT):KR (ModT×List (List Nat)):=match zj e.line e.col ts (e.name :: e.vals) with
 |.er a b d=>.er a b d
 |.ok ts=>.ok ({ m with enums:=m.enums ++ [e] },ts)
theorem Wv {l c:Int}:∀ {xs ys:List (List Nat)} {ts:List (List Nat)},zj l c ts (xs ++ ys)=match zj l c ts xs with | .er a b d=>.er a b d | .ok us=>zj l c us ys
 |[],ys,ts=>rfl
 |x :: xs,ys,ts=>by
  simp only[Qay,zj];cases Xp ts x l c with
  |er a b d=>rfl
  |ok us=>exact Wv
set_option maxHeartbeats 4000000 in
theorem jqC (hb:NB base)(hcl:∀ vs:List (List Nat),0<vs.length->vs.length<=1000000->Tot base 91 [.lst vs.length (vs.map .str)] (.lst vs.length (vs.map .str))){p mb lo:Nat}{m:ModT}{ts:List (List Nat)}{st:St}(e:EnumT)(hv:0<e.vals.length)(hv2:e.vals.length<=1000000)(hE:m.enums.length<=1000000)(H:MX p mb lo m ts st)(K Kp:AV->St->Prop)(hK:KM p mb lo st (wE m ts e) K Kp):XB Qaf base 68 [.ptr p 0,.agg (enE e)] st K Kp:=by
 obtain⟨v1,v2,v3,S⟩:=H;obtain⟨C,M,l1,l2,l3,d12,d13,d23,hp,hm,pm,lo0,hi0⟩:=id S;refine Jv x61 (by rfl) (hb.at0 68 (by decide) (by decide) _ _) ?_;simp only[y61,ju,Qai,Qaj,Qag,Qah];rw[(by unfold z61;simp only[qq];rfl:z61=_)];have q0:Kq p mb lo st.bare st.bare:=Kq.refl;have hnx:st.bare.nx=st.nx:=rfl;have S0:=S.bare.nw (enE e);have q1:=q0.nw lo0 (enE e);have Cb:Cl (Go.Sy.nw st.bare (enE e)) st.nx (enE e):=Cl.new st.bare (enE e);unfold wE at hK;repeat'(first|apply jc<;>intro _|simp(disch:=first|exact dzG|fail) only[je,jj,ji,jd,jm,jn,jp,jq,jo,rzZ,Qab,Qac,Qad,Qaa,Qae])
 refine Ko hb S0.cp S0.mp _ _ _ _ _ ?_;by_cases h:e.name∈ts
 ·rw[if_pos h];have e1:zj e.line e.col ts (e.name :: e.vals)=.er 162 e.line e.col:=by simp only[zj,Xp,if_pos h]
  rw[e1] at hK;exact hK _ q1.bk
 ·rw[if_neg h];have e1:zj e.line e.col ts (e.name :: e.vals)=zj e.line e.col (ts ++ [e.name]) e.vals:=by simp only[zj,Xp,if_neg h]
  rw[e1] at hK
  replace S0:=S0.take (ts ++ [e.name])
  replace q1:=q1.mp (mpl (ts ++ [e.name]))
  have Cb:Cl (Go.Sy.mp (Go.Sy.nw st.bare (enE e)) mb (mpl (ts ++ [e.name]))) st.nx (enE e):=by rw[W9 (by omega)];exact Cb
  have hn1:(Go.Sy.mp (Go.Sy.nw st.bare (enE e)) mb (mpl (ts ++ [e.name]))).nx=st.nx+1:=rfl;generalize Go.Sy.mp (Go.Sy.nw st.bare (enE e)) mb (mpl (ts ++ [e.name]))=s1 at *
  (have zz:=@Cb.r;(repeat'(first|apply jc<;>intro _|simp(disch:=first|exact jO|fail) only[Cb.q,Cb.r,je,jj,ji,jd,jm,jn,jp,jq,jo,rzZ,Qab,Qac,Qad,Qaa,Qae]));all_goals clear zz)
  refine qp e.vals.length (λk L s=>∃ us,zj e.line e.col (ts ++ [e.name]) (e.vals.take k)=.ok us/\MS p mb lo st.nx m us v1 v2 v3 s/\Kq p mb lo st.bare s/\st.nx+1<=s.nx/\Cl s st.nx (enE e)/\Has L 0 (.ptr p 0)/\Has L 3 (.ptr st.nx 0)/\Has L 15 (.lst e.vals.length (e.vals.map .str))) (by first|assumption|omega) (by decide) (by simp(disch:=decide) only[jf,jb]) (by simp(disch:=decide) only[jf,jb]) ?_ (λk L s v h=>(by obtain⟨us,h1,h2,h3,h4,h5,h6,h7,h8⟩:=h;refine⟨us,h1,h2,h3,h4,h5,?_,?_,?_⟩<;>simp(disch:=decide) only[jb]<;>assumption)) (λk L s v h=>(by obtain⟨us,h1,h2,h3,h4,h5,h6,h7,h8⟩:=h;refine⟨us,h1,h2,h3,h4,h5,?_,?_,?_⟩<;>simp(disch:=decide) only[jb]<;>assumption)) (λk L s hk hI hi hn=>?_) (λL s hI=>?_)
  ·refine⟨_,by rw[QaZ,zj],S0,q1,by omega,Cb,?_,?_,?_⟩<;>simp(disch:=decide) only[jb,jf]
  ·obtain⟨us,h1,S1,q1,hnn,Cb,i0,i3,i15⟩:=hI;have tk:e.vals.take (k+1)=e.vals.take k ++ [e.vals[k]]:=yO hk
   (have zz:=@Cb.r;(repeat'(first|apply jc<;>intro _|simp(disch:=first|exact jO|fail) only[ja i0,ja i3,ja i15,ja hi,ja hn,jbx hk,Cb.q,Cb.r,je,jj,ji,jd,jm,jn,jp,jq,jo,rzZ,Qab,Qac,Qad,Qaa,Qae]));all_goals clear zz)
   refine Ko hb S1.cp S1.mp _ _ _ _ _ ?_;by_cases h:e.vals[k]∈us
   ·rw[if_pos h];have e2:zj e.line e.col (ts ++ [e.name]) e.vals=.er 162 e.line e.col:=by
     have e3:e.vals=e.vals.take k ++ (e.vals[k] :: e.vals.drop (k+1)):=by rw[Qby,Qbn]
     rw[e3,Wv,h1];simp only[zj,Xp,if_pos h]
    rw[e2] at hK;exact hK _ q1.bk
   ·rw[if_neg h];have e2:zj e.line e.col (ts ++ [e.name]) (e.vals.take (k+1))=.ok (us ++ [e.vals[k]]):=by
     rw[tk,Wv,h1];simp only[zj,Xp,if_neg h]
    repeat'(first|apply jc<;>intro _|simp(disch:=first|exact dzG|fail) only[je,jj,ji,jd,jm,jn,jp,jq,jo,rzZ,Qab,Qac,Qad,Qaa,Qae])
    refine⟨⟨_,e2,S1.take _,q1.mp _,by rw[jfv];exact hnn,by rw[W9 (by omega)];exact Cb,?_,?_,?_⟩,?_,?_⟩<;>simp(disch:=decide) only[jb]<;>assumption
  ·obtain⟨us,h1,S1,q1,hnn,Cb,i0,i3,i15⟩:=hI;rw[QaB] at h1;rw[h1] at hK;have T:=λ(h:0<e.vals.length)=>hcl e.vals h hv2;have Cp:=S1.cp;have V2:=S1.l2;have ve2:=V2.eqs;have Ap:=λst' bv xc xx K h hv=>@J5 lo st.nx m.enums.length 4 st' v2 (fl enE m.enums) K 56 bv xc xx h (by decide) (by omega) (by omega) hv;have hqp:st.nx≠p:=by omega
   have S2:=(S1.nw (enE e)).enum e;have S2:=(S2.up (by(first|omega|(simp only[jg,jh,jt,jr,jl];first|done|omega))) (Qao _)).ofbk (u:=st);have q2:=(((q1.nw (by omega) (enE e)).aps V2 (by(first|omega|(simp only[jg,jh,jt,jr,jl];first|done|omega))) (enE e)).wr (.inl rfl) 1 [apv 4 v2 (Go.Sy.nw s (enE e))]).bk;have g0:rat s.h st.nx 0=.str e.name:=(Cb.cell 0 (by rw[Jq];decide)).trans (by rw[W7];rfl);have g2:rat s.h st.nx 2=.int .i64 e.line:=(Cb.cell 2 (by rw[Jq];decide)).trans (by rw[W7];rfl);have g3:rat s.h st.nx 3=.int .i64 e.col:=(Cb.cell 3 (by rw[Jq];decide)).trans (by rw[W7];rfl);have gp:rat s.h p 1=v2:=Cp.cell 1 (by simp only[Qak,Qan];omega);have ln:qr s.h st.nx=4:=by rw[Cb.len,Jq]
   (have zz:=aI V2.ln (aI V2.rts (aI @jz (aI @jE (aI @jJ (aI @V2 (aI @jA (aI @jH (aI @jK (aI @Cb.r @Cp.r)))))))));(repeat'(first|apply jc<;>intro _|simp(disch:=first|exact jO|fail) only[ja i0,ja i3,T hv,Ap,Gj,sm9,Gi,sm3,ve2,V2.at,jA,Cb.q,Cp.q,V2.ln,V2.rts,jz,jE,jJ,V2,jA,jH,jK,Cb.r,Cp.r,je,jj,ji,jd,jm,jn,jp,jq,jo,rzZ,Qab,Qac,Qad,Qaa,Qae]));all_goals clear zz)
   have a9:=(sm9 (by omega) g0 rfl).mpr trivial;have a2:=(sm3 (by omega) g2 rfl).mpr trivial;have a3:=(sm3 (by omega) g3 rfl).mpr trivial;have a23:=(Gj (by rw[Cp.len];simp only[Qak,Qan];omega) gp ve2).mpr trivial;repeat' apply aI
   all_goals first|exact a9|exact a23|exact a2|exact a3|exact hK _ q2 ⟨_,_,_,S2⟩
mutual
def JU:Ex->Option Ex
 |.mk op num name ks l c=>if op=4 then some (.mk op num name ks l c) else zP ks
def zP:List Ex->Option Ex
 |[]=>none
 |x :: xs=>match JU x with
  |some y=>some y
  |none=>zP xs
end
theorem uk (x:Ex):JU x=if x.op=4 then some x else zP x.kids:=by cases x;rw[JU];rfl
theorem uJ:∀ {xs ys:List Ex},zP (xs ++ ys)=match zP xs with|some y=>some y|none=>zP ys
 |[],ys=>rfl
 |x :: xs,ys=>by
  simp only[Qay,zP];cases JU x with
  |some y=>rfl
  |none=>exact uJ
def Jj (x:Ex):Ex×Bool:=match JU x with
 |some y=>(y,true)
 |none=>(x,false)
theorem G0.exb {s:St}{a:List AV}{b:Bool}{u:AV}(h:u=.tup [.agg a,.bool b])(ha:a.all pc=true):G0 u (.tup [.agg a,.bool b]) s:=by
 subst h;exact FzD.tup (.cons (.agg (.pc ha)) (.cons (.pc rfl) .nil))
set_option maxHeartbeats 4000000 in
theorem jnF (hb:NB base):∀ x:Ex,Z9 x=true->Tot base 95 [.agg (eE x)] (.tup [.agg (eE (Jj x).1),.bool (Jj x).2]):=by
 refine Ex.indk λx ih hw=>?_;have hw':x.kids.length<=1000000/\YK x.kids=true:=by cases x;rw[Z9,Qaq,decide_eq_true_eq] at hw;exact hw
 refine hb.tot ?_ (by first|rfl|simp[pa,pc,qO,Q3,JV,Jy,YM,wh,wt,QY,YX]) rfl;refine jF js4 (by rfl) (hb.pur 95 1 (by decide)) ?_;simp only[joX,ju,Qai,Qaj,Qag,Qah];rw[(by unfold jj8;simp only[qq];rfl:jj8=_)];repeat'(first|apply jc<;>intro _|simp(disch:=first|exact dzG|fail) only[je,jj,ji,jd,jm,jn,jp,jq,jo,rzZ,Qab,Qac,Qad,Qaa,Qae])
 ·rename_i h;have e:Jj x=(x,true):=by unfold Jj;rw[uk,if_pos h]
  rw[e];exact G0.exb rfl (qO x)
 rename_i h;have e0:JU x=zP x.kids:=by rw[uk,if_neg h]
 refine qp x.kids.length (λk L s=>zP (x.kids.take k)=none/\2<=s.nx/\Cl s 0 (eE x)/\Cl s 1 z6/\Has L 1 (.ptr 0 0)/\Has L 2 (.ptr 1 0)/\Has L 13 (.lst x.kids.length (fl eE x.kids))) (by first|assumption|omega) (by decide) (by simp(disch:=decide) only[jf,jb]) (by simp(disch:=decide) only[jf,jb]) ?_ (λk L s v h=>(by obtain⟨h1,h2,h3,h4,h5,h6,h7⟩:=h;refine⟨h1,h2,h3,h4,?_,?_,?_⟩<;>simp(disch:=decide) only[jb]<;>assumption)) (λk L s v h=>(by obtain⟨h1,h2,h3,h4,h5,h6,h7⟩:=h;refine⟨h1,h2,h3,h4,?_,?_,?_⟩<;>simp(disch:=decide) only[jb]<;>assumption)) (λk L s hk hI hi hn=>?_) (λL s hI=>?_)
 ·refine⟨by rw[QaZ,zP],by(first|omega|(simp only[jg,jh,jt,jr,jl];first|done|omega)),?_,Cl.new _ _,?_,?_,?_⟩
  ·have n0:=Cl.new st0 (eE x);exact n0.nw _
  all_goals simp(disch:=decide) only[jb,jf]
 ·obtain⟨h1,h2,C0,C1,i1,i2,i13⟩:=hI;have E:=ih x.kids[k] (Qax hk) (Vp hk hw'.2);have tk:x.kids.take (k+1)=x.kids.take k ++ [x.kids[k]]:=yO hk;cases hf:JU x.kids[k] with
  |some y=>
   have e:Jj x=(y,true):=by
    unfold Jj;have e3:x.kids=x.kids.take k ++ (x.kids[k] :: x.kids.drop (k+1)):=by rw[Qby,Qbn]
    rw[e0,e3,uJ,h1];simp only[zP,hf]
   have e2:Jj x.kids[k]=(y,true):=by unfold Jj;rw[hf]
   rw[e2] at E;unfold z6 at C1
   (have zz:=aI C0.r C1.r;(repeat'(first|apply jc<;>intro _|simp(disch:=first|exact jO|fail) only[ja i1,ja i2,ja i13,ja hi,ja hn,E,C0.q,C1.q,C0.r,C1.r,je,jj,ji,jd,jm,jn,jp,jq,jo,rzZ,Qab,Qac,Qad,Qaa,Qae]));all_goals clear zz)
   rw[e];exact G0.exb rfl (qO y)
  |none=>
   have e2:Jj x.kids[k]=(x.kids[k],false):=by unfold Jj;rw[hf]
   rw[e2] at E
   (have zz:=aI C0.r C1.r;(repeat'(first|apply jc<;>intro _|simp(disch:=first|exact jO|fail) only[ja i1,ja i2,ja i13,ja hi,ja hn,E,C0.q,C1.q,C0.r,C1.r,je,jj,ji,jd,jm,jn,jp,jq,jo,rzZ,Qab,Qac,Qad,Qaa,Qae]));all_goals clear zz)
   refine⟨⟨?_,by(first|omega|(simp only[jg,jh,jt,jr,jl];first|done|omega)),ckX,ckX,?_,?_,?_⟩,?_,?_⟩
   ·rw[tk,uJ,h1];simp only[zP,hf]
   all_goals(simp(disch:=decide) only[jb];assumption)
 ·obtain⟨h1,h2,C0,C1,i1,i2,i13⟩:=hI;rw[QaB] at h1;have e:Jj x=(x,false):=by unfold Jj;rw[e0,h1]
  unfold z6 at C1
  (have zz:=aI C0.r C1.r;(repeat'(first|apply jc<;>intro _|simp(disch:=first|exact jO|fail) only[ja i1,ja i2,C0.q,C1.q,C0.r,C1.r,je,jj,ji,jd,jm,jn,jp,jq,jo,rzZ,Qab,Qac,Qad,Qaa,Qae]));all_goals clear zz)
  rw[e,<-qE];exact G0.exb rfl (qO x)
section
variable {st:St} {K:AV->St->Prop}
theorem jg3 (k:IntKind)(a b:Int):jk (Ji .add (.int k a) (.int k b) st) K=K (.int k (qW k (a+b))) st:=by
 cases k<;>rfl
theorem jgJ (k:IntKind)(a b:Int):jk (Ji .sub (.int k a) (.int k b) st) K=K (.int k (qW k (a - b))) st:=by
 cases k<;>rfl
theorem jgR (k:IntKind)(a b:Int):jk (Ji .mul (.int k a) (.int k b) st) K=K (.int k (qW k (a * b))) st:=by
 cases k<;>rfl
theorem jpc (k:IntKind)(a:Int):jk (unV .neg (.int k a) st) K=K (.int k (qW k (-a))) st:=by
 have e:k.wrap (0 - a)=qW k (-a):=by rw[<-Yi,Int.zero_sub]
 simp only[unV,X4,O,e,jk]
theorem jg2 (k j:IntKind)(a:Int):jk (jqO k (.int j a) st) K=K (.int k (qW k a)) st:=by
 cases k<;>cases j<;>rfl
end
def kZ (b:Bool):Int:=if b then 1 else 0
def jgb (op num a b:Int):Int:=
 if op=5 then qW .i64 (-a) else if op=6 then qW .i64 (1 - a) else if op=14 then qW .i64 (a * b) else if op=15 then qW .i64 (a+b) else if op=16 then qW .i64 (a - b)
 else if op=17\/op=30 then kZ (decide (a=b)) else if op=18 then kZ (decide (a≠b)) else if op=19 then kZ (decide (a<b)) else if op=20\/op=29 then kZ (decide (a<=b))
 else if op=21 then kZ (decide (b<a)) else if op=22 then kZ (decide (b<=a)) else if op=27 then qW .i64 (a * b) else if op=28 then max a b else num
mutual
def Jk:Ex->Int
 |.mk op num _ ks _ _=>jgb op num ((Qf ks).getD 0 0) ((Qf ks).getD 1 0)
def Qf:List Ex->List Int
 |[]=>[]
 |x :: xs=>Jk x :: Qf xs
end
mutual
def J1:Ex->Bool
 |.mk _ _ _ ks _ _=>decide (ks.length<=2) && JP ks
def JP:List Ex->Bool
 |[]=>true
 |x :: xs=>J1 x && JP xs
end
theorem jiU (x:Ex):Jk x=jgb x.op x.num ((Qf x.kids).getD 0 0) ((Qf x.kids).getD 1 0):=by cases x;rw[Jk];rfl
theorem G6:∀ {xs:List Ex} {k:Nat} (h:k<xs.length),JP xs=true->J1 xs[k]=true
 |x :: xs,0,_,h=>by rw[JP,Qaq] at h;exact h.1
 |x :: xs,k+1,hk,h=>by rw[JP,Qaq] at h;exact G6 (xs:=xs) (k:=k) (by simpa using hk) h.2
theorem gE:∀ {xs:List Ex} {k:Nat} (h:k<xs.length),zP xs=none->JU xs[k]=none
 |x :: xs,0,_,h=>by
  rw[zP] at h;cases hx:JU x with
  |none=>exact hx
  |some y=>rw[hx] at h;cases h
 |x :: xs,k+1,hk,h=>by
  rw[zP] at h;cases hx:JU x with
  |none=>rw[hx] at h;exact gE (xs:=xs) (k:=k) (by simpa using hk) h
  |some y=>rw[hx] at h;cases h
def k9 (ks:List Ex)(k:Nat):List AV:=[.int .i64 ((Qf (ks.take k)).getD 0 0),.int .i64 ((Qf (ks.take k)).getD 1 0)]
theorem jc4 (ks:List Ex)(k:Nat):(k9 ks k).length=2:=nr rfl
theorem jnS {ks:List Ex}{k:Nat}(hk:k<ks.length)(h2:ks.length<=2):upd (k9 ks k) k [.int .i64 (Jk ks[k])]=k9 ks (k+1):=by
 match ks,k with
 |[a],0=>rfl
 |[a,b],0=>rfl
 |[a,b],1=>rfl
 |[a],k+1=>simp at hk
 |[a,b],k+2=>exact absurd hk (by simp)
 |a :: b :: c :: l,_=>simp at h2
theorem jr7 (hb:NB base)(q:Bool):Tot base 124 [.bool q] (.int .i64 (kZ q)):=by
 refine hb.tot ?_ rfl rfl;refine jF jsI (by rfl) (hb.pur 124 1 (by decide)) ?_;simp only[joB,ju,Qai,Qaj,Qag,Qah];rw[(by unfold jjM;simp only[qq];rfl:jjM=_)];repeat'(first|apply jc<;>intro _|simp(disch:=first|exact dzG|fail) only[je,jj,ji,jd,jm,jn,jp,jq,jo,rzZ,Qab,Qac,Qad,Qaa,Qae])
 ·rename_i h;subst h;exact G0.v rfl rfl
 ·rename_i h;have h:q=false:=by simpa using h
  subst h;exact G0.v rfl rfl
set_option maxHeartbeats 4000000 in
theorem jgd (hb:NB base):∀ x:Ex,J1 x=true->JU x=none->Tot base 96 [.agg (eE x)] (.int .i64 (Jk x)):=by
 refine Ex.indk λx ih ht hf=>?_;have ht':x.kids.length<=2/\JP x.kids=true:=by cases x;rw[J1,Qaq,decide_eq_true_eq] at ht;exact ht
 have hop:x.op≠4:=λh=>by rw[uk,if_pos h] at hf;cases hf
 rw[uk,if_neg hop] at hf;refine hb.tot ?_ (by first|rfl|simp[pa,pc,qO,Q3,JV,Jy,YM,wh,wt,QY,YX]) rfl;refine jF js3 (by rfl) (hb.pur 96 1 (by decide)) ?_;simp only[joW,ju,Qai,Qaj,Qag,Qah];rw[(by unfold jj7;simp only[qq];rfl:jj7=_)];repeat'(first|apply jc<;>intro _|simp(disch:=first|exact dzG|fail) only[je,jj,ji,jd,jm,jn,jp,jq,jo,rzZ,Qab,Qac,Qad,Qaa,Qae])
 refine qp x.kids.length (λk L s=>2<=s.nx/\Cl s 0 (eE x)/\Cl s 1 (k9 x.kids k)/\Has L 1 (.ptr 0 0)/\Has L 3 (.ptr 1 0)/\Has L 8 (.lst x.kids.length (fl eE x.kids))) (by first|assumption|omega) (by decide) (by simp(disch:=decide) only[jf,jb]) (by simp(disch:=decide) only[jf,jb]) ?_ (λk L s v h=>(by obtain⟨h2,h3,h4,h5,h6,h7⟩:=h;refine⟨h2,h3,h4,?_,?_,?_⟩<;>simp(disch:=decide) only[jb]<;>assumption)) (λk L s v h=>(by obtain⟨h2,h3,h4,h5,h6,h7⟩:=h;refine⟨h2,h3,h4,?_,?_,?_⟩<;>simp(disch:=decide) only[jb]<;>assumption)) (λk L s hk hI hi hn=>?_) (λL s hI=>?_)
 ·refine⟨by(first|omega|(simp only[jg,jh,jt,jr,jl];first|done|omega)),?_,Cl.new _ _,?_,?_,?_⟩
  ·have n0:=Cl.new st0 (eE x);exact n0.nw _
  all_goals simp(disch:=decide) only[jb,jf]
 ·obtain⟨h2,C0,C1,i1,i3,i8⟩:=hI;have E:=ih x.kids[k] (Qax hk) (G6 hk ht'.2) (gE hk hf);have ap:=jnS hk ht'.1;have hk2:k<2:=by omega
  (have zz:=aI @jc4 (aI C0.r C1.r);(repeat'(first|apply jc<;>intro _|simp(disch:=first|exact jO|fail) only[ja i1,ja i3,ja i8,ja hi,ja hn,E,jc4,C0.q,C1.q,jc4,C0.r,C1.r,je,jj,ji,jd,jm,jn,jp,jq,jo,rzZ,Qab,Qac,Qad,Qaa,Qae]));all_goals clear zz)
  refine⟨⟨by(first|omega|(simp only[jg,jh,jt,jr,jl];first|done|omega)),ckX,Cl.cv (Cl.wr (?_:Cl _ 1 (k9 x.kids k)) k _) ap,?_,?_,?_⟩,?_,?_⟩
  ·exact ckX
  all_goals(simp(disch:=decide) only[jb];assumption)
 ·obtain⟨h2,C0,C1,i1,i3,i8⟩:=hI;have hc:=jiU x;have ea:k9 x.kids x.kids.length=[.int .i64 ((Qf x.kids).getD 0 0),.int .i64 ((Qf x.kids).getD 1 0)]:=by unfold k9;rw[QaB]
  rw[ea] at C1;generalize (Qf x.kids).getD 0 0=a at *;generalize (Qf x.kids).getD 1 0=b at *;rw[hc];have B:=jr7 hb
  (have zz:=aI C0.r C1.r;(repeat'(first|apply jc<;>intro _|simp(disch:=first|exact jO|fail) only[ja i1,ja i3,ja i8,B,jpc,jgJ,jgR,jg3,C0.q,C1.q,C0.r,C1.r,je,jj,ji,jd,jm,jn,jp,jq,jo,rzZ,Qab,Qac,Qad,Qaa,Qae]));all_goals clear zz)
  all_goals(refine G0.v (congrArg _ ?_) rfl;unfold jgb;simp_all)
def stW (n:Int)(v:VarT):Int:=qW .u64 (n * qW .u64 (qW .u64 (qW .u64 v.hi - qW .u64 v.lo)+1))
def Zd (vars:List VarT):Int:=qW .i64 (vars.foldl stW 1)
set_option maxHeartbeats 4000000 in
theorem jbE (hb:NB base)(vars:List VarT)(hl:vars.length<=1000000)(n2 n3:Nat)(c2 c3:List AV):PL Qaf base 36 [.agg [.lst vars.length (fl vaE vars),.lst n2 c2,.lst n3 c3]] (.ok (.int .i64 (Zd vars))):=by
 refine QM x33 (by rfl) (hb.pur 36 5 (by decide)) rfl ?_;simp only[y33,ju,Qai,Qaj,Qag,Qah];rw[(by unfold z33;simp only[qq];rfl:z33=_)];repeat'(first|apply jc<;>intro _|simp(disch:=first|exact dzG|fail) only[je,jj,ji,jd,jm,jn,jp,jq,jo,rzZ,Qab,Qac,Qad,Qaa,Qae])
 refine qp vars.length (λk L s=>1<=s.nx/\Has L 3 (.int .u64 ((vars.take k).foldl stW 1))/\Has L 7 (.lst vars.length (fl vaE vars))) (by first|assumption|omega) (by decide) (by simp(disch:=decide) only[jf,jb]) (by simp(disch:=decide) only[jf,jb]) ?_ (λk L s v h=>(by obtain⟨h1,h2,h3⟩:=h;refine⟨h1,?_,?_⟩<;>simp(disch:=decide) only[jb]<;>assumption)) (λk L s v h=>(by obtain⟨h1,h2,h3⟩:=h;refine⟨h1,?_,?_⟩<;>simp(disch:=decide) only[jb]<;>assumption)) (λk L s hk hI hi hn=>?_) (λL s hI=>?_)
 ·refine⟨by(first|omega|(simp only[jg,jh,jt,jr,jl];first|done|omega)),?_,?_⟩<;>simp(disch:=decide) only[jb,jf,QaZ,List.foldl_nil]
 ·obtain⟨h1,i3,i7⟩:=hI;have tk:vars.take (k+1)=vars.take k ++ [vars[k]]:=yO hk;have A1:=λa b st K=>@jg3 st K .u64 a b;have A2:=λa b st K=>@jgJ st K .u64 a b;repeat'(first|apply jc<;>intro _|simp(disch:=first|exact dzG|fail) only[ja i3,ja i7,ja hi,ja hn,jg2,jgR,A1,A2,je,jj,ji,jd,jm,jn,jp,jq,jo,rzZ,Qab,Qac,Qad,Qaa,Qae])
  refine⟨⟨by(first|omega|(simp only[jg,jh,jt,jr,jl];first|done|omega)),?_,?_⟩,?_,?_⟩
  ·rw[tk,QbX];exact⟨rfl,rfl⟩
  all_goals(simp(disch:=decide) only[jb];assumption)
 ·obtain⟨h1,i3,i7⟩:=hI;rw[QaB] at i3;repeat'(first|apply jc<;>intro _|simp(disch:=first|exact dzG|fail) only[ja i3,jg2,je,jj,ji,jd,jm,jn,jp,jq,jo,rzZ,Qab,Qac,Qad,Qaa,Qae])
  exact G0.v rfl rfl
def Jr (vars:List VarT)(enums:List EnumT):VarT->List Ex->KR VarT
 |v,[]=>.ok v
 |v,x :: xs=>match yz vars enums false x v.kind v.enum with
  |.er a b c=>.er a b c
  |.ok y=>match JU y with
   |some z=>.er 161 z.line z.col
   |none=>if Jk y<v.lo\/v.hi<Jk y then .er 164 x.line x.col else Jr vars enums { v with beg:=true,first:=Jk y } xs
theorem k7 {vars:List VarT}{enums:List EnumT}:∀ {xs ys:List Ex} {v:VarT},Jr vars enums v (xs ++ ys)=match Jr vars enums v xs with | .er a b c=>.er a b c | .ok u=>Jr vars enums u ys
 |[],ys,v=>rfl
 |x :: xs,ys,v=>by
  simp only[Qay,Jr];cases yz vars enums false x v.kind v.enum with
  |er a b c=>rfl
  |ok y=>
   dsimp only;cases JU y with
   |some z=>rfl
   |none=>
    dsimp only;split
    ·rfl
    ·exact k7
def en0:EnumT:=⟨[],[],0,0⟩
def QB (enums:List EnumT)(nm:List Nat):Int:=fi (λx=>decide (x.name=nm)) enums
def uf (enums:List EnumT)(d:DeclT):KR VarT:=
 if d.ty=[98,111,111,108] then .ok ⟨d.name,2,[],0,1,false,0⟩
 else if 0<=QB enums d.ty then .ok ⟨d.name,3,d.ty,0,((enums.getD (QB enums d.ty).toNat en0).vals.length:Int) - 1,false,0⟩
 else if d.ty≠[] then .er 161 d.line d.col
 else if d.hi<d.lo then .er 164 d.line d.col
 else if 1024<=d.hi - d.lo then .er 165 d.line d.col
 else .ok ⟨d.name,1,[],d.lo,d.hi,false,0⟩
def kJ (m:ModT)(ts:List (List Nat))(d:DeclT)(v:VarT):KR (ModT×List (List Nat)):=
 if 281474976710656<Zd (m.vars ++ [v]) then .er 165 d.line d.col else .ok ({ m with vars:=m.vars ++ [v] },ts)
def wL (m:ModT)(ts:List (List Nat))(d:DeclT)(v:VarT):KR (ModT×List (List Nat)):=match Jr m.vars m.enums v d.begins with
 |.er a b c=>.er a b c
 |.ok v=>kJ m ts d v
def XG (m:ModT)(ts:List (List Nat))(d:DeclT):KR (ModT×List (List Nat)):=match Xp ts d.name d.line d.col with
 |.er a b c=>.er a b c
 |.ok ts=>match uf m.enums d with
  |.er a b c=>.er a b c
  |.ok v=>wL m ts d v
section
variable {p mb lo hi:Nat} {m:ModT} {ts us:List (List Nat)} {v1 v2 v3:AV} {s t:St}
theorem MS.ck (S:MS p mb lo hi m ts v1 v2 v3 s):Ck p v1 v2 v3 (.map mb) m.vars m.enums false s:=by
 obtain⟨C,M,l1,l2,l3,d12,d13,d23,hp,hm,pm,h1,h2⟩:=S;refine⟨C,l1.lr,l2.lr,?_,?_⟩
 ·intro b k z x e;rcases l1 with ⟨h,_⟩|⟨c,h,h2,_⟩
  ·rw[h] at e;cases e
  ·rw[h] at e;cases e;omega
 ·intro b k z x e;rcases l2 with ⟨h,_⟩|⟨c,h,h2,_⟩
  ·rw[h] at e;cases e
  ·rw[h] at e;cases e;omega
theorem MS.var (S:MS p mb lo hi m ts v1 v2 v3 s)(e:VarT):MS p mb lo (s.nx+1) { m with vars:=m.vars ++ [e] } ts (apv 7 v1 s) v2 v3 (Go.Sy.wr (Go.Sy.aps v1 s (vaE e)) p 0 [apv 7 v1 s]):=by
 obtain⟨C,M,l1,l2,l3,d12,d13,d23,hp,hm,pm,h1,h2⟩:=S;have h4:=C.lt;have hn:(Go.Sy.wr (Go.Sy.aps v1 s (vaE e)) p 0 [apv 7 v1 s]).nx=s.nx+1:=by rw[jh,jr]
 refine⟨?_,?_,?_,?_,?_,(Df.put l2 h2).1,(Df.put l3 h2).1,d23,hp,hm,pm,by omega,by rw[hn];exact Qao _⟩
 ·exact(cast (l1.cl s (vaE e) _ p (.inl hp) h4).symm C:Cl (Go.Sy.aps v1 s (vaE e)) p _).wr 0 [apv 7 v1 s]
 ·exact M.keep (by rw[hn];omega) (by rw[Je (λh=>pm h.symm)];exact l1.get s (vaE e) mb (.inl hm) M.lt)
 ·rw[jz (.inl hp),Qal,Qd,JG];exact l1.put (Xm e) (by omega) rfl
 ·rw[jz (.inl hp)];exact(l2.apsD d12).up (by omega)
 ·rw[jz (.inl hp)];exact(l3.apsD d13).up (by omega)
end
def va0:List AV:=[.str [],.int .i64 0,.str [],.int .i64 0,.int .i64 0,.bool false,.int .i64 0]
def dQ (st:St)(K:AV->St->Prop):Out->Prop:=QU Qaf y62.res λv s=>K v (back st s)
def dP (st:St)(Kp:AV->St->Prop):AV->Sl->St->Prop:=λv _ s=>Kp v (bk st s)
structure DS (p mb lo q:Nat)(m:ModT)(ts:List (List Nat))(v1 v2 v3:AV)(d:DeclT)(v:VarT)(st:St)(L:Sl)(s:St):Prop where
 S:MS p mb lo q m ts v1 v2 v3 s
 k:Kq p mb lo st.bare s
 nx:q+2<=s.nx
 c3:Cl s q (qg d)
 c4:Cl s (q+1) (vaE v)
 i0:Has L 0 (.ptr p 0)
 i3:Has L 3 (.ptr q 0)
 i4:Has L 4 (.ptr (q+1) 0)
theorem jkt (hb:NB base)(vars:List VarT)(hl:vars.length<=1000000){st:St}{v1 v2 v3:AV}{n2 n3:Nat}{c2 c3:List AV}(h1:Lr st v1 vars.length (fl vaE vars))(h2:Lr st v2 n2 c2)(h3:Lr st v3 n3 c3)(p2:c2.all pc=true)(p3:c3.all pc=true)(K Kp:AV->St->Prop) :
  XB Qaf base 36 [.agg [v1,v2,v3]] st K Kp=K (.int .i64 (Zd vars)) st:=by
 refine(jbE hb vars hl n2 n3 c2 c3).xb (Jm (jh5 (jfL (h1.fz (d:=6) (zp YM vars)) (jfL (h2.fz (d:=6) p2) (jfL (h3.fz (d:=6) p3) jr1)))) ud) (λst=>hb.no 36 (by decide) _ _) K Kp
set_option maxHeartbeats 4000000 in
theorem jqL (hb:NB base){p mb lo q:Nat}{m:ModT}{ts:List (List Nat)}{v1 v2 v3:AV}{d:DeclT}{v:VarT}{st:St}{L:Sl}{s:St}(D:DS p mb lo q m ts v1 v2 v3 d v st L s)(hV:m.vars.length<=900000)(K Kp:AV->St->Prop)(hK:KM p mb lo st (kJ m ts d v) K Kp):xC Qaf base jeW L s (dQ st K) (dP st Kp):=by
 obtain⟨S,k,nx,C3,C4,i0,i3,i4⟩:=D;obtain⟨C,M,l1,l2,l3,d12,d13,d23,hp,hm,pm,lo0,hi0⟩:=id S;have ve1:=l1.eqs;have Ap:=λst' bv xc xx K h hv=>@J5 lo q m.vars.length 7 st' v1 (fl vaE m.vars) K 72 bv xc xx h (by decide) (by omega) (by omega) hv;have hqp:q≠p:=by omega
 have hqp1:q+1≠p:=by omega
 have S3:=(S.nw (vaE v)).var v;have q2:=(((k.nw (by omega) (vaE v)).aps l1 (by(first|omega|(simp only[jg,jh,jt,jr,jl];first|done|omega))) (vaE v)).wr (.inl rfl) 0 [apv 7 v1 (Go.Sy.nw s (vaE v))]).bk;have S33:=λK Kp=>jkt hb (m.vars ++ [v]) (by simp;omega) S3.l1.lr S3.l2.lr S3.l3.lr (zp JV _) (zp wt _) K Kp;have S2:=(S3.up (by(first|omega|(simp only[jg,jh,jt,jr,jl];first|done|omega))) (Qao _)).ofbk (u:=st);have gp:rat s.h p 0=v1:=C.cell 0 (by simp only[Qak,Qan];omega);clear S3;simp only[Wr] at S33;unfold dQ dP y62;rw[(by unfold jeW;simp only[qq];rfl:jeW=_)];unfold kJ at hK;by_cases hs:281474976710656<Zd (m.vars ++ [v])
 ·rw[if_pos hs] at hK
  (have zz:=aI @l1.ln (aI @l1.rts (aI @jz (aI @jE (aI @jJ (aI @l1 (aI @jA (aI @jH (aI @jK (aI C3.r (aI C4.r C.r))))))))));(repeat'(first|apply jc<;>intro _|simp(disch:=first|exact jO|fail) only[ja i0,ja i3,ja i4,Ap,l1.at,S33,hs,zQ hb,jA,C3.q,C4.q,C.q,l1.ln,l1.rts,jz,jE,jJ,l1,jA,jH,jK,C3.r,C4.r,C.r,je,jj,ji,jd,jm,jn,jp,jq,jo,rzZ,Qab,Qac,Qad,Qaa,Qae]));all_goals clear zz)
  exact hK _ q2
 ·rw[if_neg hs] at hK
  (have zz:=aI @l1.ln (aI @l1.rts (aI @jz (aI @jE (aI @jJ (aI @l1 (aI @jA (aI @jH (aI @jK (aI C3.r (aI C4.r C.r))))))))));(repeat'(first|apply jc<;>intro _|simp(disch:=first|exact jO|fail) only[ja i0,ja i3,ja i4,Ap,l1.at,S33,hs,jA,C3.q,C4.q,C.q,l1.ln,l1.rts,jz,jE,jJ,l1,jA,jH,jK,C3.r,C4.r,C.r,je,jj,ji,jd,jm,jn,jp,jq,jo,rzZ,Qab,Qac,Qad,Qaa,Qae]));all_goals clear zz)
  exact hK _ q2 ⟨_,_,_,S2⟩
mutual
theorem gg {vars:List VarT}{enums:List EnumT}:∀ (fm:Bool) (x y:Ex) (m:MtT),J1 x=true->yn vars enums fm x=.ok (y,m)->J1 y=true
 |fm,.mk op num name ks l c,y,m,ht,h=>by
  rw[yn] at h;split at h
  ·cases h;exact ht
  ·split at h
   ·cases h;exact ht
   ·split at h
    ·unfold zC at h;split at h
     ·cases h;rfl
     ·split at h
      ·cases h
      ·cases h;rfl
    ·split at h
     ·cases h
     ·rename_i r hr;rw[J1,Qaq,decide_eq_true_eq] at ht;have h2:=U9 _ _ r.1 r.2 ht.2 hr;have h3:r.1.length=ks.length:=(JS hr).1;unfold YZ at h;have e:∀ o n nm l c,J1 (.mk o n nm r.1 l c)=true:=λo n nm l c=>by rw[J1,Qaq,decide_eq_true_eq];exact⟨by omega,h2⟩
      split at h
      ·cases h
      ·split at h
       ·cases h;exact e _ _ _ _ _
       ·split at h
        ·cases h
        ·cases h;exact e _ _ _ _ _
theorem U9 {vars:List VarT}{enums:List EnumT}:∀ (fm:Bool) (xs ys:List Ex) (ms:List MtT),JP xs=true->qt vars enums fm xs=.ok (ys,ms)->JP ys=true
 |fm,[],ys,ms,_,h=>by rw[qt] at h;cases h;rfl
 |fm,x :: xs,ys,ms,ht,h=>by
  rw[JP,Qaq] at ht;rw[qt] at h;cases hx:yn vars enums fm x with
  |er a b d=>rw[hx] at h;cases h
  |ok y=>
   rw[hx] at h;cases hr:qt vars enums fm xs with
   |er a b d=>rw[hr] at h;cases h
   |ok r=>
    rw[hr] at h;cases h;rw[JP,Qaq];exact⟨gg fm x y.1 y.2 ht.1 hx,U9 fm xs r.1 r.2 ht.2 hr⟩
end
theorem jdg {vars:List VarT}{enums:List EnumT}{fm:Bool}{x y:Ex}{w:Int}{en:List Nat}(ht:J1 x=true)(h:yz vars enums fm x w en=.ok y):J1 y=true:=by
 unfold yz at h;split at h
 ·cases h
 ·rename_i r hr;split at h
  ·cases h
  ·cases h;exact gg fm x r.1 r.2 ht hr
mutual
theorem Yv:∀ x:Ex,J1 x=true->Z9 x=true
 |.mk op num name ks l c,h=>by
  rw[J1,Qaq,decide_eq_true_eq] at h;rw[Z9,Qaq,decide_eq_true_eq];exact⟨by omega,Kl ks h.2⟩
theorem Kl:∀ xs:List Ex,JP xs=true->YK xs=true
 |[],_=>rfl
 |x :: xs,h=>by
  rw[JP,Qaq] at h;rw[YK,Qaq];exact⟨Yv x h.1,Kl xs h.2⟩
end
def OkE (x:Ex):Prop:=J1 x=true/\ZC x=true
section
variable {p mb lo q:Nat} {m:ModT} {ts:List (List Nat)} {v1 v2 v3:AV} {d:DeclT} {v:VarT} {st:St} {L:Sl} {s:St}
theorem DS.push (D:DS p mb lo q m ts v1 v2 v3 d v st L s){c:Nat}{w:AV}(h:c≠0/\c≠3/\c≠4):DS p mb lo q m ts v1 v2 v3 d v st ((c,w) :: L) s:=by
 obtain⟨S,k,nx,c3,c4,i0,i3,i4⟩:=D;exact⟨S,k,nx,c3,c4,by rw[jb h.1];exact i0,by rw[jb h.2.1];exact i3,by rw[jb h.2.2];exact i4⟩
end
set_option maxHeartbeats 4000000 in
theorem jqM (hb:NB base){p mb lo q:Nat}{m:ModT}{ts:List (List Nat)}{v1 v2 v3:AV}{d:DeclT}{v:VarT}{st:St}{L:Sl}{s:St}(D:DS p mb lo q m ts v1 v2 v3 d v st L s)(V:VarsOK m.vars m.enums)(hV:m.vars.length<=900000)(hx:∀ x∈d.begins,OkE x)(hbl:d.begins.length<=1000000)(K Kp:AV->St->Prop)(hK:KM p mb lo st (wL m ts d v) K Kp):xC Qaf base jbh L s (dQ st K) (dP st Kp):=by
 have i0:=D.i0;have i3:=D.i3;have i4:=D.i4;have C3:=D.c3;have C4:=D.c4;rw[(by unfold jbh;simp only[qq];rfl:jbh=_)]
 (have zz:=aI C3.r C4.r;(repeat'(first|apply jc<;>intro _|simp(disch:=first|exact jO|fail) only[ja i0,ja i3,ja i4,C3.q,C4.q,C3.r,C4.r,je,jj,ji,jd,jm,jn,jp,jq,jo,rzZ,Qab,Qac,Qad,Qaa,Qae]));all_goals clear zz)
 refine qp d.begins.length (λk L s=>(∃ u,Jr m.vars m.enums v (d.begins.take k)=.ok u/\DS p mb lo q m ts v1 v2 v3 d u st L s)/\Has L 93 (.lst d.begins.length (fl eE d.begins))) (by first|assumption|omega) (by decide) (by simp(disch:=decide) only[jf,jb]) (by simp(disch:=decide) only[jf,jb]) ?_ (λk L s v h=>(by obtain⟨⟨u,h1,h2⟩,h3⟩:=h;refine⟨⟨u,h1,h2.push (by decide)⟩,?_⟩;simp(disch:=decide) only[jb];assumption)) (λk L s v h=>(by obtain⟨⟨u,h1,h2⟩,h3⟩:=h;refine⟨⟨u,h1,h2.push (by decide)⟩,?_⟩;simp(disch:=decide) only[jb];assumption)) (λk L s hk hI hi hn=>?_) (λL s hI=>?_)
 ·refine⟨⟨v,by rw[QaZ,Jr],((D.push (by decide)).push (by decide)).push (by decide)⟩,?_⟩;simp(disch:=decide) only[jb,jf]
 ·obtain⟨⟨u,h1,D⟩,i93⟩:=hI;obtain⟨S,k0,nx,C3,C4,i0,i3,i4⟩:=D;have tk:d.begins.take (k+1)=d.begins.take k ++ [d.begins[k]]:=yO hk;obtain⟨x1,x2⟩:=hx _ (Qax hk);have hqm:q≠p/\q+1≠p:=by have:=S.hp;have:=S.lo;omega
  have hqn:=S.hi;have hlq:=S.lo;have z6l:(eE d.begins[k]).length=([.int .i64 0,.int .i64 0,.str [],.nils,.int .i64 0,.int .i64 0]:List AV).length:=by rw[zw];rfl
  have S1:=(S.nw [.int .i64 0,.int .i64 0,.str [],.nils,.int .i64 0,.int .i64 0]).wr hqn 0 (eE d.begins[k]);have k1:=(k0.nw (by omega) [.int .i64 0,.int .i64 0,.str [],.nils,.int .i64 0,.int .i64 0]).wr (c:=s.nx) (.inr (by omega)) 0 (eE d.begins[k]);have C7:=(Cl.new s [.int .i64 0,.int .i64 0,.str [],.nils,.int .i64 0,.int .i64 0]).wr0 z6l;have D3:Cl (Go.Sy.wr (Go.Sy.nw s [.int .i64 0,.int .i64 0,.str [],.nils,.int .i64 0,.int .i64 0]) s.nx 0 (eE d.begins[k])) q (qg d):=ckX
  have D4:Cl (Go.Sy.wr (Go.Sy.nw s [.int .i64 0,.int .i64 0,.str [],.nils,.int .i64 0,.int .i64 0]) s.nx 0 (eE d.begins[k])) (q+1) (vaE u):=ckX
  (have zz:=aI C3.r C4.r;(repeat'(first|apply jc<;>intro _|simp(disch:=first|exact jO|fail) only[ja i0,ja i3,ja i4,ja i93,ja hi,ja hn,C3.q,C4.q,C3.r,C4.r,je,jj,ji,jd,jm,jn,jp,jq,jo,rzZ,Qab,Qac,Qad,Qaa,Qae]));all_goals clear zz)
  have hn1:(Go.Sy.wr (Go.Sy.nw s [.int .i64 0,.int .i64 0,.str [],.nils,.int .i64 0,.int .i64 0]) s.nx 0 (eE d.begins[k])).nx=s.nx+1:=rfl;generalize Go.Sy.wr (Go.Sy.nw s [.int .i64 0,.int .i64 0,.str [],.nils,.int .i64 0,.int .i64 0]) s.nx 0 (eE d.begins[k])=t1 at *;refine Us hb V _ x2 (Yv _ x1) u.kind u.enum S1.ck _ _ ?_;have e3:d.begins=d.begins.take k ++ (d.begins[k] :: d.begins.drop (k+1)):=by rw[Qby,Qbn]
  have bk1:Jr m.vars m.enums v d.begins=Jr m.vars m.enums u (d.begins[k] :: d.begins.drop (k+1)):=by
   have e:=congrArg (Jr m.vars m.enums v) e3;rw[k7,h1] at e;exact e
  have bk2:Jr m.vars m.enums v (d.begins.take (k+1))=Jr m.vars m.enums u [d.begins[k]]:=by
   rw[tk,k7,h1]
  unfold wL at hK;rw[bk1,Jr] at hK;rw[Jr] at bk2;cases hr:yz m.vars m.enums false d.begins[k] u.kind u.enum with
  |er a b c=>
   rw[hr] at hK;intro s' k2;exact hK _ (k1.keep k2 (by omega)).bk
  |ok y=>
   have y1:=jdg x1 hr;have y2:=Yv _ y1;rw[hr] at hK bk2;dsimp only at hK bk2;intro s' k2 C2;have hs':=k2.nx;have k3:=k1.keep k2 (by omega);have S3:=S1.keep k2 C2;have E3:=k2.cl D3 hqm.1;have E4:=k2.cl D4 hqm.2;have E7:=k2.cl C7 (by have:=S.cp.lt;omega);have F:=jnF hb y y2;clear S1 k1 k2 C2 C7 D3 D4 C3 C4 S k0;cases hf:JU y with
   |some z=>
    rw[show Jj y=(z,true) by unfold Jj;rw[hf]] at F;rw[hf] at hK
    (have zz:=aI E3.r (aI E4.r E7.r);(repeat'(first|apply jc<;>intro _|simp(disch:=first|exact jO|fail) only[ja i0,ja i3,ja i4,F,zQ hb,E3.q,E4.q,E7.q,E3.r,E4.r,E7.r,je,jj,ji,jd,jm,jn,jp,jq,jo,rzZ,Qab,Qac,Qad,Qaa,Qae]));all_goals clear zz)
    exact hK _ (((((k3.nw (by omega) _).wr (c:=s'.nx) (.inr (by omega)) 0 _).nw (by(first|omega|(simp only[jg,jh,jt,jr,jl];first|done|omega))) _).wr (.inr (by(first|omega|(simp only[jg,jh,jt,jr,jl];first|done|omega)))) 0 _)).bk
   |none=>
    rw[show Jj y=(y,false) by unfold Jj;rw[hf]] at F;rw[hf] at hK bk2;dsimp only at hK bk2;have G:=jgd hb y y1 hf;by_cases hc:Jk y<u.lo\/u.hi<Jk y
    ·rw[if_pos hc] at hK
     (have zz:=aI E3.r (aI E4.r E7.r);(repeat'(first|apply jc<;>intro _|simp(disch:=first|exact jO|fail) only[ja i0,ja i3,ja i4,F,G,zQ hb,E3.q,E4.q,E7.q,E3.r,E4.r,E7.r,je,jj,ji,jd,jm,jn,jp,jq,jo,rzZ,Qab,Qac,Qad,Qaa,Qae]));all_goals clear zz)
     all_goals exact hK _ ((((((k3.nw (by omega) _).wr (c:=s'.nx) (.inr (by omega)) 0 _).nw (by(first|omega|(simp only[jg,jh,jt,jr,jl];first|done|omega))) _).wr (.inr (by(first|omega|(simp only[jg,jh,jt,jr,jl];first|done|omega)))) 0 _).wr (c:=q+1) (.inr (by omega)) 5 _).wr (c:=q+1) (.inr (by omega)) 6 _).bk
    ·rw[if_neg hc] at bk2;have hc1:¬ Jk y<u.lo:=λh=>hc (.inl h);have hc2:¬ u.hi<Jk y:=λh=>hc (.inr h)
     (have zz:=aI E3.r (aI E4.r E7.r);(repeat'(first|apply jc<;>intro _|simp(disch:=first|exact jO|fail) only[ja i0,ja i3,ja i4,ja hi,F,G,hc1,hc2,E3.q,E4.q,E7.q,E3.r,E4.r,E7.r,je,jj,ji,jd,jm,jn,jp,jq,jo,rzZ,Qab,Qac,Qad,Qaa,Qae]));all_goals clear zz)
     have S5:=((((((S3.nw [.int .i64 0,.int .i64 0,.str [],.nils,.int .i64 0,.int .i64 0]).wr (c:=s'.nx) (by omega) 0 (eE y)).nw [.int .i64 0,.int .i64 0,.str [],.nils,.int .i64 0,.int .i64 0]).wr (c:=s'.nx+1) (by omega) 0 (eE y)).wr (c:=q+1) (by omega) 5 [.bool true]).wr (c:=q+1) (by omega) 6 [.int .i64 (Jk y)]);have k5:=((((((k3.nw (by omega) [.int .i64 0,.int .i64 0,.str [],.nils,.int .i64 0,.int .i64 0]).wr (c:=s'.nx) (.inr (by omega)) 0 (eE y)).nw (by(first|omega|(simp only[jg,jh,jt,jr,jl];first|done|omega))) [.int .i64 0,.int .i64 0,.str [],.nils,.int .i64 0,.int .i64 0]).wr (c:=s'.nx+1) (.inr (by omega)) 0 (eE y)).wr (c:=q+1) (.inr (by omega)) 5 [.bool true]).wr (c:=q+1) (.inr (by omega)) 6 [.int .i64 (Jk y)]);refine⟨⟨⟨{ u with beg:=true,first:=Jk y },?_,S5,k5,by(first|omega|(simp only[jg,jh,jt,jr,jl];first|done|omega)),?_,Cl.wr (Cl.wr (?_:Cl _ (q+1) (vaE u)) 5 [.bool true]) 6 [.int .i64 (Jk y)],?_,?_,?_⟩,?_⟩,?_,?_⟩
     ·rw[bk2];rfl
     ·exact ckX
     ·exact ckX
     all_goals(simp(disch:=decide) only[jb];assumption)
 ·obtain⟨⟨u,h1,D⟩,i93⟩:=hI;rw[QaB] at h1;unfold wL at hK;rw[h1] at hK;repeat'(first|apply jc<;>intro _|simp(disch:=first|exact dzG|fail) only[je,jj,ji,jd,jm,jn,jp,jq,jo,rzZ,Qab,Qac,Qad,Qaa,Qae])
  exact jqL hb D hV K Kp hK
theorem jfR (hb:NB base)(enums:List EnumT)(hl:enums.length<=1000000)(d:DeclT){v2:AV}(st:St){q:Nat}(h:Lr st v2 enums.length (fl enE enums))(C:Cl st q (qg d))(K Kp:AV->St->Prop) :
  XB Qaf base 92 [v2,.fn 93 [.ptr q 0]] st K Kp=K (.int .i64 (QB enums d.ty)) st:=by
 refine(jfQ hb enums (by unfold BIG;omega) d).xb (Jm (h.lend (zp JV enums)) (Jm ?_ ud)) (λst=>hb.no 92 (by decide) _ _) K Kp;show(Xa st.h [.ptr q 0]).map (AV.fn 93)=_;have:wx st.h (.ptr q 0)=some (.lptr (qg d) 0):=WX C (Qc (W0 8 rfl) rfl (Qc (W0 8 rfl) rfl (Qc (W0 8 rfl) rfl (Qc (W0 8 rfl) rfl (Qc (W0 8 rfl) rfl (Qc (W0 8 rfl) rfl (Qc (W0 8 rfl) rfl GI)))))));simp only[Xa,this];rfl
set_option maxHeartbeats 4000000 in
theorem jqK (hb:NB base){p mb lo:Nat}{m:ModT}{ts:List (List Nat)}{st:St}(d:DeclT)(V:VarsOK m.vars m.enums)(hV:m.vars.length<=900000)(hx:∀ x∈d.begins,OkE x)(hbl:d.begins.length<=1000000)(hlo : -100000000<=d.lo/\d.lo<=100000000)(hhi : -100000000<=d.hi/\d.hi<=100000000)(H:MX p mb lo m ts st)(K Kp:AV->St->Prop)(hK:KM p mb lo st (XG m ts d) K Kp):XB Qaf base 69 [.ptr p 0,.agg (qg d)] st K Kp:=by
 obtain⟨v1,v2,v3,S⟩:=H;obtain⟨C,M,l1,l2,l3,d12,d13,d23,hp,hm,pm,lo0,hi0⟩:=id S;refine Jv x62 (by rfl) (hb.at0 69 (by decide) (by decide) _ _) ?_;simp only[y62,ju,Qai,Qaj,Qag,Qah];rw[(by unfold z62;simp only[qq];rfl:z62=_)];have hnx:st.bare.nx=st.nx:=rfl;have S0:=S.bare.nw (qg d);have q1:=(Kq.refl:Kq p mb lo st.bare st.bare).nw (Qav lo0 hi0) (qg d);have Cb:Cl (Go.Sy.nw st.bare (qg d)) st.nx (qg d):=Cl.new st.bare (qg d);unfold XG Xp at hK;repeat'(first|apply jc<;>intro _|simp(disch:=first|exact dzG|fail) only[je,jj,ji,jd,jm,jn,jp,jq,jo,rzZ,Qab,Qac,Qad,Qaa,Qae])
 refine Ko hb S0.cp S0.mp _ _ _ _ _ ?_;by_cases h:d.name∈ts
 ·rw[if_pos h] at hK ⊢;exact hK _ q1.bk
 ·rw[if_neg h] at hK ⊢
  replace S0:=S0.take (ts ++ [d.name])
  replace q1:=q1.mp (mpl (ts ++ [d.name]))
  have Cb:Cl (Go.Sy.mp (Go.Sy.nw st.bare (qg d)) mb (mpl (ts ++ [d.name]))) st.nx (qg d):=by rw[W9 (by omega)];exact Cb
  have hn1:(Go.Sy.mp (Go.Sy.nw st.bare (qg d)) mb (mpl (ts ++ [d.name]))).nx=st.nx+1:=rfl;generalize Go.Sy.mp (Go.Sy.nw st.bare (qg d)) mb (mpl (ts ++ [d.name]))=s1 at *;dsimp only at hK;have Cv:=(Cl.new s1 va0).wr0 (c':=vaE ⟨d.name,1,[],d.lo,d.hi,false,0⟩) rfl;have S1:=(S0.nw va0).wr (c:=s1.nx) (by omega) 0 (vaE ⟨d.name,1,[],d.lo,d.hi,false,0⟩);have q2:=(q1.nw (by omega) va0).wr (c:=s1.nx) (.inr (by omega)) 0 (vaE ⟨d.name,1,[],d.lo,d.hi,false,0⟩);have Cd:Cl (Go.Sy.wr (Go.Sy.nw s1 va0) s1.nx 0 (vaE ⟨d.name,1,[],d.lo,d.hi,false,0⟩)) st.nx (qg d):=ckX
  have FE:=λK Kp=>jfR hb m.enums V.len2 d _ S1.l2.lr Cd K Kp;have C0:=S0.cp;have C1:=S1.cp;have hmp:st.nx≠p/\st.nx+1≠p:=by omega
  simp only[Wr,hn1] at FE;simp only[hn1] at S1 q2 Cv Cd C1;unfold va0 at *;have mk:∀ (v:VarT) (L:Sl) (s:St),MS p mb lo st.nx m (ts ++ [d.name]) v1 v2 v3 s->Kq p mb lo st.bare s->st.nx+2<=s.nx->Cl s st.nx (qg d)->Cl s (st.nx+1) (vaE v)->Has L 0 (.ptr p 0)->Has L 3 (.ptr st.nx 0)->Has L 4 (.ptr (st.nx+1) 0)->KM p mb lo st (wL m (ts ++ [d.name]) d v) K Kp->xC Qaf base jbh L s (dQ st K) (dP st Kp):=λv L s a1 a2 a3 a4 a5 a6 a7 a8 hK=>jqM hb ⟨a1,a2,a3,a4,a5,a6,a7,a8⟩ V hV hx hbl K Kp hK;unfold uf at hK;by_cases h1:d.ty=[98,111,111,108]
  ·rw[if_pos h1] at hK;have S2:=(((S1.wr (c:=st.nx+1) (by omega) 1 [.int .i64 2]).wr (c:=st.nx+1) (by omega) 3 [.int .i64 0]).wr (c:=st.nx+1) (by omega) 4 [.int .i64 1]);have q3:=(((q2.wr (c:=st.nx+1) (.inr (by omega)) 1 [.int .i64 2]).wr (c:=st.nx+1) (.inr (by omega)) 3 [.int .i64 0]).wr (c:=st.nx+1) (.inr (by omega)) 4 [.int .i64 1])
   (have zz:=aI @hn1 (aI @Cb.r C0.r);(repeat'(first|apply jc<;>intro _|simp(disch:=first|exact jO|fail) only[FE,h1,hn1,Cb.q,C0.q,hn1,Cb.r,C0.r,je,jj,ji,jd,jm,jn,jp,jq,jo,rzZ,Qab,Qac,Qad,Qaa,Qae]));all_goals clear zz)
   refine mk ⟨d.name,2,[],0,1,false,0⟩ _ _ S2 q3 (by(first|omega|(simp only[jg,jh,jt,jr,jl];first|done|omega))) (ckX) ?_ ?_ ?_ ?_ hK
   ·exact((Cv.wr 1 [.int .i64 2]).wr 3 [.int .i64 0]).wr 4 [.int .i64 1]
   all_goals simp(disch:=decide) only[jb,jf]
  rw[if_neg h1] at hK;by_cases h2:0<=QB m.enums d.ty
  ·rw[if_pos h2] at hK;have hlt:QB m.enums d.ty<(m.enums.length:Int):=ZD;have hi2:(QB m.enums d.ty).toNat<m.enums.length:=by omega
   have eg:m.enums.getD (QB m.enums d.ty).toNat en0=m.enums[(QB m.enums d.ty).toNat]:=by simp[QaJ,hi2]
   rw[eg] at hK;have Lw:=S0.l2;rcases id Lw with ⟨_,e0,_⟩|⟨b,rfl,b1,b2,Ce,b5,b6⟩
   ·omega
   have gl:qr s1.h b=m.enums.length * 4:=by rw[Ce.len,zF Jq]
   have ge:rat s1.h b ((QB m.enums d.ty).toNat * 4+1)=.lst m.enums[(QB m.enums d.ty).toNat].vals.length (m.enums[(QB m.enums d.ty).toNat].vals.map .str):=by
    rw[Ce.cell _ (by rw[zF Jq];omega),vB Jq hi2 (by decide)];rfl
   have hbp:b≠p/\b≠st.nx/\b≠st.nx+1/\b<s1.nx:=by omega
   have gp:rat s1.h p 1=.slice b 0 m.enums.length m.enums.length 4 false:=C0.cell 1 (by simp only[Qak,Qan];omega);have gd:rat s1.h st.nx 1=.str d.ty:=(Cb.cell 1 (by rw[QP];decide)).trans (by rw[Wf];rfl);have hvl:=V.vals _ (Qax hi2)
   (have zz:=aI @hn1 (aI @gl (aI @ge (aI @Cb.r C0.r)));(repeat'(first|apply jc<;>intro _|simp(disch:=first|exact jO|fail) only[FE,h1,h2,hn1,ge,sm9,Gj,Gi,Cb.q,C0.q,hn1,gl,ge,Cb.r,C0.r,je,jj,ji,jd,jm,jn,jp,jq,jo,rzZ,Qab,Qac,Qad,Qaa,Qae]));all_goals clear zz)
   refine⟨?_,?_,?_,?_⟩;rotate_right
   ·have S2:=((((S1.wr (c:=st.nx+1) (by omega) 1 [.int .i64 3]).wr (c:=st.nx+1) (by omega) 2 [.str d.ty]).wr (c:=st.nx+1) (by omega) 3 [.int .i64 0]).wr (c:=st.nx+1) (by omega) 4 [.int .i64 ((m.enums[(QB m.enums d.ty).toNat].vals.length:Int) - 1)]);have q3:=((((q2.wr (c:=st.nx+1) (.inr (by omega)) 1 [.int .i64 3]).wr (c:=st.nx+1) (.inr (by omega)) 2 [.str d.ty]).wr (c:=st.nx+1) (.inr (by omega)) 3 [.int .i64 0]).wr (c:=st.nx+1) (.inr (by omega)) 4 [.int .i64 ((m.enums[(QB m.enums d.ty).toNat].vals.length:Int) - 1)]);refine mk ⟨d.name,3,d.ty,0,(m.enums[(QB m.enums d.ty).toNat].vals.length:Int) - 1,false,0⟩ _ _ S2 q3 (by(first|omega|(simp only[jg,jh,jt,jr,jl];first|done|omega))) (ckX) ?_ ?_ ?_ ?_ hK
    ·exact(((Cv.wr 1 [.int .i64 3]).wr 2 [.str d.ty]).wr 3 [.int .i64 0]).wr 4 [.int .i64 ((m.enums[(QB m.enums d.ty).toNat].vals.length:Int) - 1)]
    all_goals simp(disch:=decide) only[jb,jf]
   all_goals
    repeat' apply aI
    all_goals first
     |exact(Gi (by simp(disch:=omega) only[Xb,Xx,gl];omega) (by simp(disch:=omega) only[ZT,vK,ge]) rfl).mpr trivial
     |exact(Gj (by simp(disch:=omega) only[Xb,Xx,C0.len,Qak,Qan];omega) (by simp(disch:=omega) only[ZT,vK,gp]) rfl).mpr trivial
     |exact(sm9 (by simp(disch:=omega) only[Xb,Xx,Cb.len,QP];omega) (by simp(disch:=omega) only[ZT,vK,gd]) rfl).mpr trivial
  rw[if_neg h2] at hK;by_cases h3:d.ty≠[]
  ·rw[if_pos h3] at hK
   (have zz:=aI @hn1 (aI @Cb.r C0.r);(repeat'(first|apply jc<;>intro _|simp(disch:=first|exact jO|fail) only[FE,h1,h2,h3,hn1,zQ hb,Cb.q,C0.q,hn1,Cb.r,C0.r,je,jj,ji,jd,jm,jn,jp,jq,jo,rzZ,Qab,Qac,Qad,Qaa,Qae]));all_goals clear zz)
   exact hK _ q2.bk
  rw[if_neg h3] at hK;have h3:(d.ty=[])=True:=eq_true (by simpa using h3);by_cases h4:d.hi<d.lo
  ·rw[if_pos h4] at hK
   (have zz:=aI @hn1 (aI @Cb.r C0.r);(repeat'(first|apply jc<;>intro _|simp(disch:=first|exact jO|fail) only[FE,h1,h2,h3,h4,hn1,zQ hb,Cb.q,C0.q,hn1,Cb.r,C0.r,je,jj,ji,jd,jm,jn,jp,jq,jo,rzZ,Qab,Qac,Qad,Qaa,Qae]));all_goals clear zz)
   exact hK _ q2.bk
  rw[if_neg h4] at hK;by_cases h5:1024<=d.hi - d.lo
  ·rw[if_pos h5] at hK
   (have zz:=aI @hn1 (aI @Cb.r C0.r);(repeat'(first|apply jc<;>intro _|simp(disch:=first|exact jO|fail) only[FE,h1,h2,h3,h4,h5,hn1,zQ hb,Cb.q,C0.q,hn1,Cb.r,C0.r,je,jj,ji,jd,jm,jn,jp,jq,jo,rzZ,Qab,Qac,Qad,Qaa,Qae]));all_goals clear zz)
   exact hK _ q2.bk
  rw[if_neg h5] at hK
  (have zz:=aI @hn1 (aI @Cb.r C0.r);(repeat'(first|apply jc<;>intro _|simp(disch:=first|exact jO|fail) only[FE,h1,h2,h3,h4,h5,hn1,Cb.q,C0.q,hn1,Cb.r,C0.r,je,jj,ji,jd,jm,jn,jp,jq,jo,rzZ,Qab,Qac,Qad,Qaa,Qae]));all_goals clear zz)
  refine mk _ _ _ S1 q2 (by(first|omega|(simp only[jg,jh,jt,jr,jl];first|done|omega))) (ckX) Cv ?_ ?_ ?_ hK;all_goals simp(disch:=decide) only[jb,jf]
theorem HQ {s:St}:∀ {cs:List AV},cs.all pc=true->lall AV.cell cs=true->Yd (fz 9 s.h) cs=cs
 |[],_,_=>GI
 |v :: l,hp,hc=>by
  rw[Qbb,Qaq] at hp;have h1:v.cell=true/\lall AV.cell l=true:=by
   have:cond v.cell (lall AV.cell l) false=true:=hc;cases h:v.cell with
   |true=>rw[h] at this;exact⟨rfl,this⟩
   |false=>rw[h] at this;cases this
  exact Qc (W0 8 hp.1) h1.1 (HQ hp.2 h1.2)
theorem jrp {α:Type}{enc:α->List AV}{z:Nat}(hz:∀ x,(enc x).length=z){xs:List α}{k:IntKind}{i:Nat}(hi:i<=xs.length){st:St}{K:AV->St->Prop}:jk (uF z (.lst xs.length (fl enc xs)) none (some (.int k (i:Int))) st) K=K (.lst i (fl enc (xs.take i))) st:=by
 have e1:Qap (Qaw i z) (jS (fl enc xs))=true:=by
  rw[jT,zF hz];exact yj (QaM z hi)
 simp only[uF,optA,Gw,yj hi,yj (QaG i),e1,cond_true,jk,yh,yX];have e2:(fl enc xs).drop (Qaw 0 z)=fl enc xs:=by rw[show Qaw 0 z=0 from Qbq z];rfl
 have e3:Qaw (Qbh i 0) z=i * z:=rfl;rw[e2,e3,jeo hz];rfl
theorem jnE (hb:NB base)(xs:List AsT)(hl:xs.length<=1000000)(a:AsT)(st:St){q:Nat}(C:Cl st q (asE a))(n:Nat)(hn:n=xs.length)(K Kp:AV->St->Prop) :
  XB Qaf base 98 [.lst n (fl asE xs),.fn 99 [.ptr q 0]] st K Kp=K (.bool (decide (0<=fi (λx=>decide (x.name=a.name)) xs))) st:=by
 subst hn;refine(jnD hb xs (by unfold BIG;omega) a).xb (Zo rfl (Jm ?_ ud)) (λst=>hb.no 98 (by decide) _ _) K Kp;show(Xa st.h [.ptr q 0]).map (AV.fn 99)=_;have:wx st.h (.ptr q 0)=some (.lptr (asE a) 0):=WX C (HQ (Q3 a) (gV a));simp only[Xa,this];rfl
theorem jfc (hb:NB base){p:Nat}{v1 v2 v3 mm:AV}{vars:List VarT}{enums:List EnumT}{fm:Bool}{st:St}(C:Ck p v1 v2 v3 mm vars enums fm st)(hl:vars.length<=1000000)(s:List Nat)(K Kp:AV->St->Prop) :
  XB Qaf base 97 [.ptr p 0,.str s] st K Kp=K (.int .i64 (jY vars s)) st:=by
 obtain⟨r,hr⟩:=C.lend;exact(Ki hb vars (by unfold BIG;omega) s _).xb (Jm hr (Zo rfl ud)) (λst=>hb.no 97 (by decide) _ _) K Kp
def mvc:List MoveT->List AV->List AV
 |m :: ms,u :: us=>(eE m.when ++ [u]) ++ mvc ms us
 |_,_=>[]
theorem jd8:∀ {ms:List MoveT} {us:List AV} {m:MoveT} {u:AV},us.length=ms.length->mvc (ms ++ [m]) (us ++ [u])=mvc ms us ++ (eE m.when ++ [u])
 |[],[],m,u,_=>by simp[mvc]
 |m' :: ms,u' :: us,m,u,h=>by
  show(eE m'.when ++ [u']) ++ mvc (ms ++ [m]) (us ++ [u])=((eE m'.when ++ [u']) ++ mvc ms us) ++ (eE m.when ++ [u]);rw[jd8 (by simpa using h)];simp only[QaY]
 |[],u' :: us,m,u,h=>by simp at h
 |m' :: ms,[],m,u,h=>by simp at h
def UU (lo hi:Nat)(s:St)(v3:AV):List MoveT->List AV->Prop
 |[],[]=>True
 |m :: ms,u :: us=>(Lv lo hi s u m.acts.length (fl seE m.acts) 7/\Df v3 u)/\UU lo hi s v3 ms us
 |_,_=>False
theorem UU.imp {lo hi lo' hi':Nat}{s s':St}{v3 v3':AV}(f:∀ u n cs,Lv lo hi s u n cs 7/\Df v3 u->Lv lo' hi' s' u n cs 7/\Df v3' u):∀ {ms:List MoveT} {us:List AV},UU lo hi s v3 ms us->UU lo' hi' s' v3' ms us
 |[],[],_=>trivial
 |m :: ms,u :: us,h=>⟨f _ _ _ h.1,UU.imp f h.2⟩
theorem UU.len {lo hi:Nat}{s:St}{v3:AV}:∀ {ms:List MoveT} {us:List AV},UU lo hi s v3 ms us->us.length=ms.length
 |[],[],_=>rfl
 |m :: ms,u :: us,h=>by simp[UU.len h.2]
theorem UU.app {lo hi:Nat}{s:St}{v3:AV}{m:MoveT}{u:AV}(hu:Lv lo hi s u m.acts.length (fl seE m.acts) 7/\Df v3 u):∀ {ms:List MoveT} {us:List AV},UU lo hi s v3 ms us->UU lo hi s v3 (ms ++ [m]) (us ++ [u])
 |[],[],_=>⟨hu,trivial⟩
 |m' :: ms,u' :: us,h=>⟨h.1,UU.app hu h.2⟩
structure MR (p mb lo hi:Nat)(m:ModT)(ts:List (List Nat))(v1 v2 v3:AV)(us:List AV)(s:St):Prop where
 cp:Cl s p [v1,v2,v3,.map mb,.bool false]
 mp:Mp s mb ts
 l1:Lv lo hi s v1 m.vars.length (fl vaE m.vars) 7
 l2:Lv lo hi s v2 m.enums.length (fl enE m.enums) 4
 l3:Lv lo hi s v3 m.moves.length (mvc m.moves us) 7
 uu:UU lo hi s v3 m.moves us
 d13:Df v3 v1
 d23:Df v3 v2
 hp:p<lo
 hm:mb<lo
 pm:p≠mb
 lo:lo<=hi
 hi:hi<=s.nx
def MZ (p mb lo:Nat)(m:ModT)(ts:List (List Nat))(s:St):Prop:=∃ v1 v2 v3 us,MR p mb lo s.nx m ts v1 v2 v3 us s
theorem Df.symm2 {v w:AV}(h:Df v w):Df w v:=by
 unfold Df at *;cases v<;>cases w<;>first|trivial|exact λe=>h e.symm
section
variable {p mb lo hi:Nat} {m:ModT} {ts us:List (List Nat)} {v1 v2 v3:AV} {ws:List AV} {s t:St}
theorem MS.mr (S:MS p mb lo hi m ts v1 v2 v3 s)(h:m.moves=[]):MR p mb lo hi m ts v1 v2 v3 [] s:=by
 obtain⟨C,M,l1,l2,l3,d12,d13,d23,hp,hm,pm,h1,h2⟩:=S;refine⟨C,M,l1,l2,?_,?_,Df.symm2 d13,Df.symm2 d23,hp,hm,pm,h1,h2⟩
 ·rw[h] at l3 ⊢;exact l3
 ·rw[h];trivial
theorem MR.ck (S:MR p mb lo hi m ts v1 v2 v3 ws s):Ck p v1 v2 v3 (.map mb) m.vars m.enums false s:=by
 obtain⟨C,M,l1,l2,l3,uu,d13,d23,hp,hm,pm,h1,h2⟩:=S;refine⟨C,l1.lr,l2.lr,?_,?_⟩
 ·intro b k z x e;rcases l1 with ⟨h,_⟩|⟨c,h,h2,_⟩
  ·rw[h] at e;cases e
  ·rw[h] at e;cases e;omega
 ·intro b k z x e;rcases l2 with ⟨h,_⟩|⟨c,h,h2,_⟩
  ·rw[h] at e;cases e
  ·rw[h] at e;cases e;omega
theorem MR.imp (S:MR p mb lo hi m ts v1 v2 v3 ws s){hi':Nat}(C:Cl t p [v1,v2,v3,.map mb,.bool false])(M:Mp t mb us)(f:∀ v n cs z,Lv lo hi s v n cs z->Lv lo hi' t v n cs z)(h1:hi<=hi')(h2:hi'<=t.nx):MR p mb lo hi' m us v1 v2 v3 ws t:=
 ⟨C,M,f _ _ _ _ S.l1,f _ _ _ _ S.l2,f _ _ _ _ S.l3,S.uu.imp λu n cs h=>⟨f _ _ _ _ h.1,h.2⟩,S.d13,S.d23,S.hp,S.hm,S.pm,Qav S.lo h1,h2⟩
theorem MR.nw (S:MR p mb lo hi m ts v1 v2 v3 ws s)(ds:List AV):MR p mb lo hi m ts v1 v2 v3 ws (Go.Sy.nw s ds):=by
 have C:=S.cp;have h1:=S.hp;have h2:=S.hi;have h3:=S.lo;exact S.imp (ckX) (S.mp.nw ds) (λv n cs z h=>ckX) (Qao _) (by rw[jg];omega)
theorem MR.wr (S:MR p mb lo hi m ts v1 v2 v3 ws s){c:Nat}(hc:hi<=c)(o:Nat)(ds:List AV):MR p mb lo hi m ts v1 v2 v3 ws (Go.Sy.wr s c o ds):=by
 have C:=S.cp;have h1:=S.hp;have h2:=S.hi;have h3:=S.lo;have h4:=S.hm;exact S.imp (ckX) (S.mp.wr (by omega) o ds) (λv n cs z h=>ckX) (Qao _) (by rw[jh];omega)
theorem MR.take (S:MR p mb lo hi m ts v1 v2 v3 ws s)(us:List (List Nat)):MR p mb lo hi m us v1 v2 v3 ws (Go.Sy.mp s mb (mpl us)):=
 S.imp (by rw[W9 S.pm];exact S.cp) S.mp.put (λv n cs z h=>h.mp S.hm) (Qao _) S.hi
theorem MR.keep (S:MR p mb lo hi m ts v1 v2 v3 ws s)(k:Keep p s t)(C':Cl t p [v1,v2,v3,.map mb,.bool false]):MR p mb lo hi m ts v1 v2 v3 ws t:=
 S.imp C' (S.mp.keep k.nx (k.get mb S.mp.lt (λe=>S.pm e.symm))) (λv n cs z h=>k.lv h (.inl S.hp)) (Qao _) (Qav S.hi k.nx)
theorem MR.up (S:MR p mb lo hi m ts v1 v2 v3 ws s){hi':Nat}(h:hi<=hi')(h2:hi'<=s.nx):MR p mb lo hi' m ts v1 v2 v3 ws s:=
 S.imp S.cp S.mp (λv n cs z k=>k.up h) h h2
theorem MR.bare (S:MR p mb lo hi m ts v1 v2 v3 ws s):MR p mb lo hi m ts v1 v2 v3 ws s.bare:=
 S.imp S.cp.bar ⟨S.mp.lt,S.mp.get⟩ (λv n cs z h=>by rw[jG];exact h) (Qao _) S.hi
theorem MR.ofbk {u:St}(S:MR p mb lo hi m ts v1 v2 v3 ws s):MR p mb lo hi m ts v1 v2 v3 ws (bk u s):=by
 have e:∀ b cs,Cl s b cs->Cl (bk u s) b cs:=λb cs h=>⟨h.lt,h.row,h.len,h.cell⟩;exact S.imp (e _ _ S.cp) ⟨S.mp.lt,S.mp.get⟩ (λv n cs z h=>h.imp id λ⟨c,h1,h2,h3,h4,h5,h6⟩=>⟨c,h1,h2,h3,e _ _ h4,h5,h6⟩) (Qao _) S.hi
theorem MR.aps (S:MR p mb lo hi m ts v1 v2 v3 ws s){lo' hi' n' z':Nat}{v':AV}{cs':List AV}(V:Lv lo' hi' s v' n' cs' z')(h:hi<=lo')(ds:List AV):MR p mb lo hi m ts v1 v2 v3 ws (Go.Sy.aps v' s ds):=by
 have h0:=S.hp;have h1:=S.hm;have h2:=S.lo;have h3:=S.hi;exact S.imp (S.cp.aps V (.inl (by omega))) (S.mp.keep (by rw[jr];omega) (V.get s ds mb (.inl (by omega)) S.mp.lt)) (λv n cs z k=>k.aps V (.inl h)) (Qao _) (by rw[jr];omega)
theorem Lv.low {lo lo' hi n z:Nat}{s:St}{v:AV}{cs:List AV}(h:Lv lo' hi s v n cs z)(h2:lo<=lo'):Lv lo hi s v n cs z:=h.imp id λ⟨c,h1,h3,h4,h5,h6,h7⟩=>⟨c,h1,h3,h4,h5,by omega,h7⟩
theorem MR.move (S:MR p mb lo hi m ts v1 v2 v3 ws s)(e:MoveT){u:AV}{z:Nat}(V:Lv z s.nx s u e.acts.length (fl seE e.acts) 7)(hz:hi<=z):MR p mb lo (s.nx+1) { m with moves:=m.moves ++ [e] } ts v1 v2 (apv 7 v3 s) (ws ++ [u]) (Go.Sy.wr (Go.Sy.aps v3 s (eE e.when ++ [u])) p 2 [apv 7 v3 s]):=by
 obtain⟨C,M,l1,l2,l3,uu,d13,d23,hp,hm,pm,h1,h2⟩:=S;have h4:=C.lt;have hn:(Go.Sy.wr (Go.Sy.aps v3 s (eE e.when ++ [u])) p 2 [apv 7 v3 s]).nx=s.nx+1:=by rw[jh,jr]
 refine⟨?_,?_,?_,?_,?_,?_,(Df.put l1 h2).1,(Df.put l2 h2).1,hp,hm,pm,by omega,by rw[hn];exact Qao _⟩
 ·exact(cast (l3.cl s (eE e.when ++ [u]) _ p (.inl hp) h4).symm C:Cl (Go.Sy.aps v3 s (eE e.when ++ [u])) p _).wr 2 [apv 7 v3 s]
 ·exact M.keep (by rw[hn];omega) (by rw[Je (λh=>pm h.symm)];exact l3.get s (eE e.when ++ [u]) mb (.inl hm) M.lt)
 ·rw[jz (.inl hp)];exact(l1.apsD d13).up (by omega)
 ·rw[jz (.inl hp)];exact(l2.apsD d23).up (by omega)
 ·rw[jz (.inl hp),Qal,jd8 uu.len];exact l3.put (by rw[Qal,zw];rfl) (by omega) rfl
 ·refine UU.app ?_ (uu.imp λu n cs h=>?_)
  ·rw[jz (.inl hp)];refine⟨((V.aps l3 (.inr hz)).up (by omega)).low (by omega),?_⟩;have V':Lv lo s.nx s u e.acts.length (fl seE e.acts) 7:=V.low (by omega);exact(Df.put V' (Qao _)).1
  ·rw[jz (.inl hp)];exact⟨(h.1.apsD h.2).up (by omega),(Df.put h.1 h2).1⟩
end
def vz:VarT:=⟨[],0,[],0,0,false,0⟩
def Qt (vars:List VarT)(enums:List EnumT):List SetT->List AsT->List AsT->KR (List SetT)
 |acc,done,[]=>.ok acc
 |acc,done,a :: rest=>if jY vars a.name<0 then .er 161 a.line a.col
  else if 0<=fi (λx=>decide (x.name=a.name)) done then .er 162 a.line a.col
  else match yz vars enums false a.to (vars.getD (jY vars a.name).toNat vz).kind (vars.getD (jY vars a.name).toNat vz).enum with
   |.er x y z=>.er x y z
   |.ok y=>Qt vars enums (acc ++ [⟨jY vars a.name,y⟩]) (done ++ [a]) rest
def Xs (m:ModT)(ts:List (List Nat))(r:RuleT):KR (ModT×List (List Nat)):=match yz m.vars m.enums false r.when 2 [] with
 |.er a b c=>.er a b c
 |.ok w=>match Qt m.vars m.enums [] [] r.acts with
  |.er a b c=>.er a b c
  |.ok ss=>.ok ({ m with moves:=m.moves ++ [⟨w,ss⟩] },ts)
def KZ (p mb lo:Nat)(st:St)(r:KR (ModT×List (List Nat)))(K Kp:AV->St->Prop):Prop:=match r with
 |.ok y=>∀ s',Kq p mb lo st s'->MZ p mb lo y.1 y.2 s'->K (.tup []) s'
 |.er c l k=>∀ s',Kq p mb lo st s'->Kp (kf c l k) s'
def moL (w:Ex)(vl:AV):List AV:=[.int .i64 w.op,.int .i64 w.num,.str w.name,.lst w.kids.length (fl eE w.kids),.int .i64 w.line,.int .i64 w.col,vl]
theorem jp2 (w:Ex)(vl:AV):eE w ++ [vl]=moL w vl:=by rw[qE];rfl
def rQ (st:St)(K:AV->St->Prop):Out->Prop:=QU Qaf y64.res λv s=>K v (back st s)
structure RS (p mb lo q z:Nat)(m:ModT)(ts:List (List Nat))(v1 v2 v3:AV)(ws:List AV)(r:RuleT)(w:Ex)(acc:List SetT)(vl:AV)(st:St)(L:Sl)(s:St):Prop where
 S:MR p mb lo q m ts v1 v2 v3 ws s
 k:Kq p mb lo st.bare s
 qz:q<z
 nx:z+1<=s.nx
 c3:Cl s q (ruE r)
 c4:Cl s z (moL w vl)
 lv:Lv (z+1) s.nx s vl acc.length (fl seE acc) 7
 i0:Has L 0 (.ptr p 0)
 i3:Has L 3 (.ptr q 0)
 i4:Has L 4 (.ptr z 0)
theorem RS.push {p mb lo q z:Nat}{m:ModT}{ts:List (List Nat)}{v1 v2 v3:AV}{ws:List AV}{r:RuleT}{w:Ex}{acc:List SetT}{vl:AV}{st:St}{L:Sl}{s:St}(D:RS p mb lo q z m ts v1 v2 v3 ws r w acc vl st L s){c:Nat}{v:AV}(h:c≠0/\c≠3/\c≠4):RS p mb lo q z m ts v1 v2 v3 ws r w acc vl st ((c,v) :: L) s:=by
 obtain⟨S,k,qz,nx,c3,c4,lv,i0,i3,i4⟩:=D;exact⟨S,k,qz,nx,c3,c4,lv,by rw[jb h.1];exact i0,by rw[jb h.2.1];exact i3,by rw[jb h.2.2];exact i4⟩
set_option maxHeartbeats 4000000 in
theorem jpF (hb:NB base){p mb lo q z:Nat}{m:ModT}{ts:List (List Nat)}{v1 v2 v3:AV}{ws:List AV}{r:RuleT}{w:Ex}{acc:List SetT}{vl:AV}{st:St}{L:Sl}{s:St}(D:RS p mb lo q z m ts v1 v2 v3 ws r w acc vl st L s)(hM:m.moves.length<=1000000)(K Kp:AV->St->Prop)
  (hK:KZ p mb lo st (.ok ({ m with moves:=m.moves ++ [⟨w,acc⟩] },ts)) K Kp):xC Qaf base jeU L s (rQ st K) (dP st Kp):=by
 obtain⟨S,k,qz,nx,C3,C4,lv,i0,i3,i4⟩:=D;have C:=S.cp;have l3:=S.l3;have hp:=S.hp;have hlo:=S.lo;have hhi:=S.hi;have ve3:=l3.eqs;have vc:∀ l,lall AV.cell (vl :: l)=lall AV.cell l:=λl=>by show cond vl.cell _ false=_;rw[lv.cell];rfl
 have Ap:=λst' bv xc xx K h hv=>@J5 lo q m.moves.length 7 st' v3 (mvc m.moves ws) K 96 bv xc xx h (by decide) (by omega) (by omega) hv;have hqp:q≠p/\z≠p:=by omega
 have lv2:Lv (z+1) (Go.Sy.nw s (moL w vl)).nx (Go.Sy.nw s (moL w vl)) vl acc.length (fl seE acc) 7:=by
  refine Lv.up (hi:=s.nx) ?_ (by(first|omega|(simp only[jg,jh,jt,jr,jl];first|done|omega)))
  exact ckX
 have S3:=(S.nw (moL w vl)).move ⟨w,acc⟩ (u:=vl) lv2 (by omega);rw[jp2] at S3;have q2:=(((k.nw (by omega) (moL w vl)).aps l3 (by(first|omega|(simp only[jg,jh,jt,jr,jl];first|done|omega))) (moL w vl)).wr (.inl rfl) 2 [apv 7 v3 (Go.Sy.nw s (moL w vl))]).bk;have S2:=(S3.up (by(first|omega|(simp only[jg,jh,jt,jr,jl];first|done|omega))) (Qao _)).ofbk (u:=st);have gp:rat s.h p 2=v3:=C.cell 2 (by simp only[Qak,Qan];omega);clear S3 lv2;unfold moL at *;unfold rQ dP y64;rw[(by unfold jeU;simp only[qq];rfl:jeU=_)]
 (have zz:=aI @vc (aI @l3.ln (aI @l3.rts (aI @jz (aI @jE (aI @jJ (aI @l3 (aI @jA (aI @jH (aI @jK (aI C3.r (aI C4.r C.r)))))))))));(repeat'(first|apply jc<;>intro _|simp(disch:=first|exact jO|fail) only[ja i0,ja i3,ja i4,Ap,l3.at,jA,C3.q,C4.q,C.q,vc,l3.ln,l3.rts,jz,jE,jJ,l3,jA,jH,jK,C3.r,C4.r,C.r,je,jj,jX,ji,jd,jm,jn,jp,jq,jo,rzZ,Qab,Qac,Qad,Qaa,Qae]));all_goals clear zz)
 exact hK _ q2 ⟨_,_,_,_,S2⟩
theorem jrC:Go.Ev.isAgg Qaf 67=some false:=by kernel_rfl
theorem jrB:Go.Ev.sizeOf Qaf 67=some 1:=by kernel_rfl
theorem jpx {b o:Nat}{v:AV}{h:T AO}(ho:o<qr h b)(hv:rat h b o=v)(hc:eqs v=true):(jZ Qaf 67 (.ptr b o) v h=true)=True:=eq_true (QE jrC jrB ho hv hc)
def zA9:List AV:=[.str [],.int .i64 0,.int .i64 0,.str [],.nils,.int .i64 0,.int .i64 0,.int .i64 0,.int .i64 0]
theorem jbI {vars:List VarT}{enums:List EnumT}{acc:List SetT}{xs:List AsT}{k:Nat}(hk:k<xs.length):Qt vars enums acc (xs.take k) (xs.drop k)=if jY vars xs[k].name<0 then .er 161 xs[k].line xs[k].col
  else if 0<=fi (λx=>decide (x.name=xs[k].name)) (xs.take k) then .er 162 xs[k].line xs[k].col
  else match yz vars enums false xs[k].to (vars.getD (jY vars xs[k].name).toNat vz).kind (vars.getD (jY vars xs[k].name).toNat vz).enum with
   |.er x y z=>.er x y z
   |.ok y=>Qt vars enums (acc ++ [⟨jY vars xs[k].name,y⟩]) (xs.take (k+1)) (xs.drop (k+1)):=by
 have e:xs.drop k=xs[k] :: xs.drop (k+1):=(Qby hk).symm;rw[e,Qt,<-yO hk]<;>rfl
set_option maxHeartbeats 8000000 in
theorem jpG (hb:NB base){p mb lo q z:Nat}{m:ModT}{ts:List (List Nat)}{v1 v2 v3:AV}{ws:List AV}{r:RuleT}{w:Ex}{st:St}{L:Sl}{s:St}(D:RS p mb lo q z m ts v1 v2 v3 ws r w [] .nils st L s)(V:VarsOK m.vars m.enums)(hx:∀ a∈r.acts,OkE a.to)(hbl:r.acts.length<=1000000)(hM:m.moves.length<=1000000)(K Kp:AV->St->Prop)
  (hK:KZ p mb lo st (match Qt m.vars m.enums [] [] r.acts with | .er a b c=>.er a b c | .ok ss=>.ok ({ m with moves:=m.moves ++ [⟨w,ss⟩] },ts)) K Kp):xC Qaf base jeV L s (rQ st K) (dP st Kp):=by
 have i0:=D.i0;have i3:=D.i3;have i4:=D.i4;have C3:=D.c3;rw[(by unfold jeV;simp only[qq];rfl:jeV=_)]
 (have zz:=C3.r;(repeat'(first|apply jc<;>intro _|simp(disch:=first|exact jO|fail) only[ja i0,ja i3,ja i4,C3.q,C3.r,je,jj,jX,ji,jd,jm,jn,jp,jq,jo,rzZ,Qab,Qac,Qad,Qaa,Qae]));all_goals clear zz)
 refine qp r.acts.length (λk L s=>(∃ acc vl,acc.length=k/\Qt m.vars m.enums [] [] r.acts=Qt m.vars m.enums acc (r.acts.take k) (r.acts.drop k)/\RS p mb lo q z m ts v1 v2 v3 ws r w acc vl st L s)/\Has L 14 (.lst r.acts.length (fl asE r.acts))) (by first|assumption|omega) (by decide) (by simp(disch:=decide) only[jf,jb]) (by simp(disch:=decide) only[jf,jb]) ?_ (λk L s v h=>(by obtain⟨⟨acc,vl,h0,h1,h2⟩,h3⟩:=h;refine⟨⟨acc,vl,h0,h1,h2.push (by decide)⟩,?_⟩;simp(disch:=decide) only[jb];assumption)) (λk L s v h=>(by obtain⟨⟨acc,vl,h0,h1,h2⟩,h3⟩:=h;refine⟨⟨acc,vl,h0,h1,h2.push (by decide)⟩,?_⟩;simp(disch:=decide) only[jb];assumption)) (λk L s hk hI hi hn=>?_) (λL s hI=>?_)
 ·refine⟨⟨[],.nils,rfl,rfl,((D.push (by decide)).push (by decide)).push (by decide)⟩,?_⟩;simp(disch:=decide) only[jb,jf]
 ·obtain⟨⟨acc,vl,hacc,h1,D⟩,i14⟩:=hI;obtain⟨S,k0,qz,nx,C3,C4,lv,i0,i3,i4⟩:=D;obtain⟨x1,x2⟩:=hx _ (Qax hk);have hlo:=S.lo;have hhi:=S.hi;have hp:=S.hp;have hqm:q≠p/\z≠p:=by omega
  have zl9:(asE r.acts[k]).length=zA9.length:=by rw[ZK];rfl
  have S1:=(S.nw zA9).wr (c:=s.nx) (by omega) 0 (asE r.acts[k]);have k1:=(k0.nw (by omega) zA9).wr (c:=s.nx) (.inr (by omega)) 0 (asE r.acts[k]);have C6:=(Cl.new s zA9).wr0 zl9;have D3:Cl (Go.Sy.wr (Go.Sy.nw s zA9) s.nx 0 (asE r.acts[k])) q (ruE r):=ckX
  have D4:Cl (Go.Sy.wr (Go.Sy.nw s zA9) s.nx 0 (asE r.acts[k])) z (moL w vl):=ckX
  have lv1:Lv (z+1) s.nx (Go.Sy.wr (Go.Sy.nw s zA9) s.nx 0 (asE r.acts[k])) vl acc.length (fl seE acc) 7:=ckX
  have hn1:(Go.Sy.wr (Go.Sy.nw s zA9) s.nx 0 (asE r.acts[k])).nx=s.nx+1:=rfl;have VC:=λnm K Kp=>jfc hb S1.ck V.len nm K Kp;have HA:=λK Kp=>jnE hb (r.acts.take k) (by rw[QaH];omega) r.acts[k] _ C6 k (by rw[QaH];omega) K Kp;have SL:=λst K=>@jrp _ asE 9 ZK r.acts .i64 k (Qct hk) st K;rw[h1,jbI hk] at hK;unfold zA9 at *
  (have zz:=aI C3.r C4.r;(repeat'(first|apply jc<;>intro _|simp(disch:=first|exact jO|fail) only[ja i0,ja i3,ja i4,ja i14,ja hi,ja hn,C3.q,C4.q,C3.r,C4.r,je,jj,jX,ji,jd,jm,jn,jp,jq,jo,rzZ,Qab,Qac,Qad,Qaa,Qae]));all_goals clear zz)
  generalize Go.Sy.wr (Go.Sy.nw s [.str [],.int .i64 0,.int .i64 0,.str [],.nils,.int .i64 0,.int .i64 0,.int .i64 0,.int .i64 0]) s.nx 0 (asE r.acts[k])=t1 at *;have C1:=S1.cp;by_cases c1:jY m.vars r.acts[k].name<0
  ·rw[if_pos c1] at hK
   (have zz:=aI D3.r (aI D4.r C6.r);(repeat'(first|apply jc<;>intro _|simp(disch:=first|exact jO|fail) only[ja i0,ja i3,ja i4,VC,c1,zQ hb,D3.q,D4.q,C6.q,D3.r,D4.r,C6.r,je,jj,jX,ji,jd,jm,jn,jp,jq,jo,rzZ,Qab,Qac,Qad,Qaa,Qae]));all_goals clear zz)
   exact hK _ k1.bk
  rw[if_neg c1] at hK;by_cases c2:0<=fi (λx=>decide (x.name=r.acts[k].name)) (r.acts.take k)
  ·rw[if_pos c2] at hK
   (have zz:=aI D3.r (aI D4.r C6.r);(repeat'(first|apply jc<;>intro _|simp(disch:=first|exact jO|fail) only[ja i0,ja i3,ja i4,VC,c1,HA,SL,c2,zQ hb,D3.q,D4.q,C6.q,D3.r,D4.r,C6.r,je,jj,jX,ji,jd,jm,jn,jp,jq,jo,rzZ,Qab,Qac,Qad,Qaa,Qae]));all_goals clear zz)
   exact hK _ k1.bk
  rw[if_neg c2] at hK;have hlt:jY m.vars r.acts[k].name<(m.vars.length:Int):=ZD;have hi2:(jY m.vars r.acts[k].name).toNat<m.vars.length:=by omega
  have eg:m.vars.getD (jY m.vars r.acts[k].name).toNat vz=m.vars[(jY m.vars r.acts[k].name).toNat]:=by simp[QaJ,hi2]
  rw[eg] at hK;have Lw:=S1.l1;rcases id Lw with ⟨_,e0,_⟩|⟨b,rfl,b1,b2,Ce,b5,b6⟩
  ·omega
  have gl:qr t1.h b=m.vars.length * 7:=by rw[Ce.len,zF Xm]
  have ge1:rat t1.h b ((jY m.vars r.acts[k].name).toNat * 7+1)=.int .i64 m.vars[(jY m.vars r.acts[k].name).toNat].kind:=by
   rw[Ce.cell _ (by rw[zF Xm];omega),vB Xm hi2 (by decide)];rfl
  have ge2:rat t1.h b ((jY m.vars r.acts[k].name).toNat * 7+2)=.str m.vars[(jY m.vars r.acts[k].name).toNat].enum:=by
   rw[Ce.cell _ (by rw[zF Xm];omega),vB Xm hi2 (by decide)];rfl
  have gp:rat t1.h p 0=.slice b 0 m.vars.length m.vars.length 7 false:=C1.cell 0 (by simp only[Qak,Qan];omega);unfold moL at D4 C4
  (have zz:=aI @gl (aI @ge1 (aI @ge2 (aI C1.r (aI D3.r (aI D4.r C6.r)))));(repeat'(first|apply jc<;>intro _|simp(disch:=first|exact jO|fail) only[ja i0,ja i3,ja i4,VC,c1,HA,SL,c2,ge1,ge2,Yt,Vm,Vl (base:=base),C1.q,D3.q,D4.q,C6.q,gl,ge1,ge2,C1.r,D3.r,D4.r,C6.r,je,jj,jX,ji,jd,jm,jn,jp,jq,jo,rzZ,Qab,Qac,Qad,Qaa,Qae]));all_goals clear zz)
  rw[<-qE];refine Us hb V _ x2 (Yv _ x1) _ _ S1.ck _ _ ?_;cases hr:yz m.vars m.enums false r.acts[k].to m.vars[(jY m.vars r.acts[k].name).toNat].kind m.vars[(jY m.vars r.acts[k].name).toNat].enum with
  |er a b c=>
   rw[hr] at hK;intro s' k2;repeat'(first|apply jc<;>intro _|simp(disch:=first|exact dzG|fail) only[Yt,Vm,Vl (base:=base),je,jj,jX,ji,jd,jm,jn,jp,jq,jo,rzZ,Qab,Qac,Qad,Qaa,Qae])
   exact hK _ (k1.keep k2 (by omega)).bk
  |ok y=>
   rw[hr] at hK;dsimp only at hK;intro s' k2 C2;have hs':=k2.nx;have k3:=k1.keep k2 (by omega);have S3:=S1.keep k2 C2;have E3:=k2.cl D3 hqm.1;have E4:=k2.cl D4 hqm.2;have lv2:=k2.lv lv1 (.inl (by omega));have ve:=lv2.eqs;have gz:rat s'.h z 6=vl:=E4.cell 6 (by simp only[Qak,Qan];omega);have Ap:=λst' bv xc xx K h hv=>@J5 (z+1) s.nx acc.length 7 st' vl (fl seE acc) K 80 bv xc xx h (by decide) (by omega) (by omega) hv;have a59:jZ Qaf 67 (.ptr z 6) vl t1.h=true:=(jpx (by rw[D4.len];simp only[Qak,Qan];omega) (D4.cell 6 (by simp only[Qak,Qan];omega)) ve).mpr trivial;clear S1 k1 k2 C2 C6 D3 D4 C3 C4 S k0 VC HA SL ge1 ge2 gl gp Ce Lw C1 lv lv1;have hzp:p≠z:=λe=>hqm.2 e.symm;have lv3:Lv (z+1) (Go.Sy.nw s' (seE ⟨jY m.vars r.acts[k].name,y⟩)).nx (Go.Sy.nw s' (seE ⟨jY m.vars r.acts[k].name,y⟩)) vl acc.length (fl seE acc) 7:=by
    refine Lv.up (hi:=s.nx) ?_ (by(first|omega|(simp only[jg,jh,jt,jr,jl];first|done|omega)))
    exact ckX
   have S4:=((S3.nw (seE ⟨jY m.vars r.acts[k].name,y⟩)).aps lv3 (by omega) (seE ⟨jY m.vars r.acts[k].name,y⟩)).wr (c:=z) (by omega) 6 [apv 7 vl (Go.Sy.nw s' (seE ⟨jY m.vars r.acts[k].name,y⟩))];have k4:=((k3.nw (by omega) (seE ⟨jY m.vars r.acts[k].name,y⟩)).aps (lv3.low (lo:=lo) (by omega)) (by(first|omega|(simp only[jg,jh,jt,jr,jl];first|done|omega))) (seE ⟨jY m.vars r.acts[k].name,y⟩)).wr (c:=z) (.inr (by omega)) 6 [apv 7 vl (Go.Sy.nw s' (seE ⟨jY m.vars r.acts[k].name,y⟩))];have hlz:z+1<=s'.nx:=by omega
   (have zz:=aI @lv2.ln (aI @lv2.rts (aI @jz (aI @jE (aI @jJ (aI @lv2 (aI @jA (aI @jH (aI @jK (aI @ve (aI E3.r E4.r))))))))));(repeat'(first|apply jc<;>intro _|simp(disch:=first|exact jO|fail) only[ja i0,ja i3,ja i4,Ap,lv2.at,jpx,ve,jA,E3.q,E4.q,lv2.ln,lv2.rts,jz,jE,jJ,lv2,jA,jH,jK,ve,E3.r,E4.r,je,jj,jX,ji,jd,jm,jn,jp,jq,jo,rzZ,Qab,Qac,Qad,Qaa,Qae]));all_goals clear zz)
   refine⟨a59,⟨⟨acc ++ [⟨jY m.vars r.acts[k].name,y⟩],_,?_,h1.trans ?_,S4,k4,qz,?_,?_,Cl.wr (?_:Cl _ z (moL w vl)) 6 [apv 7 vl (Go.Sy.nw s' (seE ⟨jY m.vars r.acts[k].name,y⟩))],?_,?_,?_,?_⟩,?_⟩,?_,?_⟩
   ·rw[Qal,hacc];rfl
   ·rw[jbI hk,if_neg c1,if_neg c2,eg,hr]
   ·rw[jh,jr,jg];omega
   ·have:=(E3.nw (seE ⟨jY m.vars r.acts[k].name,y⟩)).aps lv3 (.inl (by omega)) (news:=seE ⟨jY m.vars r.acts[k].name,y⟩)
    exact ckX
   ·exact(E4.nw (seE ⟨jY m.vars r.acts[k].name,y⟩)).aps lv3 (.inl (by omega))
   ·rw[jz (.inl (by omega)),Qal,Qd,JG];exact lv3.put (vX _) (by(first|omega|(simp only[jg,jh,jt,jr,jl];first|done|omega))) (by(first|omega|(simp only[jg,jh,jt,jr,jl];first|done|omega)))
   all_goals(simp(disch:=decide) only[jb];assumption)
 ·obtain⟨⟨acc,vl,hacc,h1,D⟩,i14⟩:=hI;rw[QaB,Qcn,Qt] at h1;rw[h1] at hK;repeat'(first|apply jc<;>intro _|simp(disch:=first|exact dzG|fail) only[je,jj,jX,ji,jd,jm,jn,jp,jq,jo,rzZ,Qab,Qac,Qad,Qaa,Qae])
  exact jpF hb D hM K Kp hK
def z7:List AV:=[.int .i64 0,.int .i64 0,.str [],.nils,.int .i64 0,.int .i64 0,.nils]
set_option maxHeartbeats 4000000 in
theorem jpE (hb:NB base){p mb lo:Nat}{m:ModT}{ts:List (List Nat)}{st:St}(r:RuleT)(V:VarsOK m.vars m.enums)(hw:OkE r.when)(hx:∀ a∈r.acts,OkE a.to)(hbl:r.acts.length<=1000000)(hM:m.moves.length<=1000000)(H:MZ p mb lo m ts st)(K Kp:AV->St->Prop)(hK:KZ p mb lo st (Xs m ts r) K Kp):XB Qaf base 71 [.ptr p 0,.agg (ruE r)] st K Kp:=by
 obtain⟨v1,v2,v3,ws,S⟩:=H;have hp:=S.hp;have hlo:=S.lo;have hhi:=S.hi;refine Jv x64 (by rfl) (hb.at0 71 (by decide) (by decide) _ _) ?_;simp only[y64,ju,Qai,Qaj,Qag,Qah];rw[(by unfold z64;simp only[qq];rfl:z64=_)];have hnx:st.bare.nx=st.nx:=rfl;have S0:=S.bare.nw (ruE r);have q1:=(Kq.refl:Kq p mb lo st.bare st.bare).nw (by omega) (ruE r);have Cb:Cl (Go.Sy.nw st.bare (ruE r)) st.nx (ruE r):=Cl.new st.bare (ruE r);unfold Xs at hK
 (have zz:=@Cb.r;(repeat'(first|apply jc<;>intro _|simp(disch:=first|exact jO|fail) only[Cb.q,Cb.r,je,jj,jX,ji,jd,jm,jn,jp,jq,jo,rzZ,Qab,Qac,Qad,Qaa,Qae]));all_goals clear zz)
 rw[<-qE];have hn0:(Go.Sy.nw st.bare (ruE r)).nx=st.nx+1:=rfl;refine Us hb V _ hw.2 (Yv _ hw.1) _ _ S0.ck _ _ ?_;cases hr:yz m.vars m.enums false r.when 2 [] with
 |er a b c=>
  rw[hr] at hK;intro s' k2;exact hK _ (q1.keep k2 (by omega)).bk
 |ok y=>
  rw[hr] at hK;dsimp only at hK;intro s' k2 C2;have hs':=k2.nx;have k3:=q1.keep k2 (by omega);have S3:=S0.keep k2 C2;have E3:=k2.cl Cb (by omega);rw[qE];have S4:=(S3.nw z7).wr (c:=s'.nx) (by omega) 0 (moL y .nils);have k4:=(k3.nw (by omega) z7).wr (c:=s'.nx) (.inr (by omega)) 0 (moL y .nils);have C4:=(Cl.new s' z7).wr0 (c':=moL y .nils) rfl;unfold z7 moL at *;repeat'(first|apply jc<;>intro _|simp(disch:=first|exact dzG|fail) only[je,jj,jX,ji,jd,jm,jn,jp,jq,jo,rzZ,Qab,Qac,Qad,Qaa,Qae])
  refine jpG hb ⟨S4,k4,?_,by(first|omega|(simp only[jg,jh,jt,jr,jl];first|done|omega)),ckX,C4,Lv.nil,?_,?_,?_⟩ V hx hbl hM K Kp hK
  ·omega
  all_goals simp(disch:=decide) only[jb,jf]
def fcl (c l k:Int):List AV:=[.int .i64 c,.int .i64 l,.int .i64 k]
theorem jsa (c l k:Int)(st:St)(K:AV->St->Prop):jk (gU Qaf 45 (kf c l k) st) K=K (.tup [.agg (fcl c l k),.bool true]) st:=by
 have:gU Qaf 45 (kf c l k) st=.ok (.tup [.agg (fcl c l k),.bool true]) st:=by kernel_rfl
 rw[this];rfl
theorem jqx (c l k:Int)(st:St)(K:AV->St->Prop):jk (Xh Qaf .eql 20 true (kf c l k) .nilif st) K=K (.bool false) st:=by
 have:Xh Qaf .eql 20 true (kf c l k) .nilif st=.ok (.bool false) st:=by kernel_rfl
 rw[this];rfl
theorem gO {fb:Nat}(st:St)(K:Md->St->Prop):DX Qaf base 67 [.ptr fb 0] .calm st.bare K=K .calm st.bare:=by
 refine ja8 (λK hK=>?_) K;refine ul jo1 (by rfl) rfl ?_;simp only[hY,ju,Qai,Qaj,Qag,XM,Ym];rw[(by unfold Wi;simp only[qq];rfl:Wi=_)];repeat'(first|apply jc<;>intro _|simp(disch:=first|exact dzG|fail) only[jiH,Wk,je,jj,jX,ji,jd,jm,jn,jp,jq,jo,rzZ,Qab,Qac,Qad,Qaa,Qae])
 exact hK
theorem jaN {fb:Nat}(c l k:Int)(st:St)(h:qr st.h fb=3)(hn:fb<st.nx)(K:Md->St->Prop) :
  DX Qaf base 67 [.ptr fb 0] (.pan (kf c l k)) st.bare K=K .done (wr (wr (nw st.bare [.int .i64 0,.int .i64 0,.int .i64 0]) st.nx 0 (fcl c l k)) fb 0 (fcl c l k)):=by
 have C:Cl st.bare fb (rats st.h fb 0 3):=(Cl.of_rats hn h (Qv _ _ _ _) (by decide) rfl).bar;have hcs:(rats st.h fb 0 3).length=3:=Qv _ _ _ _;refine ja8 (λK hK=>?_) K;refine ul jo1 (by rfl) rfl ?_;simp only[hY,ju,Qai,Qaj,Qag,XM,Ym];rw[(by unfold Wi;simp only[qq];rfl:Wi=_)];have hl:=C.lt;have l0:=C.len;have hB:st.bare.nx=st.nx:=rfl;have hne:¬ fb=st.bare.nx:=by omega
 unfold fcl at *;have A:=jsa c l k;unfold fcl at A
 (have zz:=aI @l0 @hcs;(repeat'(first|apply jc<;>intro _|simp(disch:=first|exact jO|fail) only[jqx,jip,A,Wk,l0,hcs,je,jj,jX,ji,jd,jm,jn,jp,jq,jo,rzZ,Qab,Qac,Qad,Qaa,Qae]));all_goals clear zz)
 exact hK
theorem jtg {n:Nat}(h:0<n)(cs:List AV)(st:St)(K:AV->St->Prop):jk (Xh Qaf .eql 106 true (.lst n cs) .nils st) K=K (.bool false) st:=by
 obtain⟨k,rfl⟩:∃ k,n=k+1:=⟨n - 1,by omega⟩;have:Xh Qaf .eql 106 true (.lst (k+1) cs) .nils st=.ok (.bool false) st:=by kernel_rfl
 rw[this];rfl
theorem jti {n:Nat}{cs:List AV}(h0:0<n)(hl:cs.length=n)(hn:n<=1000000)(K:AV->St->Prop):jk (Un 1 16 (.slice 0 0 0 0 1 true) (.lst n cs) (nw st0 [])) K=K (.slice 1 0 n n 1 false) (nw (nw st0 []) cs):=by
 have hg:jx (nw st0 []).h 0=some (.row 0 0 [] .e):=by kernel_rfl
 have e1:Qaw n 1=n:=Nat.mul_one n;have e2:Qap n (jS cs)=true:=yj (by rw[jT];omega);have e3:yD cs n=cs:=by rw[yh,<-hl,QaB]
 have e4:Qat (jS cs) n=true:=Vf (by rw[jT,hl]);have e5:QaC 0 n=n:=QaP n;have e6:Qap n 0=false:=jmI h0;have e7:Qap (Qaw n 16) 140737488355328=true:=yj (by show n * 16<=_;omega);have e8:Qap n 9223372036854775807=true:=yj (by omega);have e9:Qaw 0 1=0:=rfl;have e10:Qap (QaC 0 0) 0=true:=rfl;have e11:jU 0 [] .e 0 0=[]:=rfl;have e12:zg [] cs=cs:=by rw[yN];rfl
 simp only[Un,Xv,firstCells,jI,e1,e2,cond_true,e3,yF,e4,hg,yS,e5,e6,cond_false,e7,e8,e9,e10,e11,e12,St.alloc_eq,jk];conv=>rhs;unfold nw
 rw[hl];rfl
set_option maxHeartbeats 1000000 in
theorem jnK (hb:NB base)(vs:List (List Nat))(hv:0<vs.length)(hl:vs.length<=1000000):Tot base 91 [.lst vs.length (vs.map .str)] (.lst vs.length (vs.map .str)):=by
 refine hb.tot ?_ rfl rfl;have N:=jtg hv (vs.map .str);have A:=λK=>jti (cs:=vs.map .str) hv (by simp) hl K;refine jF x99 (by rfl) (hb.pur 91 1 (by decide)) ?_;simp only[y99,ju,Qai,Qaj,Qag,Qah];rw[(by unfold z99;simp only[qq];rfl:z99=_)];repeat'(first|apply jc<;>intro _|simp(disch:=first|exact dzG|fail) only[N,jfK,A,je,jj,jX,ji,jd,jm,jn,jp,jq,jo,rzZ,Qab,Qac,Qad,Qaa,Qae])
 have C:Cl (nw (nw st0 []) (vs.map .str)) 1 (vs.map .str):=Cl.new (nw st0 []) _;refine FzD.slice C.rw_ (by simp) (QaG _) ?_;rw[Nat.mul_one,<-QaR (f:=AV.str),QaB];refine FzsD.pc ?_;simp[pc]
def ye {α β:Type}(f:β->α->KR β):β->List α->KR β
 |b,[]=>.ok b
 |b,x :: xs=>match f b x with
  |.er a c d=>.er a c d
  |.ok b=>ye f b xs
theorem W3 {α β:Type}{f:β->α->KR β}{b:β}{xs:List α}{k:Nat}(hk:k<xs.length):ye f b (xs.drop k)=match f b xs[k] with
  |.er a c d=>.er a c d
  |.ok b=>ye f b (xs.drop (k+1)):=by
 have e:xs.drop k=xs[k] :: xs.drop (k+1):=(Qby hk).symm;rw[e,ye]
abbrev MT:=ModT×List (List Nat)
def YT (b:MT)(p:ProcT):KR MT:=match Xp b.2 p.name p.line p.col with
 |.er a c d=>.er a c d
 |.ok ts=>ye (λb r=>Xs b.1 b.2 r) (b.1,ts) p.rules
def md0:ModT:=⟨[],[],[]⟩
def V7 (b:MT)(l:List EnumT):KR MT:=ye (λb e=>wE b.1 b.2 e) b l
def vE (b:MT)(l:List DeclT):KR MT:=ye (λb e=>XG b.1 b.2 e) b l
def XT (b:MT)(l:List ProcT):KR MT:=ye YT b l
def zY (s:SrcT):KR MT:=match V7 (md0,[]) s.enums with
 |.er a c d=>.er a c d
 |.ok b=>match vE b s.vars with
  |.er a c d=>.er a c d
  |.ok b=>XT b s.procs
def Ut (r:KR MT):AV:=match r with
 |.er c l k=>.tup [.agg (mdE md0),.agg (fcl c l k)]
 |.ok b=>.tup [.agg (mdE b.1),.agg (fcl 0 0 0)]
def mQ (base:Bs)(r:KR MT):Out->Prop:=GS Qaf base y26.res (Q1 G0 (.ok (Ut r))) (QX G0 (.ok (Ut r)))
def mP (base:Bs)(r:KR MT):AV->Sl->St->Prop:=VG Qaf base y26.res (Q1 G0 (.ok (Ut r))) (QX G0 (.ok (Ut r)))
structure QS (src:SrcT)(L:Sl)(s:St):Prop where
 c0:Cl s 0 (srE src)
 c1:Cl s 1 [.nils,.nils,.nils]
 c2:Cl s 2 [.int .i64 0,.int .i64 0,.int .i64 0]
 fr:s.fr=[(67,[.ptr 2 0])]
 i1:Has L 1 (.ptr 0 0)
 i2:Has L 2 (.ptr 1 0)
 i3:Has L 3 (.ptr 2 0)
 i4:Has L 4 (.ptr 4 0)
section
variable {src:SrcT} {L:Sl} {s t:St}
theorem QS.push (h:QS src L s){c:Nat}{v:AV}(hc:c≠1/\c≠2/\c≠3/\c≠4):QS src ((c,v) :: L) s:=by
 obtain⟨c0,c1,c2,fr,i1,i2,i3,i4⟩:=h;exact⟨c0,c1,c2,fr,by rw[jb hc.1];exact i1,by rw[jb hc.2.1];exact i2,by rw[jb hc.2.2.1];exact i3,by rw[jb hc.2.2.2];exact i4⟩
theorem QS.kq (h:QS src L s)(k:Kq 4 3 5 s t):QS src L t:=
 ⟨k.cl h.c0 (by decide) (by decide) (by decide),k.cl h.c1 (by decide) (by decide) (by decide),k.cl h.c2 (by decide) (by decide) (by decide),k.fr.trans h.fr,h.i1,h.i2,h.i3,h.i4⟩
theorem jhZ {m d:Nat}{s:St}:FzD m (d+3) s (.agg [.nils,.nils,.nils]) (.agg (mdE md0)):=FzD.agg (.cons FzD.nils (.cons FzD.nils (.cons FzD.nils .nil)))
theorem UJ {c l k:Int}(h:QS src L s):mP base (.er c l k) (kf c l k) L s:=by
 obtain⟨c0,c1,c2,fr,i1,i2,i3,i4⟩:=h;have l2:=c2.len;have n2:=c2.lt;unfold mP y26
 (have zz:=aI @c0.r (aI @c1.r @c2.r);(repeat'(first|apply jc<;>intro _|simp(disch:=first|exact jO|fail) only[ja i2,ja i3,J6 (f:=67) (vs:=[.ptr 2 0]),Jz (f:=67) (vs:=[.ptr 2 0]),gO,jaN,c0.q,c1.q,c2.q,c0.r,c1.r,c2.r,je,jj,jX,ji,jd,qN,qM,jm,jn,jp,jq,jo,rzZ,Qab,Qac,Qad,Qaa,Qae]));all_goals clear zz)
 exact FzD.tup (.cons jhZ (.cons (.agg (.pc (by rfl))) .nil))
end
theorem jhQ {m lo hi d:Nat}{s:St}{v3:AV}(hm:m<=lo):∀ {ms:List MoveT} {us:List AV},UU lo hi s v3 ms us->FzsD m (d+3) s (mvc ms us) (fl moE ms)
 |[],[],_=>.nil
 |e :: ms,u :: us,h=>by
  show FzsD m (d+3) s ((eE e.when ++ [u]) ++ mvc ms us) (moE e ++ fl moE ms);refine FzsD.append ?_ (jhQ hm h.2);exact FzsD.append (FzsD.pc (qO _)) (.cons (h.1.1.fz hm (zp wh _)) .nil)
set_option maxHeartbeats 4000000 in
theorem m_d {src:SrcT}{L:Sl}{s:St}(D:QS src L s){m:ModT}{ts:List (List Nat)}(H:MZ 4 3 5 m ts s):xC Qaf base jeY L s (mQ base (.ok (m,ts))) (mP base (.ok (m,ts))):=by
 obtain⟨v1,v2,v3,ws,S⟩:=H;obtain⟨c0,c1,c2,fr,i1,i2,i3,i4⟩:=D;have C4:=S.cp;have l2:=c2.len;have n2:=c2.lt;have vc:∀ l,lall AV.cell (v1 :: v2 :: v3 :: l)=lall AV.cell l:=λl=>by
  show cond v1.cell (cond v2.cell (cond v3.cell _ false) false) false=_;rw[S.l1.cell,S.l2.cell,S.l3.cell];rfl
 unfold mQ mP y26;rw[(by unfold jeY;simp only[qq];rfl:jeY=_)]
 (have zz:=aI @vc (aI @c0.r (aI @c1.r (aI @c2.r C4.r)));(repeat'(first|apply jc<;>intro _|simp(disch:=first|exact jO|fail) only[ja i1,ja i2,ja i3,ja i4,Vt i3,Yl,J6 (f:=67) (vs:=[.ptr 2 0]),Jz (f:=67) (vs:=[.ptr 2 0]),gO,jaN,c0.q,c1.q,c2.q,C4.q,vc,c0.r,c1.r,c2.r,C4.r,je,jj,jX,ji,jd,qN,qM,jm,jn,jp,jq,jo,rzZ,Qab,Qac,Qad,Qaa,Qae]));all_goals clear zz)
 have f:∀ v n cs z,Lv 5 s.nx s v n cs z->Lv 5 s.nx (Go.Sy.wr (Go.Sy.wr s 1 0 [v1,v2,v3]) 2 0 [.int .i64 0,.int .i64 0,.int .i64 0]).bare v n cs z:=λv n cs z h=>by
  rw[jG,jz (.inl (by decide)),jz (.inl (by decide))];exact h
 refine FzD.tup (.cons (FzD.agg (.cons ((f _ _ _ _ S.l1).fz (QaG _) (zp YM _)) (.cons ((f _ _ _ _ S.l2).fz (QaG _) (zp JV _)) (.cons ?_ .nil)))) (.cons (.agg (.pc (by rfl))) .nil))
 ·have u3:=S.uu.imp (λu n cs h=>(⟨f _ _ _ _ h.1,h.2⟩:Lv 5 s.nx (Go.Sy.wr (Go.Sy.wr s 1 0 [v1,v2,v3]) 2 0 [.int .i64 0,.int .i64 0,.int .i64 0]).bare u n cs 7/\Df v3 u));rcases f _ _ _ _ S.l3 with ⟨rfl,h1,h2⟩|⟨b,rfl,h1,h2,C,h3,h4⟩
  ·have:m.moves=[]:=QaS h1;show FzD _ _ _ _ (.lst m.moves.length (fl moE m.moves));rw[this];exact FzD.nils
  ·refine FzD.slice C.rw_ (QbG h2.symm) (QaG _) ?_;rw[<-h2,QaB];exact jhQ (QaG _) u3
structure ProcOK (p:ProcT):Prop where
 len:p.rules.length<=1000
 rules:∀ r∈p.rules,OkE r.when/\(∀ a∈r.acts,OkE a.to)/\r.acts.length<=1000000
structure DeclOK (d:DeclT):Prop where
 ex:∀ x∈d.begins,OkE x
 len:d.begins.length<=1000000
 lo : -100000000<=d.lo/\d.lo<=100000000
 hi : -100000000<=d.hi/\d.hi<=100000000
structure SrcOK (s:SrcT):Prop where
 ne:s.enums.length<=1000
 nv:s.vars.length<=1000
 np:s.procs.length<=100
 vals:∀ e∈s.enums,0<e.vals.length/\e.vals.length<=1000000
 vars:∀ d∈s.vars,DeclOK d
 procs:∀ p∈s.procs,ProcOK p
theorem W6 {m:ModT}{ts:List (List Nat)}{e:EnumT}{b:MT}(h:wE m ts e=.ok b):b.1={ m with enums:=m.enums ++ [e] }:=by
 unfold wE at h;split at h
 ·cases h
 ·cases h;rfl
theorem jbK {m:ModT}{ts:List (List Nat)}{r:RuleT}{b:MT}(h:Xs m ts r=.ok b):∃ e,b.1={ m with moves:=m.moves ++ [e] }:=by
 unfold Xs at h;split at h
 ·cases h
 ·split at h
  ·cases h
  ·cases h;exact⟨_,rfl⟩
theorem GZ {vars:List VarT}{enums:List EnumT}:∀ {xs:List Ex} {v u:VarT},Jr vars enums v xs=.ok u->u.lo=v.lo/\u.hi=v.hi/\u.kind=v.kind/\u.enum=v.enum/\u.name=v.name
 |[],v,u,h=>by rw[Jr] at h;cases h;exact⟨rfl,rfl,rfl,rfl,rfl⟩
 |x :: xs,v,u,h=>by
  rw[Jr] at h;split at h
  ·cases h
  ·split at h
   ·cases h
   ·split at h
    ·cases h
    ·have:=GZ h;exact this
theorem jkW {enums:List EnumT}{d:DeclT}{v:VarT}(hv:∀ e∈enums,e.vals.length<=1000000)(hd:DeclOK d)(h:uf enums d=.ok v) : -100000000<=v.lo/\v.lo<=100000000/\-100000000<=v.hi/\v.hi<=100000000:=by
 unfold uf at h;split at h
 ·cases h;dsimp only;omega
 ·split at h
  ·rename_i h2;cases h;dsimp only;have hlt:QB enums d.ty<(enums.length:Int):=ZD;have hi2:(QB enums d.ty).toNat<enums.length:=by omega
   have eg:enums.getD (QB enums d.ty).toNat en0=enums[(QB enums d.ty).toNat]:=by simp[QaJ,hi2]
   rw[eg];have:=hv _ (Qax hi2);omega
  ·split at h
   ·cases h
   ·split at h
    ·cases h
    ·split at h
     ·cases h
     ·cases h;exact⟨hd.lo.1,hd.lo.2,hd.hi.1,hd.hi.2⟩
theorem jcM {m:ModT}{ts:List (List Nat)}{d:DeclT}{b:MT}(hv:∀ e∈m.enums,e.vals.length<=1000000)(hd:DeclOK d)(h:XG m ts d=.ok b):∃ v:VarT,b.1={ m with vars:=m.vars ++ [v] }/\(-100000000<=v.lo/\v.lo<=100000000/\-100000000<=v.hi/\v.hi<=100000000):=by
 unfold XG at h;split at h
 ·cases h
 ·split at h
  ·cases h
  ·rename_i v hk;unfold wL at h;split at h
   ·cases h
   ·rename_i u hu;unfold kJ at h;split at h
    ·cases h
    ·cases h;have hb:=GZ hu;refine⟨u,rfl,?_⟩;rw[hb.1,hb.2.1];exact jkW hv hd hk
section
variable {src:SrcT} {L:Sl} {s t:St} {m:ModT} {ts:List (List Nat)}
theorem MX.box (h:MX 4 3 5 m ts s)(z cs:List AV):MX 4 3 5 m ts (Go.Sy.wr (Go.Sy.nw s z) s.nx 0 cs):=by
 obtain⟨v1,v2,v3,S⟩:=h;exact⟨v1,v2,v3,((S.nw z).wr (c:=s.nx) (Qao _) 0 cs).up (by rw[jh,jg];omega) (Qao _)⟩
theorem MZ.box (h:MZ 4 3 5 m ts s)(z cs:List AV):MZ 4 3 5 m ts (Go.Sy.wr (Go.Sy.nw s z) s.nx 0 cs):=by
 obtain⟨v1,v2,v3,ws,S⟩:=h;exact⟨v1,v2,v3,ws,((S.nw z).wr (c:=s.nx) (Qao _) 0 cs).up (by rw[jh,jg];omega) (Qao _)⟩
theorem MZ.nx5 (h:MZ 4 3 5 m ts s):5<=s.nx:=by obtain⟨v1,v2,v3,ws,S⟩:=h;exact S.lo
theorem MX.nx5 (h:MX 4 3 5 m ts s):5<=s.nx:=by obtain⟨v1,v2,v3,S⟩:=h;exact S.lo
theorem gb (h:5<=s.nx)(z cs:List AV):Kq 4 3 5 s (Go.Sy.wr (Go.Sy.nw s z) s.nx 0 cs):=(Kq.refl.nw h z).wr (.inr h) 0 cs
end
theorem MZ.take {m:ModT}{ts:List (List Nat)}{s:St}(h:MZ 4 3 5 m ts s)(us:List (List Nat)):MZ 4 3 5 m us (Go.Sy.mp s 3 (mpl us)):=by
 obtain⟨v1,v2,v3,ws,S⟩:=h;exact⟨v1,v2,v3,ws,S.take us⟩
def zr7:List AV:=[.int .i64 0,.int .i64 0,.str [],.nils,.int .i64 0,.int .i64 0,.nils]
def zp4:List AV:=[.str [],.nils,.int .i64 0,.int .i64 0]
set_option maxHeartbeats 8000000 in
theorem m_c (hb:NB base){src:SrcT}{L:Sl}{s:St}(D:QS src L s){m:ModT}{ts:List (List Nat)}(V:VarsOK m.vars m.enums)(hm:m.moves=[])(O:SrcOK src)(H:MZ 4 3 5 m ts s):xC Qaf base jeZ L s (mQ base (XT (m,ts) src.procs)) (mP base (XT (m,ts) src.procs)):=by
 have c0:=D.c0;have i1:=D.i1;have onp:=O.np;generalize hR:XT (m,ts) src.procs=R;rw[(by unfold jeZ;simp only[qq];rfl:jeZ=_)]
 (have zz:=@c0.r;(repeat'(first|apply jc<;>intro _|simp(disch:=first|exact jO|fail) only[ja i1,c0.q,c0.r,je,jj,jX,ji,jd,qN,qM,jm,jn,jp,jq,jo,rzZ,Qab,Qac,Qad,Qaa,Qae]));all_goals clear zz)
 refine qp src.procs.length (λk L s=>(∃ b:MT,XT b (src.procs.drop k)=R/\b.1.vars=m.vars/\b.1.enums=m.enums/\b.1.moves.length<=1000 * k/\MZ 4 3 5 b.1 b.2 s/\QS src L s)/\Has L 39 (.lst src.procs.length (fl prE src.procs))) (by first|assumption|omega) (by decide) (by simp(disch:=decide) only[jf,jb]) (by simp(disch:=decide) only[jf,jb]) ?_ (λk L s v h=>(by obtain⟨⟨b,h1,h2,h3,h4,h5,h6⟩,h7⟩:=h;refine⟨⟨b,h1,h2,h3,h4,h5,h6.push (by decide)⟩,?_⟩;simp(disch:=decide) only[jb];assumption)) (λk L s v h=>(by obtain⟨⟨b,h1,h2,h3,h4,h5,h6⟩,h7⟩:=h;refine⟨⟨b,h1,h2,h3,h4,h5,h6.push (by decide)⟩,?_⟩;simp(disch:=decide) only[jb];assumption)) (λk L s hk hI hi hn=>?_) (λL s hI=>?_)
 ·refine⟨⟨(m,ts),by rw[QbC];exact hR,rfl,rfl,by rw[hm];exact QaG _,H,((D.push (by decide)).push (by decide)).push (by decide)⟩,?_⟩;simp(disch:=decide) only[jb,jf]
 ·clear D c0 i1;obtain⟨⟨b,h1,h2,h3,h4,H,D⟩,i39⟩:=hI;obtain⟨c0,c1,c2,fr,i1,i2,i3,i4⟩:=id D;have hP:=O.procs _ (Qax hk);have n5:=H.nx5;have H1:=H.box zp4 (prE src.procs[k]);have k1:=gb n5 zp4 (prE src.procs[k]);have D1:=D.kq k1;have C10:=(Cl.new s zp4).wr0 (c':=prE src.procs[k]) rfl;unfold XT at h1;rw[W3 hk] at h1;unfold zp4 at *;repeat'(first|apply jc<;>intro _|simp(disch:=first|exact dzG|fail) only[ja i1,ja i2,ja i3,ja i4,ja i39,ja hi,ja hn,je,jj,jX,ji,jd,qN,qM,jm,jn,jp,jq,jo,rzZ,Qab,Qac,Qad,Qaa,Qae])
  obtain⟨v1,v2,v3,ws,S⟩:=id H1;refine Ko hb S.cp S.mp _ _ _ _ _ ?_;have S1mp:=S.mp;clear S;by_cases hin:src.procs[k].name∈b.2
  ·rw[if_pos hin];have hp:YT b src.procs[k]=.er 162 src.procs[k].line src.procs[k].col:=by unfold YT Xp;rw[if_pos hin]
   rw[hp] at h1;rw[<-h1];exact UJ (D1.push (by decide))
  ·rw[if_neg hin];have hp:YT b src.procs[k]=ye (λb r=>Xs b.1 b.2 r) (b.1,b.2 ++ [src.procs[k].name]) src.procs[k].rules:=by unfold YT Xp;rw[if_neg hin]
   have H2:=H1.take (b.2 ++ [src.procs[k].name]);have D2:=D1.kq ((Kq.refl:Kq 4 3 5 _ _).mp (mpl (b.2 ++ [src.procs[k].name])));have C10:Cl (Go.Sy.mp (Go.Sy.wr (Go.Sy.nw s [.str [],.nils,.int .i64 0,.int .i64 0]) s.nx 0 (prE src.procs[k])) 3 (mpl (b.2 ++ [src.procs[k].name]))) s.nx (prE src.procs[k]):=by rw[W9 (by omega)];exact C10
   have hrl:=hP.len;generalize Go.Sy.mp (Go.Sy.wr (Go.Sy.nw s [.str [],.nils,.int .i64 0,.int .i64 0]) s.nx 0 (prE src.procs[k])) 3 (mpl (b.2 ++ [src.procs[k].name]))=t1 at *;clear D1 H1 k1 S1mp
   (have zz:=C10.r;(repeat'(first|apply jc<;>intro _|simp(disch:=first|exact jO|fail) only[ja i1,ja i2,ja i3,ja i4,ja i39,ja hi,ja hn,C10.q,C10.r,je,jj,jX,ji,jd,qN,qM,jm,jn,jp,jq,jo,rzZ,Qab,Qac,Qad,Qaa,Qae]));all_goals clear zz)
   refine qp src.procs[k].rules.length (λky L s=>(∃ c:MT,ye (λb r=>Xs b.1 b.2 r) c (src.procs[k].rules.drop ky)=YT b src.procs[k]/\c.1.vars=m.vars/\c.1.enums=m.enums/\c.1.moves.length<=1000 * k+ky/\MZ 4 3 5 c.1 c.2 s/\QS src L s)/\Has L 54 (.lst src.procs[k].rules.length (fl ruE src.procs[k].rules))/\Has L 39 (.lst src.procs.length (fl prE src.procs))/\Has L 41 (.int .i64 k)/\Has L 40 (.int .i64 src.procs.length)) (by first|assumption|omega) (by decide) (by simp(disch:=decide) only[jf,jb]) (by simp(disch:=decide) only[jf,jb]) ?_ (λk L s v h=>(by obtain⟨⟨c,g1,g2,g3,g4,g5,g6⟩,g7,g8,g9,g10⟩:=h;refine⟨⟨c,g1,g2,g3,g4,g5,g6.push (by decide)⟩,?_,?_,?_,?_⟩<;>simp(disch:=decide) only[jb]<;>assumption)) (λk L s v h=>(by obtain⟨⟨c,g1,g2,g3,g4,g5,g6⟩,g7,g8,g9,g10⟩:=h;refine⟨⟨c,g1,g2,g3,g4,g5,g6.push (by decide)⟩,?_,?_,?_,?_⟩<;>simp(disch:=decide) only[jb]<;>assumption)) (λky Ly sy hky hIy hiy hny=>?_) (λLy sy hIy=>?_)
   ·refine⟨⟨(b.1,b.2 ++ [src.procs[k].name]),by rw[QbC];exact hp.symm,h2,h3,by omega,H2,(((D2.push (by decide)).push (by decide)).push (by decide)).push (by decide)⟩,?_⟩;simp(disch:=decide) only[jb,jf,true_and];exact⟨i39,hi,hn⟩
   ·obtain⟨⟨c,g1,g2,g3,g4,H3,D3⟩,j54,j39,j41,j40⟩:=hIy;obtain⟨c0',c1',c2',fr',i1',i2',i3',i4'⟩:=id D3;have hr:=hP.rules _ (Qax hky);have n5':=H3.nx5;have H4:=H3.box zr7 (ruE src.procs[k].rules[ky]);have k4:=gb n5' zr7 (ruE src.procs[k].rules[ky]);have D4:=D3.kq k4;have hlr:(ruE src.procs[k].rules[ky]).length=zr7.length:=by rw[wj];rfl
    have C12:=(Cl.new sy zr7).wr0 hlr;rw[W3 hky] at g1;unfold zr7 at *;repeat'(first|apply jc<;>intro _|simp(disch:=first|exact dzG|fail) only[ja i1',ja i2',ja i3',ja i4',ja j54,ja hiy,ja hny,je,jj,jX,ji,jd,qN,qM,jm,jn,jp,jq,jo,rzZ,Qab,Qac,Qad,Qaa,Qae])
    refine jpE hb _ (by rw[g2,g3];exact V) hr.1 hr.2.1 hr.2.2 (by omega) H4 _ _ ?_;cases hk1:Xs c.1 c.2 src.procs[k].rules[ky] with
    |er x y z=>
     rw[hk1] at g1;rw[<-g1] at h1;intro s' k5;rw[<-h1];exact UJ ((D4.kq k5).push (by decide))
    |ok d=>
     rw[hk1] at g1;intro s' k5 H5;obtain⟨e,he⟩:=jbK hk1;repeat'(first|apply jc<;>intro _|simp(disch:=first|exact dzG|fail) only[je,jj,jX,ji,jd,qN,qM,jm,jn,jp,jq,jo,rzZ,Qab,Qac,Qad,Qaa,Qae])
     refine⟨⟨⟨d,g1,by rw[he];exact g2,by rw[he];exact g3,by rw[he];simp only[Qal,Qak,Qan];omega,H5,(D4.kq k5).push (by decide)⟩,?_,?_,?_,?_⟩,?_,?_⟩<;>simp(disch:=decide) only[jb]<;>assumption
   ·obtain⟨⟨c,g1,g2,g3,g4,H3,D3⟩,j54,j39,j41,j40⟩:=hIy;rw[Qcn,ye] at g1;rw[<-g1] at h1;repeat'(first|apply jc<;>intro _|simp(disch:=first|exact dzG|fail) only[je,jj,jX,ji,jd,qN,qM,jm,jn,jp,jq,jo,rzZ,Qab,Qac,Qad,Qaa,Qae])
    refine⟨⟨⟨c,h1,g2,g3,by omega,H3,D3⟩,?_⟩,?_,?_⟩<;>assumption
 ·obtain⟨⟨b,h1,h2,h3,h4,H,D⟩,i39⟩:=hI;rw[Qcn] at h1;unfold XT at h1;rw[ye] at h1;rw[<-h1];repeat'(first|apply jc<;>intro _|simp(disch:=first|exact dzG|fail) only[je,jj,jX,ji,jd,qN,qM,jm,jn,jp,jq,jo,rzZ,Qab,Qac,Qad,Qaa,Qae])
  exact m_d D H
theorem MX.mz {m:ModT}{ts:List (List Nat)}{s:St}(h:MX 4 3 5 m ts s)(hm:m.moves=[]):MZ 4 3 5 m ts s:=by
 obtain⟨v1,v2,v3,S⟩:=h;exact⟨v1,v2,v3,[],S.mr hm⟩
def zd7:List AV:=[.str [],.str [],.int .i64 0,.int .i64 0,.nils,.int .i64 0,.int .i64 0]
def ze4:List AV:=[.str [],.nils,.int .i64 0,.int .i64 0]
set_option maxHeartbeats 8000000 in
theorem m_b (hb:NB base){src:SrcT}{L:Sl}{s:St}(D:QS src L s){m:ModT}{ts:List (List Nat)}(V:VarsOK m.vars m.enums)(hm:m.moves=[])(hv0:m.vars=[])(O:SrcOK src)(H:MX 4 3 5 m ts s)(R:KR MT)(hR:(match vE (m,ts) src.vars with | .er a c d=>.er a c d | .ok b=>XT b src.procs)=R):xC Qaf base je0 L s (mQ base R) (mP base R):=by
 have c0:=D.c0;have i1:=D.i1;have onv:=O.nv;rw[(by unfold je0;simp only[qq];rfl:je0=_)]
 (have zz:=@c0.r;(repeat'(first|apply jc<;>intro _|simp(disch:=first|exact jO|fail) only[ja i1,c0.q,c0.r,je,jj,jX,ji,jd,qN,qM,jm,jn,jp,jq,jo,rzZ,Qab,Qac,Qad,Qaa,Qae]));all_goals clear zz)
 refine qp src.vars.length (λk L s=>(∃ b:MT,(match vE b (src.vars.drop k) with | .er a c d=>.er a c d | .ok b=>XT b src.procs)=R/\b.1.moves=[]/\b.1.vars.length<=k/\VarsOK b.1.vars b.1.enums/\MX 4 3 5 b.1 b.2 s/\QS src L s)/\Has L 28 (.lst src.vars.length (fl qg src.vars))) (by first|assumption|omega) (by decide) (by simp(disch:=decide) only[jf,jb]) (by simp(disch:=decide) only[jf,jb]) ?_ (λk L s v h=>(by obtain⟨⟨b,h1,h2,h3,h4,h5,h6⟩,h7⟩:=h;refine⟨⟨b,h1,h2,h3,h4,h5,h6.push (by decide)⟩,?_⟩;simp(disch:=decide) only[jb];assumption)) (λk L s v h=>(by obtain⟨⟨b,h1,h2,h3,h4,h5,h6⟩,h7⟩:=h;refine⟨⟨b,h1,h2,h3,h4,h5,h6.push (by decide)⟩,?_⟩;simp(disch:=decide) only[jb];assumption)) (λk L s hk hI hi hn=>?_) (λL s hI=>?_)
 ·refine⟨⟨(m,ts),by rw[QbC];exact hR,hm,by rw[hv0];exact QaG _,V,H,((D.push (by decide)).push (by decide)).push (by decide)⟩,?_⟩;simp(disch:=decide) only[jb,jf]
 ·clear D c0 i1 H V hm hv0;obtain⟨⟨b,h1,hm,h3,V,H,D⟩,i28⟩:=hI;obtain⟨c0,c1,c2,fr,i1,i2,i3,i4⟩:=id D;have hd:=O.vars _ (Qax hk);have n5:=H.nx5;have H1:=H.box zd7 (qg src.vars[k]);have k1:=gb n5 zd7 (qg src.vars[k]);have D1:=D.kq k1;have C10:=(Cl.new s zd7).wr0 (c':=qg src.vars[k]) rfl;unfold vE at h1;rw[W3 hk] at h1;unfold zd7 at *;repeat'(first|apply jc<;>intro _|simp(disch:=first|exact dzG|fail) only[ja i1,ja i2,ja i3,ja i4,ja i28,ja hi,ja hn,je,jj,jX,ji,jd,qN,qM,jm,jn,jp,jq,jo,rzZ,Qab,Qac,Qad,Qaa,Qae])
  refine jqK hb _ V (by omega) hd.ex hd.len hd.lo hd.hi H1 _ _ ?_;cases hk1:XG b.1 b.2 src.vars[k] with
  |er x y z=>
   rw[hk1] at h1;intro s' k5;rw[<-h1];exact UJ ((D1.kq k5).push (by decide))
  |ok d=>
   rw[hk1] at h1;intro s' k5 H5;obtain⟨v,he,hv⟩:=jcM V.vals hd hk1;repeat'(first|apply jc<;>intro _|simp(disch:=first|exact dzG|fail) only[je,jj,jX,ji,jd,qN,qM,jm,jn,jp,jq,jo,rzZ,Qab,Qac,Qad,Qaa,Qae])
   refine⟨⟨⟨d,h1,by rw[he];exact hm,by rw[he];simp only[Qal,Qak,Qan];omega,?_,H5,(D1.kq k5).push (by decide)⟩,?_⟩,?_,?_⟩
   ·rw[he];refine⟨by simp only[Qal,Qak,Qan];omega,V.len2,V.vals,λu hu=>?_⟩;rcases QaX.1 hu with hu|hu
    ·exact V.ends u hu
    ·simp only[QbJ] at hu;rw[hu];exact hv
   all_goals(simp(disch:=decide) only[jb];assumption)
 ·obtain⟨⟨b,h1,hm,h3,V,H,D⟩,i28⟩:=hI;rw[Qcn] at h1;unfold vE at h1;rw[ye] at h1;dsimp only at h1;rw[<-h1];repeat'(first|apply jc<;>intro _|simp(disch:=first|exact dzG|fail) only[je,jj,jX,ji,jd,qN,qM,jm,jn,jp,jq,jo,rzZ,Qab,Qac,Qad,Qaa,Qae])
  exact m_c hb D V hm O (H.mz hm)
set_option maxHeartbeats 8000000 in
theorem m_a (hb:NB base){src:SrcT}{L:Sl}{s:St}(D:QS src L s)(O:SrcOK src)(H:MX 4 3 5 md0 [] s):xC Qaf base je1 L s (mQ base (zY src)) (mP base (zY src)):=by
 have c0:=D.c0;have i1:=D.i1;have one:=O.ne;generalize hR:zY src=R;unfold zY at hR;rw[(by unfold je1;simp only[qq];rfl:je1=_)]
 (have zz:=@c0.r;(repeat'(first|apply jc<;>intro _|simp(disch:=first|exact jO|fail) only[ja i1,c0.q,c0.r,je,jj,jX,ji,jd,qN,qM,jm,jn,jp,jq,jo,rzZ,Qab,Qac,Qad,Qaa,Qae]));all_goals clear zz)
 refine qp src.enums.length (λk L s=>(∃ b:MT,(match V7 b (src.enums.drop k) with | .er a c d=>.er a c d | .ok b=>(match vE b src.vars with | .er a c d=>.er a c d | .ok b=>XT b src.procs))=R/\b.1.moves=[]/\b.1.vars=[]/\b.1.enums.length<=k/\(∀ e∈b.1.enums,e.vals.length<=1000000)/\MX 4 3 5 b.1 b.2 s/\QS src L s)/\Has L 17 (.lst src.enums.length (fl enE src.enums))) (by first|assumption|omega) (by decide) (by simp(disch:=decide) only[jf,jb]) (by simp(disch:=decide) only[jf,jb]) ?_ (λk L s v h=>(by obtain⟨⟨b,h1,h2,h3,h4,h4b,h5,h6⟩,h7⟩:=h;refine⟨⟨b,h1,h2,h3,h4,h4b,h5,h6.push (by decide)⟩,?_⟩;simp(disch:=decide) only[jb];assumption)) (λk L s v h=>(by obtain⟨⟨b,h1,h2,h3,h4,h4b,h5,h6⟩,h7⟩:=h;refine⟨⟨b,h1,h2,h3,h4,h4b,h5,h6.push (by decide)⟩,?_⟩;simp(disch:=decide) only[jb];assumption)) (λk L s hk hI hi hn=>?_) (λL s hI=>?_)
 ·refine⟨⟨(md0,[]),by rw[QbC];exact hR,rfl,rfl,QaG _,(λe he=>by cases he),H,((D.push (by decide)).push (by decide)).push (by decide)⟩,?_⟩;simp(disch:=decide) only[jb,jf]
 ·clear D c0 i1 H;obtain⟨⟨b,h1,hm,h3,h4,hv,H,D⟩,i17⟩:=hI;obtain⟨c0,c1,c2,fr,i1,i2,i3,i4⟩:=id D;have hd:=O.vals _ (Qax hk);have n5:=H.nx5;have H1:=H.box ze4 (enE src.enums[k]);have k1:=gb n5 ze4 (enE src.enums[k]);have D1:=D.kq k1;have C10:=(Cl.new s ze4).wr0 (c':=enE src.enums[k]) rfl;unfold V7 at h1;rw[W3 hk] at h1;unfold ze4 at *;repeat'(first|apply jc<;>intro _|simp(disch:=first|exact dzG|fail) only[ja i1,ja i2,ja i3,ja i4,ja i17,ja hi,ja hn,je,jj,jX,ji,jd,qN,qM,jm,jn,jp,jq,jo,rzZ,Qab,Qac,Qad,Qaa,Qae])
  refine jqC hb (λvs h h2=>jnK hb vs h h2) _ hd.1 hd.2 (by omega) H1 _ _ ?_;cases hk1:wE b.1 b.2 src.enums[k] with
  |er x y z=>
   rw[hk1] at h1;intro s' k5;rw[<-h1];exact UJ ((D1.kq k5).push (by decide))
  |ok d=>
   rw[hk1] at h1;intro s' k5 H5;have he:=W6 hk1;repeat'(first|apply jc<;>intro _|simp(disch:=first|exact dzG|fail) only[je,jj,jX,ji,jd,qN,qM,jm,jn,jp,jq,jo,rzZ,Qab,Qac,Qad,Qaa,Qae])
   refine⟨⟨⟨d,h1,by rw[he];exact hm,by rw[he];exact h3,by rw[he];simp only[Qal,Qak,Qan];omega,?_,H5,(D1.kq k5).push (by decide)⟩,?_⟩,?_,?_⟩
   ·rw[he];intro u hu;rcases QaX.1 hu with hu|hu
    ·exact hv u hu
    ·simp only[QbJ] at hu;rw[hu];exact hd.2
   all_goals(simp(disch:=decide) only[jb];assumption)
 ·obtain⟨⟨b,h1,hm,h3,h4,hv,H,D⟩,i17⟩:=hI;rw[Qcn] at h1;unfold V7 at h1;rw[ye] at h1;dsimp only at h1;repeat'(first|apply jc<;>intro _|simp(disch:=first|exact dzG|fail) only[je,jj,jX,ji,jd,qN,qM,jm,jn,jp,jq,jo,rzZ,Qab,Qac,Qad,Qaa,Qae])
  exact m_b hb D ⟨by rw[h3];exact QaG _,by omega,hv,λv hv=>by rw[h3] at hv;cases hv⟩ hm h3 O H R h1
set_option maxHeartbeats 8000000 in
theorem jnr (hb:NB base)(src:SrcT)(O:SrcOK src):Tot base 53 [.agg (srE src)] (Ut (zY src)):=by
 refine hb.tot ?_ (by first|rfl|simp[pa,pc,qO,Q3,Wy,JV,Jy,jaJ,Kt,YM,wh,wt,QY,YX]) rfl;refine WE x26 (hb.pur 53 1 (by decide)) ?_;simp only[y26,ju,Qai,Qaj,Qag,Qah];rw[(by unfold z26;simp only[qq];rfl:z26=_)];repeat'(first|apply jc<;>intro _|simp(disch:=first|exact dzG|fail) only[Z8,jr0,jrt,je,jj,jX,ji,jd,qN,qM,jm,jn,jp,jq,jo,rzZ,Qab,Qac,Qad,Qaa,Qae])
 obtain⟨X,hX⟩:∃ X,X=Go.Sy.nw (Go.Sy.nw (Go.Sy.nw st0 (srE src)) [.nils,.nils,.nils]) [.int .i64 0,.int .i64 0,.int .i64 0]:=⟨_,rfl⟩;have X2:Cl X 2 [.int .i64 0,.int .i64 0,.int .i64 0]:=by rw[hX];exact Cl.new _ _
 have X1:Cl X 1 [.nils,.nils,.nils]:=by rw[hX];exact(Cl.new _ _).nw _
 have X0:Cl X 0 (srE src):=by rw[hX];exact((Cl.new _ _).nw _).nw _
 have Xn:X.nx=3:=by rw[hX];rfl
 have Xf:X.fr=[]:=by rw[hX];rfl
 rw[<-hX];have hn4:(nmp (df (67,[.ptr 2 0]) X)).nx=4:=by show X.nx+1=4;omega
 have hc:(AV.nils :: AV.nils :: AV.nils :: upd [AV.nilm,AV.bool false] 0 (AV.map 3).cells)=[.nils,.nils,.nils,.map 3,.bool false]:=rfl;rw[hn4,hc];have Y:∀ c cs,c<3->Cl X c cs->Cl (Go.Sy.nw (nmp (df (67,[.ptr 2 0]) X)) [.nils,.nils,.nils,.map 3,.bool false]) c cs:=λc cs h3 h=>by
  refine h.keep ?_ ?_
  ·rw[jg,hn4];omega
  ·rw[Jx (by omega),jir,if_neg (by show c≠X.nx;omega)];rfl
 have C4:Cl (Go.Sy.nw (nmp (df (67,[.ptr 2 0]) X)) [.nils,.nils,.nils,.map 3,.bool false]) 4 [.nils,.nils,.nils,.map 3,.bool false]:=hn4▸Cl.new (nmp (df (67,[.ptr 2 0]) X)) _;have M3:Mp (Go.Sy.nw (nmp (df (67,[.ptr 2 0]) X)) [.nils,.nils,.nils,.map 3,.bool false]) 3 []:=by
  have h:Mp (nmp (df (67,[.ptr 2 0]) X)) X.nx []:=Mp.new (df (67,[.ptr 2 0]) X);rw[Xn] at h;exact h.nw _
 have n5:(Go.Sy.nw (nmp (df (67,[.ptr 2 0]) X)) [.nils,.nils,.nils,.map 3,.bool false]).nx=5:=by rw[jg,hn4]
 refine m_a hb ⟨Y _ _ (by decide) X0,Y _ _ (by decide) X1,Y _ _ (by decide) X2,?_,?_,?_,?_,?_⟩ O ⟨.nils,.nils,.nils,C4,M3,Lv.nil,Lv.nil,Lv.nil,trivial,trivial,trivial,by decide,by decide,by decide,by omega,Qao _⟩
 ·show(67,[AV.ptr 2 0]) :: X.fr=_;rw[Xf]
 all_goals simp(disch:=decide) only[jb,jf]
def jfg (r:KR Ex):AV:=match r with
 |.er c l k=>.tup [.agg (eE ex0),.agg (fcl c l k)]
 |.ok y=>.tup [.agg (eE y),.agg (fcl 0 0 0)]
set_option maxHeartbeats 4000000 in
theorem jix (hb:NB base)(m:ModT)(V:VarsOK m.vars m.enums)(x:Ex)(hx:OkE x):PX Qaf base 55 [.agg (mdE m),.agg (eE x)] (.ok (jfg (yz m.vars m.enums true x 2 []))):=by
 refine WE x25 (hb.pur 55 1 (by decide)) ?_;simp only[y25,ju,Qai,Qaj,Qag,Qah];rw[(by unfold z25;simp only[qq];rfl:z25=_)];have uq:upd [.nils,.nils,.nils,.nilm,.bool false] 0 (mdE m)=[.lst m.vars.length (fl vaE m.vars),.lst m.enums.length (fl enE m.enums),.lst m.moves.length (fl moE m.moves),.nilm,.bool false]:=rfl;repeat'(first|apply jc<;>intro _|simp(disch:=first|exact dzG|fail) only[Z8,Yt,Vm,Vl (base:=base),uq,je,jj,jX,ji,jd,qN,qM,jm,jn,jp,jq,jo,rzZ,Qab,Qac,Qad,Qaa,Qae])
 obtain⟨X,hX⟩:∃ X,X=Go.Sy.nw (Go.Sy.nw (Go.Sy.nw (Go.Sy.nw st0 (mdE m)) (eE x)) [.int .i64 0,.int .i64 0,.str [],.nils,.int .i64 0,.int .i64 0]) [.int .i64 0,.int .i64 0,.int .i64 0]:=⟨_,rfl⟩;rw[<-hX];have X3:Cl X 3 [.int .i64 0,.int .i64 0,.int .i64 0]:=by rw[hX];exact Cl.new _ _
 have X2:Cl X 2 [.int .i64 0,.int .i64 0,.str [],.nils,.int .i64 0,.int .i64 0]:=by rw[hX];exact(Cl.new _ _).nw _
 have X1:Cl X 1 (eE x):=by rw[hX];exact((Cl.new _ _).nw _).nw _
 have Xn:X.nx=4:=by rw[hX];rfl
 have Xf:X.fr=[]:=by rw[hX];rfl
 obtain⟨S,hS⟩:∃ S,S=Go.Sy.nw (df (67,[.ptr 3 0]) X) [.lst m.vars.length (fl vaE m.vars),.lst m.enums.length (fl enE m.enums),.lst m.moves.length (fl moE m.moves),.nilm,.bool true]:=⟨_,rfl⟩;rw[<-hS];have hn4:(df (67,[.ptr 3 0]) X).nx=4:=Xn;have Y:∀ c cs,c<4->Cl X c cs->Cl S c cs:=λc cs h3 h=>by
  rw[hS];refine h.keep ?_ ?_
  ·rw[jg,hn4];omega
  ·rw[Jx (by omega)];rfl
 have C1:=Y _ _ (by decide) X1;have C2:=Y _ _ (by decide) X2;have C3:=Y _ _ (by decide) X3;have C4:Cl S 4 [.lst m.vars.length (fl vaE m.vars),.lst m.enums.length (fl enE m.enums),.lst m.moves.length (fl moE m.moves),.nilm,.bool true]:=by rw[hS];exact hn4▸Cl.new (df (67,[.ptr 3 0]) X) _
 have Sf:S.fr=[(67,[.ptr 3 0])]:=by
  rw[hS];show(67,[AV.ptr 3 0]) :: X.fr=_;rw[Xf]
 clear hS Y X1 X2 X3 Xn Xf hX uq hn4;refine Us hb V _ hx.2 (Yv _ hx.1) _ _ (fm:=true) (mm:=.nilm) (v3:=.lst m.moves.length (fl moE m.moves)) ⟨C4,.inl rfl,.inl rfl,(λb k z x h=>by cases h),(λb k z x h=>by cases h)⟩ _ _ ?_;cases hr:yz m.vars m.enums true x 2 [] with
 |er a b c=>
  intro s' k2;have E1:=k2.cl C1 (by decide);have E2:=k2.cl C2 (by decide);have E3:=k2.cl C3 (by decide);have l3:=E3.len;have n3:=E3.lt;have hf:s'.fr=[(67,[.ptr 3 0])]:=k2.fr.trans Sf
  (have zz:=aI @QV (aI C1.r (aI C2.r (aI C3.r (aI E1.r (aI E2.r E3.r)))));(repeat'(first|apply jc<;>intro _|simp(disch:=first|exact jO|fail) only[Yt,Vm,Vl (base:=base),QR,Yl,J6 (f:=67) (vs:=[.ptr 3 0]),Jz (f:=67) (vs:=[.ptr 3 0]),gO,jaN,C1.q,C2.q,C3.q,E1.q,E2.q,E3.q,QV,C1.r,C2.r,C3.r,E1.r,E2.r,E3.r,je,jj,jX,ji,jd,qN,qM,jm,jn,jp,jq,jo,rzZ,Qab,Qac,Qad,Qaa,Qae]));all_goals clear zz)
  exact FzD.tup (.cons Yp (.cons (.agg (.pc (by rfl))) .nil))
 |ok y=>
  intro s' k2 D4;have E1:=k2.cl C1 (by decide);have E2:=k2.cl C2 (by decide);have E3:=k2.cl C3 (by decide);have l3:=E3.len;have n3:=E3.lt;have hf:s'.fr=[(67,[.ptr 3 0])]:=k2.fr.trans Sf
  (have zz:=aI @QV (aI C1.r (aI C2.r (aI C3.r (aI E1.r (aI E2.r E3.r)))));(repeat'(first|apply jc<;>intro _|simp(disch:=first|exact jO|fail) only[Yt,Vm,Vl (base:=base),QR,Yl,J6 (f:=67) (vs:=[.ptr 3 0]),Jz (f:=67) (vs:=[.ptr 3 0]),gO,jaN,C1.q,C2.q,C3.q,E1.q,E2.q,E3.q,QV,C1.r,C2.r,C3.r,E1.r,E2.r,E3.r,je,jj,jX,ji,jd,qN,qM,jm,jn,jp,jq,jo,rzZ,Qab,Qac,Qad,Qaa,Qae]));all_goals clear zz)
  exact FzD.tup (.cons (.agg (.pc (qO y))) (.cons (.agg (.pc (by rfl))) .nil))
theorem jiw (hb:NB base)(m:ModT)(V:VarsOK m.vars m.enums)(x:Ex)(hx:OkE x):Tot base 55 [.agg (mdE m),.agg (eE x)] (jfg (yz m.vars m.enums true x 2 [])):=hb.tot (jix hb m V x hx) (by first|rfl|simp[pa,pc,qO,Q3,Wy,JV,Jy,jaJ,Kt,YM,wh,wt,QY,YX]) rfl
mutual
theorem jbM:∀ (d:Nat) (x:Ex),yG d x=true->J1 x=true/\ZC x=true
 |0,_,h=>by cases h
 |d+1,.mk op num name ks l c,h=>by
  rw[vj] at h;simp only[Qaq,decide_eq_true_eq] at h;obtain⟨⟨⟨⟨h1,h2⟩,h3⟩,h4⟩,h5⟩:=h;have h3:(ks.length:Int)=if 5<=op/\op<=13 then 1 else if 14<=op/\op<31 then 2 else 0:=h3
  obtain⟨k1,k2⟩:=Hd d ks h5;refine⟨?_,?_⟩
  ·rw[J1,Qaq,decide_eq_true_eq];refine⟨?_,k1⟩;split at h3
   ·omega
   ·split at h3<;>omega
  ·rw[ZC,Qaq,QaO,Qaq,decide_eq_true_eq,decide_eq_true_eq,decide_eq_true_eq];refine⟨?_,k2⟩;by_cases ho:op=1
   ·right;unfold ue at h4;rw[if_pos (show Ex.op (.mk op num name ks l c)=1 from ho)] at h4;simp only[Qaq,decide_eq_true_eq] at h4;have h6:(0:Int)<=num:=h4.1.1;have h7:num<=1000000:=h4.1.2;omega
   ·exact .inl ho
theorem Hd:∀ (d:Nat) (xs:List Ex),xs.all (yG d)=true->JP xs=true/\Qa xs=true
 |_,[],_=>⟨rfl,rfl⟩
 |d,x :: xs,h=>by
  rw[Qbb,Qaq] at h;obtain⟨a1,a2⟩:=jbM d x h.1;obtain⟨b1,b2⟩:=Hd d xs h.2;rw[JP,Qa,Qaq,Qaq];exact⟨⟨a1,b1⟩,⟨a2,b2⟩⟩
end
theorem vP {ts:List Tk}(W:Wds ts){i j:Nat}{x:Ex}(hi:i<ts.length)(h:yq ts i=.ok x j):OkE x:=jbM 60 x (yd W hi h).2.2.2
theorem jgF:∀ {ts:List Tk} {n i j:Nat} {vs ws:List (List Nat)},vs.length<=32->YL ts n i vs=.ok ws j->vs.length<ws.length/\ws.length<=32
 |ts,0,i,j,vs,ws,hv,h=>by cases h
 |ts,n+1,i,j,vs,ws,hv,h=>by
  rw[YL] at h;split at h
  ·split at h
   ·cases h
   ·split at h
    ·have:=jgF (by simp;omega) h;simp at this;omega
    ·split at h
     ·cases h;simp;omega
     ·cases h
  ·cases h
theorem jqA {ts:List Tk}{i j:Nat}{e:EnumT}(h:ZE ts i=.ok e j):0<e.vals.length/\e.vals.length<=1000000:=by
 unfold ZE at h;split at h
 ·split at h
  ·split at h
   ·rename_i vs k hv;cases h;have:=jgF (by simp) hv;dsimp only;omega
   ·cases h
  ·cases h
 ·cases h
theorem jmc {ts:List Tk}(N:Nbs ts){i j:Nat}{n:Int}(h:YV ts i=.ok n j) : -100000000<=n/\n<=100000000:=by
 unfold YV at h;split at h
 ·split at h
  ·have:=N (i+1);cases h;omega
  ·cases h
 ·split at h
  ·have:=N i;cases h;omega
  ·cases h
theorem jru {ts:List Tk}(N:Nbs ts){i j:Nat}{y:List Nat×Int×Int}(h:Ws ts i=.ok y j):(-100000000<=y.2.1/\y.2.1<=100000000)/\(-100000000<=y.2.2/\y.2.2<=100000000):=by
 unfold Ws at h;split at h
 ·cases h;dsimp only;omega
 ·split at h
  ·cases h;dsimp only;omega
  ·split at h
   ·cases h
   ·rename_i lo k h1;split at h
    ·split at h
     ·cases h
     ·rename_i hi k2 h2;cases h;exact⟨jmc N h1,jmc N h2⟩
    ·cases h
theorem jr9 {ts:List Tk}(W:Wds ts){i j:Nat}{bs:List Ex}(hi:i<ts.length)(h:Z4 ts i=.ok bs j):(∀ x∈bs,OkE x)/\bs.length<=1:=by
 unfold Z4 at h;split at h
 ·rename_i c;have hi1:=W.isM hi c;split at h
  ·cases h
  ·rename_i x k hx;split at h
   ·cases h;exact⟨λy hy=>by simp at hy;rw[hy];exact vP W hi1 hx,by simp⟩
   ·cases h
 ·split at h
  ·cases h;exact⟨(λy hy=>by cases hy),by simp⟩
  ·cases h
theorem jqI {ts:List Tk}(W:Wds ts)(N:Nbs ts){i j:Nat}{d:DeclT}(hi:i<ts.length)(h:Yg ts i=.ok d j):DeclOK d:=by
 unfold Yg at h;split at h
 ·rename_i k1;have hi1:=W.next i hi (by omega)
  split at h
  ·rename_i c1;have hi2:=W.isM hi1 c1;split at h
   ·cases h
   ·rename_i y k hy;have hk:=jbC W hi2 hy;split at h
    ·cases h
    ·rename_i bs k2 hb;cases h;obtain⟨a,b⟩:=jru N hy;obtain⟨c,d⟩:=jr9 W hk.2 hb;exact⟨c,by dsimp only;omega,a,b⟩
  ·cases h
 ·cases h
theorem ji9 {ts:List Tk}(W:Wds ts):∀ {n i j:Nat} {vs ws:List AsT},i<ts.length->(∀ a∈vs,OkE a.to)->vs.length<=32->QD ts n i vs=.ok ws j->(∀ a∈ws,OkE a.to)/\ws.length<=32
 |0,i,j,vs,ws,hi,hv,hl,h=>by cases h
 |n+1,i,j,vs,ws,hi,hv,hl,h=>by
  rw[QD] at h;by_cases k1:(tk ts i).kind=1
  ·simp only[if_pos k1] at h;have hi1:=W.next i hi (by omega)
   by_cases h32:32<=vs.length
   ·simp only[if_pos h32] at h;cases h
   simp only[if_neg h32] at h;by_cases c1:isM (tk ts (i+1)) [[58,61]]=true
   ·simp only[if_pos c1] at h;have hi2:=W.isM hi1 c1;cases h1:yq ts (i+2) with
    |er t=>rw[h1] at h;cases h
    |ok x k=>
     rw[h1] at h;dsimp only at h;have hj:=yd W hi2 h1;have hx:=vP W hi2 h1;have hv2:∀ l c nm,∀ a∈vs ++ [(⟨nm,x,l,c⟩:AsT)],OkE a.to:=λl c nm a ha=>by
      rcases QaX.1 ha with ha|ha
      ·exact hv a ha
      ·simp at ha;rw[ha];exact hx
     by_cases c2:isM (tk ts k) [[44]]=true
     ·simp only[if_pos c2] at h;exact ji9 W (W.isM hj.2.1 c2) (hv2 _ _ _) (by simp;omega) h
     ·simp only[if_neg c2] at h;split at h
      ·cases h;exact⟨hv2 _ _ _,by simp;omega⟩
      ·cases h
   ·simp only[if_neg c1] at h;cases h
  ·simp only[if_neg k1] at h;cases h
theorem jpC {ts:List Tk}(W:Wds ts){i j:Nat}{r:RuleT}(hi:i<ts.length)(h:Xr ts i=.ok r j):OkE r.when/\(∀ a∈r.acts,OkE a.to)/\r.acts.length<=1000000:=by
 unfold Xr at h;cases h1:yq ts i with
 |er t=>rw[h1] at h;cases h
 |ok x k=>
  rw[h1] at h;dsimp only at h;have hj:=yd W hi h1;by_cases c1:isM (tk ts k) [[100,111]]=true
  ·simp only[if_pos c1] at h;cases h2:QD ts ts.length (k+1) [] with
   |er t=>rw[h2] at h;cases h
   |ok vs k2=>
    rw[h2] at h;cases h;have:=ji9 (vs:=[]) W (W.isM hj.2.1 c1) (λa ha=>by cases ha) (QaG _) h2;exact⟨vP W hi h1,this.1,by dsimp only;omega⟩
  ·simp only[if_neg c1] at h;cases h
theorem jdT {ts:List Tk}(W:Wds ts):∀ {n i j:Nat} {vs ws:List RuleT},i<ts.length->(∀ r∈vs,OkE r.when/\(∀ a∈r.acts,OkE a.to)/\r.acts.length<=1000000)->vs.length<=32->J9 ts n i vs=.ok ws j->(∀ r∈ws,OkE r.when/\(∀ a∈r.acts,OkE a.to)/\r.acts.length<=1000000)/\ws.length<=32
 |0,i,j,vs,ws,hi,hv,hl,h=>by cases h
 |n+1,i,j,vs,ws,hi,hv,hl,h=>by
  rw[J9] at h;by_cases c1:isM (tk ts i) [[119,104,101,110]]=true
  ·simp only[if_pos c1] at h;have hi1:=W.isM hi c1;by_cases h32:32<=vs.length
   ·simp only[if_pos h32] at h;cases h
   simp only[if_neg h32] at h;cases h1:Xr ts (i+1) with
   |er t=>rw[h1] at h;cases h
   |ok r k=>
    rw[h1] at h;dsimp only at h;refine jdT W (Uz W hi1 h1).2 (λa ha=>?_) (by simp;omega) h;rcases QaX.1 ha with ha|ha
    ·exact hv a ha
    ·simp at ha;rw[ha];exact jpC W hi1 h1
  ·simp only[if_neg c1] at h;split at h
   ·cases h;exact⟨hv,hl⟩
   ·cases h
theorem jpU {ts:List Tk}(W:Wds ts){i j:Nat}{p:ProcT}(hi:i<ts.length)(h:X6 ts i=.ok p j):ProcOK p:=by
 unfold X6 at h;split at h
 ·rename_i k1;have hi1:=W.next i hi (by omega)
  split at h
  ·rename_i c1;have hi2:=W.isM hi1 c1;split at h
   ·rename_i vs k hv;cases h;have:=jdT (vs:=[]) W hi2 (λa ha=>by cases ha) (QaG _) hv;exact⟨by dsimp only;omega,this.1⟩
   ·cases h
  ·cases h
 ·cases h
theorem jav {ts:List Tk}(W:Wds ts)(N:Nbs ts):∀ {n i j:Nat} {m w:SrcT},i<ts.length->SrcOK m->m.enums.length<=32->m.vars.length<=32->m.procs.length<=32->XL ts n i m=.ok w j->SrcOK w/\w.enums.length<=32/\w.vars.length<=32/\w.procs.length<=32
 |0,i,j,m,w,hi,hm,h1,h2,h3,h=>by cases h
 |n+1,i,j,m,w,hi,hm,h1,h2,h3,h=>by
  rw[XL] at h;by_cases c:isM (tk ts i) [[101,110,117,109],[118,97,114],[112,114,111,99,101,115,115]]=true
  ·simp only[if_pos c] at h;have hi1:=W.isM hi c;by_cases c1:(tk ts i).text=[101,110,117,109]
   ·simp only[if_pos c1] at h;by_cases hr:32<=m.enums.length
    ·simp only[if_pos hr] at h;cases h
    simp only[if_neg hr] at h;cases he:ZE ts (i+1) with
    |er t=>rw[he] at h;cases h
    |ok e k=>
     rw[he] at h;refine jav (m:={ m with enums:=m.enums ++ [e] }) W N (GR W hi1 he).2 ⟨by simp;omega,hm.nv,hm.np,λa ha=>?_,hm.vars,hm.procs⟩ (by simp;omega) h2 h3 h;rcases QaX.1 ha with ha|ha
     ·exact hm.vals a ha
     ·simp at ha;rw[ha];exact jqA he
   simp only[if_neg c1] at h;by_cases c2:(tk ts i).text=[118,97,114]
   ·simp only[if_pos c2] at h;by_cases hr:32<=m.vars.length
    ·simp only[if_pos hr] at h;cases h
    simp only[if_neg hr] at h;cases he:Yg ts (i+1) with
    |er t=>rw[he] at h;cases h
    |ok e k=>
     rw[he] at h;refine jav (m:={ m with vars:=m.vars ++ [e] }) W N (GW W hi1 he).2 ⟨hm.ne,by simp;omega,hm.np,hm.vals,λa ha=>?_,hm.procs⟩ h1 (by simp;omega) h3 h;rcases QaX.1 ha with ha|ha
     ·exact hm.vars a ha
     ·simp at ha;rw[ha];exact jqI W N hi1 he
   ·simp only[if_neg c2] at h;by_cases hr:32<=m.procs.length
    ·simp only[if_pos hr] at h;cases h
    simp only[if_neg hr] at h;cases he:X6 ts (i+1) with
    |er t=>rw[he] at h;cases h
    |ok e k=>
     rw[he] at h;refine jav (m:={ m with procs:=m.procs ++ [e] }) W N (Gt W hi1 he).2 ⟨hm.ne,hm.nv,by simp;omega,hm.vals,hm.vars,λa ha=>?_⟩ h1 h2 (by simp;omega) h;rcases QaX.1 ha with ha|ha
     ·exact hm.procs a ha
     ·simp at ha;rw[ha];exact jpU W hi1 he
  ·simp only[if_neg c] at h;split at h
   ·cases h;exact⟨hm,h1,h2,h3⟩
   ·cases h
theorem jdQ {l:List Nat}(h:(yI l).2.1=0):SrcOK (yI l).1:=by
 unfold yI at h ⊢;by_cases c:(qk l).2.1≠0
 ·rw[if_pos c] at h;exact absurd h c
 ·rw[if_neg c] at h ⊢;have c0:(qk l).2.1=0:=by simpa using c
  obtain⟨W,ne,_⟩:=Ud c0;cases hr:XL (qk l).1 (qk l).1.length 0 Wx with
  |er t=>rw[hr] at h;exact absurd h (λh=>by cases h)
  |ok m j=>exact(jav W (jiS c0) (QbP.2 ne) ⟨by decide,by decide,by decide,(λa ha=>by cases ha),(λa ha=>by cases ha),(λa ha=>by cases ha)⟩ (by decide) (by decide) (by decide) hr).1
theorem jk6 {l:List Nat}(h:(yr l).2.1=0):OkE (yr l).1:=by
 unfold yr at h ⊢;by_cases c:(qk l).2.1≠0
 ·rw[if_pos c] at h;exact absurd h c
 ·rw[if_neg c] at h ⊢;have c0:(qk l).2.1=0:=by simpa using c
  obtain⟨W,ne,_⟩:=Ud c0;cases hr:yq (qk l).1 0 with
  |er t=>rw[hr] at h;exact absurd h (λh=>by cases h)
  |ok x j=>
   rw[hr] at h;dsimp only at h ⊢;by_cases k5:(tk (qk l).1 j).kind=5
   ·rw[if_pos k5];exact vP W (QbP.2 ne) hr
   ·rw[if_neg k5] at h;exact absurd h (λh=>by cases h)
def Bad (c:Int):Prop:=c≠0
theorem jfy {vars:List VarT}{enums:List EnumT}{x:Ex}{c l k:Int}(h:zC vars enums x=.er c l k):Bad c:=by
 unfold zC at h;split at h
 ·cases h
 ·split at h
  ·cases h;exact λh=>by cases h
  ·cases h
mutual
theorem HN {vars:List VarT}{enums:List EnumT}:∀ (fm:Bool) (x:Ex) {a b d:Int},yn vars enums fm x=.er a b d->Bad a
 |fm,.mk op num name ks l c,a,b,d,h=>by
  rw[yn] at h;split at h
  ·cases h
  ·split at h
   ·cases h
   ·split at h
    ·exact jfy h
    ·split at h
     ·rename_i hr;cases h;exact gf _ _ hr
     ·unfold YZ at h;split at h
      ·cases h;exact λh=>by cases h
      ·split at h
       ·cases h
       ·split at h
        ·cases h;exact λh=>by cases h
        ·cases h
theorem gf {vars:List VarT}{enums:List EnumT}:∀ (fm:Bool) (xs:List Ex) {a b d:Int},qt vars enums fm xs=.er a b d->Bad a
 |fm,[],a,b,d,h=>by rw[qt] at h;cases h
 |fm,x :: xs,a,b,d,h=>by
  rw[qt] at h;cases hx:yn vars enums fm x with
  |er p q r=>rw[hx] at h;cases h;exact HN fm x hx
  |ok y=>
   rw[hx] at h;cases hr:qt vars enums fm xs with
   |er p q r=>rw[hr] at h;cases h;exact gf fm xs hr
   |ok r=>rw[hr] at h;cases h
end
theorem Xo {vars:List VarT}{enums:List EnumT}{fm:Bool}{x:Ex}{w:Int}{en:List Nat}{a b c:Int}(h:yz vars enums fm x w en=.er a b c):Bad a:=by
 unfold yz at h;split at h
 ·rename_i hr;cases h;exact HN fm x hr
 ·split at h
  ·cases h;exact λh=>by cases h
  ·cases h
theorem Vv {ts:List (List Nat)}{n:List Nat}{l c a b d:Int}(h:Xp ts n l c=.er a b d):Bad a:=by
 unfold Xp at h;split at h
 ·cases h;exact λh=>by cases h
 ·cases h
theorem Kn {l c:Int}:∀ {ns ts:List (List Nat)} {a b d:Int},zj l c ts ns=.er a b d->Bad a
 |[],ts,a,b,d,h=>by cases h
 |n :: ns,ts,a,b,d,h=>by
  rw[zj] at h;split at h
  ·rename_i hr;cases h;exact Vv hr
  ·exact Kn h
theorem jiL {m:ModT}{ts:List (List Nat)}{e:EnumT}{a b d:Int}(h:wE m ts e=.er a b d):Bad a:=by
 unfold wE at h;split at h
 ·rename_i hr;cases h;exact Kn hr
 ·cases h
theorem jc0 {vars:List VarT}{enums:List EnumT}:∀ {xs:List Ex} {v:VarT} {a b d:Int},Jr vars enums v xs=.er a b d->Bad a
 |[],v,a,b,d,h=>by rw[Jr] at h;cases h
 |x :: xs,v,a,b,d,h=>by
  rw[Jr] at h;split at h
  ·rename_i hr;cases h;exact Xo hr
  ·split at h
   ·cases h;exact λh=>by cases h
   ·split at h
    ·cases h;exact λh=>by cases h
    ·exact jc0 h
theorem jiR {m:ModT}{ts:List (List Nat)}{e:DeclT}{a b d:Int}(h:XG m ts e=.er a b d):Bad a:=by
 unfold XG at h;split at h
 ·rename_i hr;cases h;exact Vv hr
 ·split at h
  ·rename_i hr;cases h;unfold uf at hr;split at hr
   ·cases hr
   ·split at hr
    ·cases hr
    ·split at hr
     ·cases hr;exact λh=>by cases h
     ·split at hr
      ·cases hr;exact λh=>by cases h
      ·split at hr
       ·cases hr;exact λh=>by cases h
       ·cases hr
  ·unfold wL at h;split at h
   ·rename_i hr;cases h;exact jc0 hr
   ·unfold kJ at h;split at h
    ·cases h;exact λh=>by cases h
    ·cases h
theorem G8 {vars:List VarT}{enums:List EnumT}:∀ {xs done:List AsT} {acc:List SetT} {a b d:Int},Qt vars enums acc done xs=.er a b d->Bad a
 |[],done,acc,a,b,d,h=>by rw[Qt] at h;cases h
 |x :: xs,done,acc,a,b,d,h=>by
  rw[Qt] at h;split at h
  ·cases h;exact λh=>by cases h
  ·split at h
   ·cases h;exact λh=>by cases h
   ·split at h
    ·rename_i hr;cases h;exact Xo hr
    ·exact G8 h
theorem jhr {m:ModT}{ts:List (List Nat)}{e:RuleT}{a b d:Int}(h:Xs m ts e=.er a b d):Bad a:=by
 unfold Xs at h;split at h
 ·rename_i hr;cases h;exact Xo hr
 ·split at h
  ·rename_i hr;cases h;exact G8 hr
  ·cases h
theorem ZR {α β:Type}{f:β->α->KR β}(hf:∀ b x a c d,f b x=.er a c d->Bad a):∀ {xs:List α} {b:β} {a c d:Int},ye f b xs=.er a c d->Bad a
 |[],b,a,c,d,h=>by rw[ye] at h;cases h
 |x :: xs,b,a,c,d,h=>by
  rw[ye] at h;split at h
  ·rename_i hr;cases h;exact hf _ _ _ _ _ hr
  ·exact ZR hf h
theorem WP {s:SrcT}{a b d:Int}(h:zY s=.er a b d):Bad a:=by
 unfold zY at h;split at h
 ·rename_i hr;cases h;exact ZR (λb x a c d h=>jiL h) hr
 ·split at h
  ·rename_i hr;cases h;exact ZR (λb x a c d h=>jiR h) hr
  ·refine ZR (λb x a c d h=>?_) h;unfold YT at h;split at h
   ·rename_i hr;cases h;exact Vv hr
   ·exact ZR (λb x a c d h=>jhr h) h
theorem jrE:Go.Ev.isAgg Qaf 35=some true:=by kernel_rfl
theorem jrD:Go.Ev.sizeOf Qaf 35=some 3:=by kernel_rfl
theorem jtd {b o:Nat}{cs:List AV}{h:T AO}(ho:o+3<=qr h b)(hv:rats h b o 3=cs)(hc:cs.all eqs=true):(jZ Qaf 35 (.ptr b o) (.agg cs) h=true)=True:=eq_true (XP jrE jrD (by decide) ho hv hc)
structure RdT where
 m:ModT
 x:Ex
 c:Int
 l:Int
 k:Int
def zT (l f:List Nat):RdT:=
 if(yI l).2.1≠0 then⟨md0,ex0,(yI l).2.1,(yI l).2.2.1,(yI l).2.2.2⟩ else match zY (yI l).1 with
 |.er a b c=>⟨md0,ex0,a,b,c⟩
 |.ok m=>if(yr f).2.1≠0 then⟨md0,ex0,(yr f).2.1,(yr f).2.2.1,(yr f).2.2.2⟩ else match yz m.1.vars m.1.enums true (yr f).1 2 [] with
  |.er a b c=>⟨md0,ex0,a,b,c⟩
  |.ok y=>⟨m.1,y,0,0,0⟩
def Km (r:RdT):AV:=.tup [.agg (mdE r.m),.agg (eE r.x),.agg (fcl r.c r.l r.k)]
theorem jkp {s:St}{r:RdT}{a b c:List AV}(h1:a=mdE r.m)(h2:b=eE r.x)(h3:c=fcl r.c r.l r.k):G0 (Km r) (.tup [.agg a,.agg b,.agg c]) s:=by
 subst h1 h2 h3;exact FzD.tup (.cons (.agg (.pc (QY _))) (.cons (.agg (.pc (qO _))) (.cons (.agg (.pc rfl)) .nil)))
theorem Wu {s:St}{r:RdT}{c:List AV}(h1:r.m=md0)(h2:r.x=ex0)(h3:c=fcl r.c r.l r.k):G0 (Km r) (.tup [.agg [.nils,.nils,.nils],.agg [.int .i64 0,.int .i64 0,.str [],.nils,.int .i64 0,.int .i64 0],.agg c]) s:=by
 subst h3;unfold Km;rw[h1,h2];exact FzD.tup (.cons jhZ (.cons Yp (.cons (.agg (.pc rfl)) .nil)))
theorem Qo {α β:Type}{f:β->α->KR β}{P:Nat->β->Prop}:∀ {xs:List α} {n:Nat} {b b':β},(∀ k b x b',x∈xs->P k b->f b x=.ok b'->P (k+1) b')->P n b->ye f b xs=.ok b'->P (n+xs.length) b'
 |[],n,b,b',_,h,e=>by rw[ye] at e;cases e;exact h
 |x :: xs,n,b,b',hs,h,e=>by
  rw[ye] at e;split at e
  ·cases e
  ·rename_i c hc;have:=Qo (n:=n+1) (λk b y b' hy=>hs k b y b' (by simp[hy])) (hs n b x c (by simp) h hc) e;rw[Qak,show n+(xs.length+1)=n+1+xs.length by omega];exact this
theorem jbY {b b':MT}{p:ProcT}(h:YT b p=.ok b'):b'.1.vars=b.1.vars/\b'.1.enums=b.1.enums:=by
 unfold YT at h;split at h
 ·cases h
 ·rename_i ts _;refine Qo (n:=0) (P:=λ_ c=>c.1.vars=b.1.vars/\c.1.enums=b.1.enums) (λk c x c' _ hc hr=>?_) ⟨rfl,rfl⟩ h;obtain⟨e,he⟩:=jbK hr;rw[he];exact hc
theorem jlb {src:SrcT}(O:SrcOK src){b:MT}(h:V7 (md0,[]) src.enums=.ok b):b.1.vars=[]/\b.1.moves=[]/\b.1.enums.length<=1000/\(∀ e∈b.1.enums,e.vals.length<=1000000):=by
 have H:=Qo (n:=0) (P:=λk (c:MT)=>c.1.vars=[]/\c.1.moves=[]/\c.1.enums.length<=k/\(∀ e∈c.1.enums,e.vals.length<=1000000)) (λk c x c' hx hc hr=>?_) ⟨rfl,rfl,Qao _,λe he=>by cases he⟩ h
 ·have:=O.ne;exact⟨H.1,H.2.1,by have:=H.2.2.1;omega,H.2.2.2⟩
 ·rw[W6 hr];refine⟨hc.1,hc.2.1,by have:=hc.2.2.1;simp;omega,λu hu=>?_⟩;rcases QaX.1 hu with hu|hu
  ·exact hc.2.2.2 u hu
  ·simp only[QbJ] at hu;rw[hu];exact(O.vals x hx).2
theorem jlf {src:SrcT}(O:SrcOK src){b c:MT}(V:VarsOK b.1.vars b.1.enums)(h0:b.1.vars=[])(h:vE b src.vars=.ok c):VarsOK c.1.vars c.1.enums:=by
 have:=Qo (n:=0) (P:=λk (c:MT)=>(∀ v∈c.1.vars,-100000000<=v.lo/\v.lo<=100000000/\-100000000<=v.hi/\v.hi<=100000000)/\c.1.enums=b.1.enums/\c.1.vars.length=k) (λk c x c' hx hc hr=>?_) ⟨V.ends,rfl,by rw[h0];rfl⟩ h
 ·have hn:=O.nv;exact⟨by omega,by rw[this.2.1];exact V.len2,by rw[this.2.1];exact V.vals,this.1⟩
 ·obtain⟨v,he,hv⟩:=jcM (by rw[hc.2.1];exact V.vals) (O.vars x hx) hr;rw[he];refine⟨λu hu=>?_,hc.2.1,by simp[hc.2.2]⟩;rcases QaX.1 hu with hu|hu
  ·exact hc.1 u hu
  ·simp only[QbJ] at hu;rw[hu];exact hv
theorem jmg {src:SrcT}(O:SrcOK src){m:MT}(h:zY src=.ok m):VarsOK m.1.vars m.1.enums:=by
 unfold zY at h;split at h
 ·cases h
 ·rename_i b h1;obtain⟨e1,e2,e3,e4⟩:=jlb O h1;split at h
  ·cases h
  ·rename_i c h2;have V:=jlf O ⟨by rw[e1];exact QaG _,by omega,e4,λv hv=>by rw[e1] at hv;cases hv⟩ e1 h2;have:=Qo (n:=0) (P:=λ_ (d:MT)=>d.1.vars=c.1.vars/\d.1.enums=c.1.enums) (λk d x d' _ hd hr=>?_) ⟨rfl,rfl⟩ h
   ·rw[this.1,this.2];exact V
   ·have:=jbY hr;rw[this.1,this.2];exact hd
set_option maxHeartbeats 8000000 in
theorem jrd (hb:NB base)(hP:PI base)(l f:List Nat)(hl:l.length<=9223372036854775807)(hf:f.length<=9223372036854775807):Tot base 34 [.str l,.str f] (Km (zT l f)):=by
 refine hb.tot ?_ rfl rfl;have hS:=jlr hb hP l hl Ud jiS;have hX:=jrk hb hP f hf Ud;refine jF x24 (by rfl) (hb.pur 34 1 (by decide)) ?_;simp only[y24,ju,Qai,Qaj,Qag,Qah];rw[(by unfold z24;simp only[qq];rfl:z24=_)];unfold zT;by_cases h1:(yI l).2.1≠0
 ·have h1':¬ ((yI l).2.1:Int)=0:=by omega
  rw[if_pos h1];have e:zG (yI l).2=[.int .i64 ((yI l).2.1:Int),.int .i64 ((yI l).2.2.1:Int),.int .i64 ((yI l).2.2.2:Int)]:=rfl;rw[e] at hS;repeat'(first|apply jc<;>intro _|simp(disch:=first|exact dzG|fail) only[hS,h1',Yl,QR,vV,je,jj,jX,ji,jd,qN,qM,jm,jn,jp,jq,jo,rzZ,Qab,Qac,Qad,Qaa,Qae])
  exact Wu rfl rfl rfl
 rw[if_neg h1];have h1z:(yI l).2.1=0:=by simpa using h1
 have O:=jdQ h1z;have e0:(yI l).2=(0,0,0):=by
  unfold yI at h1z ⊢;by_cases c:(qk l).2.1≠0
  ·rw[if_pos c] at h1z;exact absurd h1z c
  ·rw[if_neg c] at h1z ⊢;cases hr:XL (qk l).1 (qk l).1.length 0 Wx with
   |er t=>rw[hr] at h1z;exact absurd h1z (λh=>by cases h)
   |ok m j=>rfl
 rw[e0] at hS;have e0':zG (0,0,0)=[.int .i64 0,.int .i64 0,.int .i64 0]:=rfl;rw[e0'] at hS;have hM:=jnr hb (yI l).1 O;unfold Ut at hM;cases hm:zY (yI l).1 with
 |er a b c=>
  have ha:¬ a=0:=WP hm;rw[hm] at hM;unfold fcl at hM;repeat'(first|apply jc<;>intro _|simp(disch:=first|exact dzG|fail) only[hS,hM,ha,Yl,QR,vV,je,jj,jX,ji,jd,qN,qM,jm,jn,jp,jq,jo,rzZ,Qab,Qac,Qad,Qaa,Qae])
  exact Wu rfl rfl rfl
 |ok m=>
  rw[hm] at hM;unfold fcl at hM;dsimp only at hM ⊢;have V:=jmg O hm;by_cases h2:(yr f).2.1≠0
  ·have h2':¬ ((yr f).2.1:Int)=0:=by omega
   rw[if_pos h2];have e:zG (yr f).2=[.int .i64 ((yr f).2.1:Int),.int .i64 ((yr f).2.2.1:Int),.int .i64 ((yr f).2.2.2:Int)]:=rfl;rw[e] at hX;repeat'(first|apply jc<;>intro _|simp(disch:=first|exact dzG|fail) only[hS,hM,hX,h2',Yl,QR,vV,je,jj,jX,ji,jd,qN,qM,jm,jn,jp,jq,jo,rzZ,Qab,Qac,Qad,Qaa,Qae])
   exact Wu rfl rfl rfl
  rw[if_neg h2];have h2z:(yr f).2.1=0:=by simpa using h2
  have OX:=jk6 h2z;have e2:(yr f).2=(0,0,0):=by
   unfold yr at h2z ⊢;by_cases c:(qk f).2.1≠0
   ·rw[if_pos c] at h2z;exact absurd h2z c
   ·rw[if_neg c] at h2z ⊢;cases hr:yq (qk f).1 0 with
    |er t=>rw[hr] at h2z;exact absurd h2z (λh=>by cases h)
    |ok x j=>
     rw[hr] at h2z;dsimp only at h2z ⊢;by_cases k5:(tk (qk f).1 j).kind=5
     ·rw[if_pos k5]
     ·rw[if_neg k5] at h2z;exact absurd h2z (λh=>by cases h)
  rw[e2,e0'] at hX;have hF:=jiw hb m.1 V (yr f).1 OX;unfold jfg at hF;cases hr:yz m.1.vars m.1.enums true (yr f).1 2 [] with
  |er a b c=>
   have ha:¬ a=0:=Xo hr;rw[hr] at hF;unfold fcl at hF;repeat'(first|apply jc<;>intro _|simp(disch:=first|exact dzG|fail) only[hS,hM,hX,hF,ha,Yl,QR,vV,je,jj,jX,ji,jd,qN,qM,jm,jn,jp,jq,jo,rzZ,Qab,Qac,Qad,Qaa,Qae])
   exact Wu rfl rfl rfl
  |ok y=>
   rw[hr] at hF;unfold fcl at hF
   (have zz:=aI @QV @jmi;(repeat'(first|apply jc<;>intro _|simp(disch:=first|exact jO|fail) only[hS,hM,hX,hF,Yl,QR,jtd,vV,QV,jmi,je,jj,jX,ji,jd,qN,qM,jm,jn,jp,jq,jo,rzZ,Qab,Qac,Qad,Qaa,Qae]));all_goals clear zz)
   exact jkp rfl rfl rfl
theorem jqz (a b c d e f:Int):(eqF Qaf 20 45).run (.agg [.int .i64 a,.int .i64 b,.int .i64 c]) (.agg [.int .i64 d,.int .i64 e,.int .i64 f])=some (decide (a=d/\b=e/\c=f)):=by
 have h:(eqF Qaf 20 45).run (.agg [.int .i64 a,.int .i64 b,.int .i64 c]) (.agg [.int .i64 d,.int .i64 e,.int .i64 f])=cond (eqI a d) (cond (eqI b e) (cond (eqI c f) (some true) (some false)) (some false)) (some false):=by kernel_rfl
 rw[h,XX,XX,XX];by_cases h1:a=d<;>by_cases h2:b=e<;>by_cases h3:c=f<;>simp[h1,h2,h3]
theorem fEq (a b c d e f:Int)(st:St)(K:AV->St->Prop):jk (Xh Qaf .eql 45 false (.agg [.int .i64 a,.int .i64 b,.int .i64 c]) (.agg [.int .i64 d,.int .i64 e,.int .i64 f]) st) K=K (.bool (decide (a=d/\b=e/\c=f))) st:=by
 have h:Xh Qaf .eql 45 false (.agg [.int .i64 a,.int .i64 b,.int .i64 c]) (.agg [.int .i64 d,.int .i64 e,.int .i64 f]) st=jR ((eqF Qaf 20 45).run (.agg [.int .i64 a,.int .i64 b,.int .i64 c]) (.agg [.int .i64 d,.int .i64 e,.int .i64 f])) λb=>.ok (.bool b) st:=by kernel_rfl
 rw[h,jqz];simp[jR,jk]
theorem fNe (a b c d e f:Int)(st:St)(K:AV->St->Prop):jk (Xh Qaf .neq 45 false (.agg [.int .i64 a,.int .i64 b,.int .i64 c]) (.agg [.int .i64 d,.int .i64 e,.int .i64 f]) st) K=K (.bool (decide (¬ (a=d/\b=e/\c=f)))) st:=by
 have h:Xh Qaf .neq 45 false (.agg [.int .i64 a,.int .i64 b,.int .i64 c]) (.agg [.int .i64 d,.int .i64 e,.int .i64 f]) st=jR ((eqF Qaf 20 45).run (.agg [.int .i64 a,.int .i64 b,.int .i64 c]) (.agg [.int .i64 d,.int .i64 e,.int .i64 f])) λb=>.ok (.bool (cond b false true)) st:=by kernel_rfl
 rw[h,jqz];by_cases hh:a=d/\b=e/\c=f<;>simp[hh,jR,jk]
def Y7 (vars:List VarT):Prop:=∀ v∈vars,v.kind=2->v.enum=[]
theorem jfF {enums:List EnumT}{d:DeclT}{v:VarT}(h:uf enums d=.ok v):v.kind=2->v.enum=[]:=by
 unfold uf at h;split at h
 ·cases h;exact λ_=>rfl
 ·split at h
  ·cases h;intro h;cases h
  ·split at h
   ·cases h
   ·split at h
    ·cases h
    ·split at h
     ·cases h
     ·cases h;intro h;cases h
theorem jf9 {m:ModT}{ts:List (List Nat)}{d:DeclT}{b:MT}(hm:Y7 m.vars)(h:XG m ts d=.ok b):Y7 b.1.vars:=by
 unfold XG at h;split at h
 ·cases h
 ·split at h
  ·cases h
  ·rename_i v hk;unfold wL at h;split at h
   ·cases h
   ·rename_i u hu;unfold kJ at h;split at h
    ·cases h
    ·cases h;have hb:=GZ hu;intro w hw;rcases QaX.1 hw with hw|hw
     ·exact hm w hw
     ·simp only[QbJ] at hw;rw[hw,hb.2.2.1,hb.2.2.2.1];exact jfF hk
theorem jnw {src:SrcT}{m:MT}(h:zY src=.ok m):Y7 m.1.vars:=by
 unfold zY at h;split at h
 ·cases h
 ·rename_i b h1;have hb:Y7 b.1.vars:=Qo (n:=0) (P:=λ_ (c:MT)=>Y7 c.1.vars) (λk c x c' _ hc hr=>by rw[W6 hr];exact hc) (λv hv=>by cases hv) h1;split at h
  ·cases h
  ·rename_i c h2;have hc:Y7 c.1.vars:=Qo (n:=0) (P:=λ_ (c:MT)=>Y7 c.1.vars) (λk c x c' _ hc hr=>jf9 hc hr) hb h2;exact Qo (n:=0) (P:=λ_ (c:MT)=>Y7 c.1.vars) (λk c x c' _ hc hr=>by rw[(jbY hr).1];exact hc) hc h
mutual
theorem jcn {vars:List VarT}{enums:List EnumT}:∀ (fm:Bool) (x y:Ex) (m:MtT),yn vars enums fm x=.ok (y,m)->szE y<=szE x
 |fm,.mk op num name ks l c,y,m,h=>by
  rw[yn] at h;split at h
  ·cases h;exact Qao _
  ·split at h
   ·cases h;exact Qao _
   ·split at h
    ·have hs:∀ o n l c,szE (.mk o n [] [] l c)<=szE (.mk op num name ks l c):=λo n l c=>by rw[Q4,Q4];simp[yu]
     unfold zC at h;split at h
     ·cases h;exact hs _ _ _ _
     ·split at h
      ·cases h
      ·cases h;exact hs _ _ _ _
    ·split at h
     ·cases h
     ·rename_i r hr;have h2:=HJ _ _ r.1 r.2 hr;have e:∀ l' c',szE (.mk op num name r.1 l' c')<=szE (.mk op num name ks l c):=λl' c'=>by rw[Q4,Q4];omega
      unfold YZ at h;split at h
      ·cases h
      ·split at h
       ·cases h;exact e _ _
       ·split at h
        ·cases h
        ·cases h;exact e _ _
theorem HJ {vars:List VarT}{enums:List EnumT}:∀ (fm:Bool) (xs ys:List Ex) (ms:List MtT),qt vars enums fm xs=.ok (ys,ms)->yu ys<=yu xs
 |fm,[],ys,ms,h=>by rw[qt] at h;cases h;exact Qao _
 |fm,x :: xs,ys,ms,h=>by
  rw[qt] at h;cases hx:yn vars enums fm x with
  |er a b d=>rw[hx] at h;cases h
  |ok y=>
   rw[hx] at h;cases hr:qt vars enums fm xs with
   |er a b d=>rw[hr] at h;cases h
   |ok r=>
    rw[hr] at h;cases h;have h1:=jcn fm x y.1 y.2 hx;have h2:=HJ fm xs r.1 r.2 hr;simp only[yu];omega
end
theorem Yw {α:Type}{f:α->Nat}:∀ {l:List α} {x:α},x∈l->f x<=(l.map f).sum
 |y :: l,x,h=>by
  rw[Qai,List.sum_cons];rcases Qbs.1 h with rfl|h
  ·omega
  ·have:=Yw (f:=f) h;omega
theorem Yx {α:Type}{f:α->Nat}(hf:∀ x,1<=f x):∀ l:List α,l.length<=(l.map f).sum
 |[]=>QaG _
 |y :: l=>by
  rw[Qai,List.sum_cons,Qak];have:=Yx hf l;have:=hf y;omega
theorem jkq {xs:List Ex}{x:Ex}(h:x∈xs):szE x<=yu xs:=by rw[<-JX];exact Yw h
theorem jm5 (xs:List Ex):xs.length<=yu xs:=by rw[<-JX];exact Yx Gh xs
theorem jo7 {m:SrcT}(h:szS m<=1048576):WrS m:=by
 unfold szS at h;have hB:(1048576:Nat)<=BIG:=by decide
 have l1:=Yx (f:=szN) (λe=>by unfold szN;omega) m.enums;have l2:=Yx (f:=szD) (λe=>by unfold szD;omega) m.vars;have l3:=Yx (f:=szP) (λe=>by unfold szP;omega) m.procs;refine⟨by omega,λe he=>?_,by omega,λd hd=>?_,by omega,λp hp=>?_⟩
 ·have h0:=Yw (f:=szN) he;have e0:szN e=e.name.length+(e.vals.map szV).sum+1:=rfl;have lv:=Yx (f:=szV) (λe=>by unfold szV;omega) e.vals;refine⟨by omega,by omega,λv hv=>?_⟩;have h1:=Yw (f:=szV) hv;have e1:szV v=v.length+1:=rfl;omega
 ·have h0:=Yw (f:=szD) hd;have e0:szD d=d.name.length+d.ty.length+yu d.begins+1:=rfl;have:=jm5 d.begins;refine⟨by omega,by omega,by omega,λx hx=>?_⟩;have:=jkq hx;omega
 ·have h0:=Yw (f:=szP) hp;have e0:szP p=p.name.length+(p.rules.map szR).sum+1:=rfl;have lr:=Yx (f:=szR) (λe=>by unfold szR;omega) p.rules;refine⟨by omega,by omega,λr hr=>?_⟩;have h1:=Yw (f:=szR) hr;have e1:szR r=szE r.when+(r.acts.map szA).sum+1:=rfl;have la:=Yx (f:=szA) (λe=>by unfold szA;omega) r.acts;refine⟨by omega,by omega,λa ha=>?_⟩;have h2:=Yw (f:=szA) ha;have e2:szA a=a.name.length+szE a.to+1:=rfl;omega
section
variable {st:St} {K:AV->St->Prop}
theorem vS (a b c:AV):jk (GL 0 (.tup [a,b,c]) st) K=K a st:=nr rfl
theorem vR (a b c:AV):jk (GL 1 (.tup [a,b,c]) st) K=K b st:=nr rfl
theorem vQ (a b c:AV):jk (GL 2 (.tup [a,b,c]) st) K=K c st:=nr rfl
end
theorem jbQ {l f:List Nat}(h:(zT l f).c=0):VarsOK (zT l f).m.vars (zT l f).m.enums/\Y7 (zT l f).m.vars:=by
 unfold zT at h ⊢;by_cases h1:(yI l).2.1≠0
 ·rw[if_pos h1] at h;exact absurd (show((yI l).2.1:Int)=0 from h) (by omega)
 ·rw[if_neg h1] at h ⊢;have O:=jdQ (l:=l) (by simpa using h1);cases hm:zY (yI l).1 with
  |er a b c=>
   rw[hm] at h;exact absurd h (WP hm)
  |ok m=>
   rw[hm] at h;dsimp only at h ⊢;by_cases h2:(yr f).2.1≠0
   ·rw[if_pos h2] at h;exact absurd (show((yr f).2.1:Int)=0 from h) (by omega)
   ·rw[if_neg h2] at h ⊢;cases hr:yz m.1.vars m.1.enums true (yr f).1 2 [] with
    |er a b c=>
     rw[hr] at h;exact absurd h (Xo hr)
    |ok y=>exact⟨jmg O hm,jnw hm⟩
mutual
def wkB:Ex->Bool
 |.mk op num _ ks _ _=>(decide (Jn op=(ks.length:Int)) && (decide (op≠2) ||decide (num=0) ||decide (num=1))) && Wo ks
def Wo:List Ex->Bool
 |[]=>true
 |x :: xs=>wkB x && Wo xs
end
def WkX (x:Ex):Prop:=wkB x=true/\szE x<=BIG
mutual
theorem kG:∀ (d:Nat) (x:Ex),yG d x=true->wkB x=true
 |0,_,h=>by cases h
 |d+1,.mk op num name ks l c,h=>by
  rw[vj] at h;simp only[Qaq,decide_eq_true_eq] at h;obtain⟨⟨⟨⟨h1,h2⟩,h3⟩,h4⟩,h5⟩:=h;have h1:(1:Int)<=op:=h1;have h2:op<31:=h2;have h3:(ks.length:Int)=if 5<=op/\op<=13 then 1 else if 14<=op/\op<31 then 2 else 0:=h3
  rw[wkB,Qaq,Qaq,decide_eq_true_eq];refine⟨⟨?_,?_⟩,Hb d ks h5⟩
  ·unfold Jn;rw[h3];repeat' split
   all_goals omega
  ·by_cases ho:op=2
   ·unfold ue at h4;rw[if_neg (show ¬ Ex.op (.mk op num name ks l c)=1 from by show ¬ op=1;omega),if_pos (show Ex.op (.mk op num name ks l c)=2 from ho)] at h4;simp only[Qaq,QaO,decide_eq_true_eq] at h4;have h6:num=0\/num=1:=h4.1;simp only[QaO,decide_eq_true_eq];omega
   ·simp[ho]
theorem Hb:∀ (d:Nat) (xs:List Ex),xs.all (yG d)=true->Wo xs=true
 |_,[],_=>rfl
 |d,x :: xs,h=>by
  rw[Qbb,Qaq] at h;rw[Wo,kG d x h.1,Hb d xs h.2];rfl
end
theorem jkj {ts:List Tk}(W:Wds ts){i j:Nat}{x:Ex}(hi:i<ts.length)(h:yq ts i=.ok x j):szE x<=BIG:=by
 obtain⟨r,_,hr⟩:=evR W hi;rw[Vr hr] at h;obtain⟨N,hr⟩:=hr;have hz:=(Uw W N).1 _ _ _ _ (hr N (Qao _)) hi;unfold Vq at h;cases r with
 |er t=>cases h
 |ok y k=>
  dsimp only at h;split at h
  ·cases h;have h1:=hz.2.2;have h2:(j - i) * 65537<=1000000 * 65537:=QaM _ (by have:=W.len;have:=hz.2.1;omega);have h3:1000000 * 65537<=BIG:=by decide
   exact Qav h1 (by rw[QaP];exact Qav h2 h3)
  ·cases h
theorem kB {ts:List Tk}(W:Wds ts){i j:Nat}{x:Ex}(hi:i<ts.length)(h:yq ts i=.ok x j):WkX x:=⟨kG 60 x (yd W hi h).2.2.2,jkj W hi h⟩
def WkD (d:DeclT):Prop:=(∀ x∈d.begins,WkX x)/\d.begins.length<=1
def WkR (r:RuleT):Prop:=WkX r.when/\(∀ a∈r.acts,WkX a.to)/\r.acts.length<=1000000
def WkP (p:ProcT):Prop:=p.rules.length<=1000/\∀ r∈p.rules,WkR r
structure WkS (m:SrcT):Prop where
 begs:∀ d∈m.vars,WkD d
 rules:∀ p∈m.procs,WkP p
theorem joh {ts:List Tk}(W:Wds ts){i j:Nat}{bs:List Ex}(hi:i<ts.length)(h:Z4 ts i=.ok bs j):(∀ x∈bs,WkX x)/\bs.length<=1:=by
 unfold Z4 at h;split at h
 ·rename_i c;have hi1:=W.isM hi c;split at h
  ·cases h
  ·rename_i x k hx;split at h
   ·cases h;exact⟨λy hy=>by simp at hy;rw[hy];exact kB W hi1 hx,by simp⟩
   ·cases h
 ·split at h
  ·cases h;exact⟨(λy hy=>by cases hy),by simp⟩
  ·cases h
theorem jmU {ts:List Tk}(W:Wds ts){i j:Nat}{d:DeclT}(hi:i<ts.length)(h:Yg ts i=.ok d j):WkD d:=by
 unfold Yg at h;split at h
 ·rename_i k1;have hi1:=W.next i hi (by omega)
  split at h
  ·rename_i c1;have hi2:=W.isM hi1 c1;split at h
   ·cases h
   ·rename_i y k hy;have hk:=jbC W hi2 hy;split at h
    ·cases h
    ·rename_i bs k2 hb;cases h;obtain⟨c,d⟩:=joh W hk.2 hb;exact⟨c,d⟩
  ·cases h
 ·cases h
theorem jdu {ts:List Tk}(W:Wds ts):∀ {n i j:Nat} {vs ws:List AsT},i<ts.length->(∀ a∈vs,WkX a.to)->vs.length<=32->QD ts n i vs=.ok ws j->(∀ a∈ws,WkX a.to)/\ws.length<=32
 |0,i,j,vs,ws,hi,hv,hl,h=>by cases h
 |n+1,i,j,vs,ws,hi,hv,hl,h=>by
  rw[QD] at h;by_cases k1:(tk ts i).kind=1
  ·simp only[if_pos k1] at h;have hi1:=W.next i hi (by omega)
   by_cases h32:32<=vs.length
   ·simp only[if_pos h32] at h;cases h
   simp only[if_neg h32] at h;by_cases c1:isM (tk ts (i+1)) [[58,61]]=true
   ·simp only[if_pos c1] at h;have hi2:=W.isM hi1 c1;cases h1:yq ts (i+2) with
    |er t=>rw[h1] at h;cases h
    |ok x k=>
     rw[h1] at h;dsimp only at h;have hj:=yd W hi2 h1;have hx:=kB W hi2 h1;have hv2:∀ l c nm,∀ a∈vs ++ [(⟨nm,x,l,c⟩:AsT)],WkX a.to:=λl c nm a ha=>by
      rcases QaX.1 ha with ha|ha
      ·exact hv a ha
      ·simp at ha;rw[ha];exact hx
     by_cases c2:isM (tk ts k) [[44]]=true
     ·simp only[if_pos c2] at h;exact jdu W (W.isM hj.2.1 c2) (hv2 _ _ _) (by simp;omega) h
     ·simp only[if_neg c2] at h;split at h
      ·cases h;exact⟨hv2 _ _ _,by simp;omega⟩
      ·cases h
   ·simp only[if_neg c1] at h;cases h
  ·simp only[if_neg k1] at h;cases h
theorem jmS {ts:List Tk}(W:Wds ts){i j:Nat}{r:RuleT}(hi:i<ts.length)(h:Xr ts i=.ok r j):WkX r.when/\(∀ a∈r.acts,WkX a.to)/\r.acts.length<=1000000:=by
 unfold Xr at h;cases h1:yq ts i with
 |er t=>rw[h1] at h;cases h
 |ok x k=>
  rw[h1] at h;dsimp only at h;have hj:=yd W hi h1;by_cases c1:isM (tk ts k) [[100,111]]=true
  ·simp only[if_pos c1] at h;cases h2:QD ts ts.length (k+1) [] with
   |er t=>rw[h2] at h;cases h
   |ok vs k2=>
    rw[h2] at h;cases h;have:=jdu (vs:=[]) W (W.isM hj.2.1 c1) (λa ha=>by cases ha) (QaG _) h2;exact⟨kB W hi h1,this.1,by dsimp only;omega⟩
  ·simp only[if_neg c1] at h;cases h
theorem jbm {ts:List Tk}(W:Wds ts):∀ {n i j:Nat} {vs ws:List RuleT},i<ts.length->(∀ r∈vs,WkX r.when/\(∀ a∈r.acts,WkX a.to)/\r.acts.length<=1000000)->vs.length<=32->J9 ts n i vs=.ok ws j->(∀ r∈ws,WkX r.when/\(∀ a∈r.acts,WkX a.to)/\r.acts.length<=1000000)/\ws.length<=32
 |0,i,j,vs,ws,hi,hv,hl,h=>by cases h
 |n+1,i,j,vs,ws,hi,hv,hl,h=>by
  rw[J9] at h;by_cases c1:isM (tk ts i) [[119,104,101,110]]=true
  ·simp only[if_pos c1] at h;have hi1:=W.isM hi c1;by_cases h32:32<=vs.length
   ·simp only[if_pos h32] at h;cases h
   simp only[if_neg h32] at h;cases h1:Xr ts (i+1) with
   |er t=>rw[h1] at h;cases h
   |ok r k=>
    rw[h1] at h;dsimp only at h;refine jbm W (Uz W hi1 h1).2 (λa ha=>?_) (by simp;omega) h;rcases QaX.1 ha with ha|ha
    ·exact hv a ha
    ·simp at ha;rw[ha];exact jmS W hi1 h1
  ·simp only[if_neg c1] at h;split at h
   ·cases h;exact⟨hv,hl⟩
   ·cases h
theorem jmT {ts:List Tk}(W:Wds ts){i j:Nat}{p:ProcT}(hi:i<ts.length)(h:X6 ts i=.ok p j):WkP p:=by
 unfold X6 at h;split at h
 ·rename_i k1;have hi1:=W.next i hi (by omega)
  split at h
  ·rename_i c1;have hi2:=W.isM hi1 c1;split at h
   ·rename_i vs k hv;cases h;have:=jbm (vs:=[]) W hi2 (λa ha=>by cases ha) (QaG _) hv;exact⟨by dsimp only;omega,this.1⟩
   ·cases h
  ·cases h
 ·cases h
theorem Kd {ts:List Tk}(W:Wds ts):∀ {n i j:Nat} {m w:SrcT},i<ts.length->WkS m->m.enums.length<=32->m.vars.length<=32->m.procs.length<=32->XL ts n i m=.ok w j->WkS w/\w.enums.length<=32/\w.vars.length<=32/\w.procs.length<=32
 |0,i,j,m,w,hi,hm,h1,h2,h3,h=>by cases h
 |n+1,i,j,m,w,hi,hm,h1,h2,h3,h=>by
  rw[XL] at h;by_cases c:isM (tk ts i) [[101,110,117,109],[118,97,114],[112,114,111,99,101,115,115]]=true
  ·simp only[if_pos c] at h;have hi1:=W.isM hi c;by_cases c1:(tk ts i).text=[101,110,117,109]
   ·simp only[if_pos c1] at h;by_cases hr:32<=m.enums.length
    ·simp only[if_pos hr] at h;cases h
    simp only[if_neg hr] at h;cases he:ZE ts (i+1) with
    |er t=>rw[he] at h;cases h
    |ok e k=>
     rw[he] at h;refine Kd (m:={ m with enums:=m.enums ++ [e] }) W (GR W hi1 he).2 ⟨hm.begs,hm.rules⟩ (by simp;omega) h2 h3 h
   simp only[if_neg c1] at h;by_cases c2:(tk ts i).text=[118,97,114]
   ·simp only[if_pos c2] at h;by_cases hr:32<=m.vars.length
    ·simp only[if_pos hr] at h;cases h
    simp only[if_neg hr] at h;cases he:Yg ts (i+1) with
    |er t=>rw[he] at h;cases h
    |ok e k=>
     rw[he] at h;refine Kd (m:={ m with vars:=m.vars ++ [e] }) W (GW W hi1 he).2 ⟨λa ha=>?_,hm.rules⟩ h1 (by simp;omega) h3 h;rcases QaX.1 ha with ha|ha
     ·exact hm.begs a ha
     ·simp at ha;rw[ha];exact jmU W hi1 he
   ·simp only[if_neg c2] at h;by_cases hr:32<=m.procs.length
    ·simp only[if_pos hr] at h;cases h
    simp only[if_neg hr] at h;cases he:X6 ts (i+1) with
    |er t=>rw[he] at h;cases h
    |ok e k=>
     rw[he] at h;refine Kd (m:={ m with procs:=m.procs ++ [e] }) W (Gt W hi1 he).2 ⟨hm.begs,λa ha=>?_⟩ h1 h2 (by simp;omega) h;rcases QaX.1 ha with ha|ha
     ·exact hm.rules a ha
     ·simp at ha;rw[ha];exact jmT W hi1 he
  ·simp only[if_neg c] at h;split at h
   ·cases h;exact⟨hm,h1,h2,h3⟩
   ·cases h
theorem jm8 {l:List Nat}(h:(yI l).2.1=0):WkS (yI l).1/\(yI l).1.procs.length<=32:=by
 unfold yI at h ⊢;by_cases c:(qk l).2.1≠0
 ·rw[if_pos c] at h;exact absurd h c
 ·rw[if_neg c] at h ⊢;have c0:(qk l).2.1=0:=by simpa using c
  obtain⟨W,ne,_⟩:=Ud c0;cases hr:XL (qk l).1 (qk l).1.length 0 Wx with
  |er t=>rw[hr] at h;exact absurd h (λh=>by cases h)
  |ok m j=>
   have:=Kd W (QbP.2 ne) ⟨(λa ha=>by cases ha),(λa ha=>by cases ha)⟩ (by decide) (by decide) (by decide) hr;exact⟨this.1,this.2.2.2⟩
section
def wq (n:Int):Int:=qW .i64 n
def Qh (p:Prop) [Decidable p]:Int:=if p then 1 else 0
def Wt (op a b:Int):Option Int:=
 if op=14 then some (wq (a * b)) else if op=15 then some (wq (a+b)) else if op=16 then some (wq (a - b))
 else if op=17\/op=30 then some (Qh (a=b)) else if op=18 then some (Qh (a≠b)) else if op=19 then some (Qh (a<b))
 else if op=20\/op=29 then some (Qh (a<=b)) else if op=21 then some (Qh (b<a)) else if op=22 then some (Qh (b<=a))
 else if op=27 then some (if a<=b then a else b) else if op=28 then some (if a<=b then b else a) else none
def opV (s:List Int)(op num:Int)(ns:List Int):Option Int:=
 if ns.length=0/\(op=1\/op=2) then some num
 else if ns.length=0/\op=4/\0<=num/\num<(s.length:Int) then some (s.getD num.toNat 0)
 else if ns.length=1/\op=5 then some (wq (-(ns.getD 0 0)))
 else if ns.length=1/\op=6 then some (wq (1 - ns.getD 0 0))
 else if ns.length=2 then Wt op (ns.getD 0 0) (ns.getD 1 0)
 else none
mutual
def qC (s:List Int):Ex->Option Int
 |.mk op num _ ks _ _=>match qu s ks with
  |none=>none
  |some ns=>opV s op num ns
def qu (s:List Int):List Ex->Option (List Int)
 |[]=>some []
 |x :: xs=>match qC s x with
  |none=>none
  |some n=>match qu s xs with
   |none=>none
   |some ns=>some (n :: ns)
end
def JR (op a b:Int):Int:=
 if op=5 then wq (-a) else if op=14 then wq (a * b) else if op=15 then wq (a+b) else if op=16 then wq (a - b)
 else if op=6 then Qh (a=0) else if op=17\/op=30 then Qh (a=b) else if op=18 then Qh (a≠b) else if op=19 then Qh (a<b)
 else if op=20 then Qh (a<=b) else if op=21 then Qh (b<a) else if op=22 then Qh (b<=a) else if op=27 then Qh (a=1/\b=1)
 else if op=28 then Qh (a=1\/b=1) else if op=29 then Qh (a=0\/b=1) else 0
mutual
def zt (s:List Int):Ex->Int
 |.mk op num _ ks _ _=>if op=4 then s.getD num.toNat 0 else if ks.length=0 then num else JR op ((wk s ks).getD 0 0) ((wk s ks).getD (ks.length - 1) 0)
def wk (s:List Int):List Ex->List Int
 |[]=>[]
 |x :: xs=>zt s x :: wk s xs
end
theorem Ks {s:List Int}:∀ {xs:List Ex} {ns:List Int},qu s xs=some ns->ns.length=xs.length
 |[],ns,h=>by simp only[qu] at h;cases h;rfl
 |x :: xs,ns,h=>by
  rw[qu] at h;cases h1:qC s x with
  |none=>rw[h1] at h;cases h
  |some n=>
   rw[h1] at h;cases h2:qu s xs with
   |none=>rw[h2] at h;cases h
   |some ms=>rw[h2] at h;cases h;simp[Ks h2]
def QH (vars:List VarT)(s:List Int):Bool:=decide (s.length=vars.length) && (QaN vars.length).all λi=>decide ((vars.getD i ⟨[],0,[],0,0,false,0⟩).lo<=s.getD i 0) && decide (s.getD i 0<=(vars.getD i ⟨[],0,[],0,0,false,0⟩).hi)
def Ys (vars:List VarT):Prop:=∀ v∈vars,v.kind=2->v.lo=0/\v.hi=1
def Jp (n:Int):Prop:=n=0\/n=1
theorem js8:wq (1 - 0)=1:=by decide
theorem js7:wq (1 - 1)=0:=by decide
theorem w7 (p:Prop) [Decidable p]:Jp (Qh p):=by unfold Qh Jp;split<;>simp
theorem jnQ {part:Int}{ms:List MtT}(h:Uk part ms≠true)(hp:0<part):∀ m∈ms,m.kind=part:=λm hm=>by
 have h:Uk part ms=false:=by simpa using h
 unfold Uk at h;rw[List.any_eq_false] at h;have:=h m hm;simp at this;exact this.1.1 hp
theorem jdI {op a b n:Int}(h:Wt op a b=some n)(hb:(qJ op).1=2->Jp a/\Jp b):JR op a b=n/\((qJ op).2=2->Jp n):=by
 have no:∀ {p:Prop} {q:Int},(qJ q).2=1->((qJ q).2=2->p):=λe h=>by rw[e] at h;exact absurd h (by decide)
 unfold Wt at h;by_cases e:op=14
 ·rw[if_pos e] at h;cases h;subst e;exact⟨by simp[JR],no (by decide)⟩
 rw[if_neg e] at h;clear e;by_cases e:op=15
 ·rw[if_pos e] at h;cases h;subst e;exact⟨by simp[JR],no (by decide)⟩
 rw[if_neg e] at h;clear e;by_cases e:op=16
 ·rw[if_pos e] at h;cases h;subst e;exact⟨by simp[JR],no (by decide)⟩
 rw[if_neg e] at h;clear e;by_cases e:op=17\/op=30
 ·rw[if_pos e] at h;cases h;refine⟨?_,λ_=>w7 _⟩;rcases e with e|e<;>(subst e;simp[JR])
 rw[if_neg e] at h;clear e;by_cases e:op=18
 ·rw[if_pos e] at h;cases h;subst e;exact⟨by simp[JR],λ_=>w7 _⟩
 rw[if_neg e] at h;clear e;by_cases e:op=19
 ·rw[if_pos e] at h;cases h;subst e;exact⟨by simp[JR],λ_=>w7 _⟩
 rw[if_neg e] at h;clear e;by_cases e:op=20\/op=29
 ·rw[if_pos e] at h;cases h;refine⟨?_,λ_=>w7 _⟩;rcases e with e|e
  ·subst e;simp[JR]
  ·subst e;obtain⟨ha,hc⟩:=hb (by decide);rcases ha with rfl|rfl<;>rcases hc with rfl|rfl<;>decide
 rw[if_neg e] at h;clear e;by_cases e:op=21
 ·rw[if_pos e] at h;cases h;subst e;exact⟨by simp[JR],λ_=>w7 _⟩
 rw[if_neg e] at h;clear e;by_cases e:op=22
 ·rw[if_pos e] at h;cases h;subst e;exact⟨by simp[JR],λ_=>w7 _⟩
 rw[if_neg e] at h;clear e;by_cases e:op=27
 ·rw[if_pos e] at h;cases h;subst e;obtain⟨ha,hc⟩:=hb (by decide);rcases ha with rfl|rfl<;>rcases hc with rfl|rfl<;>exact⟨by decide,λ_=>(by unfold Jp;decide)⟩
 rw[if_neg e] at h;clear e;by_cases e:op=28
 ·rw[if_pos e] at h;cases h;subst e;obtain⟨ha,hc⟩:=hb (by decide);rcases ha with rfl|rfl<;>rcases hc with rfl|rfl<;>exact⟨by decide,λ_=>(by unfold Jp;decide)⟩
 rw[if_neg e] at h;cases h
theorem jbN {vars:List VarT}{s:List Int}(h:QH vars s=true):s.length=vars.length/\∀ i,i<vars.length->(vars.getD i ⟨[],0,[],0,0,false,0⟩).lo<=s.getD i 0/\s.getD i 0<=(vars.getD i ⟨[],0,[],0,0,false,0⟩).hi:=by
 unfold QH at h;rw[Qaq,decide_eq_true_eq,Qaz] at h;refine⟨h.1,λi hi=>?_⟩;have:=h.2 i (QbI.2 hi);simpa using this
mutual
theorem HM {vars:List VarT}{enums:List EnumT}(hv:Ys vars){s:List Int}(hs:QH vars s=true):∀ (fm:Bool) (x y:Ex) (m:MtT),wkB x=true->yn vars enums fm x=.ok (y,m)->∀ n,qC s y=some n->zt s y=n/\(m.kind=2->Jp n)
 |fm,.mk op num name ks l c,y,m,hx,h,n,hn=>by
  have hx0:=hx;rw[wkB] at hx0;simp only[Qaq,decide_eq_true_eq] at hx0;obtain⟨⟨hk,hleaf⟩,hks⟩:=hx0;have nk:(op=1\/op=2\/op=3\/op=4)->ks=[]:=λho=>by
   unfold Jn at hk;rw[if_pos (by omega)] at hk;exact QaS (by omega)
  rw[yn] at h;split at h
  ·rename_i h1;cases h;subst h1;have e:=nk (by simp);subst e;simp only[qC,qu,opV] at hn;simp at hn;subst hn;exact⟨by simp[zt],λh=>by simp at h⟩
  ·split at h
   ·rename_i h1;cases h;subst h1;have e:=nk (by simp);subst e;simp only[qC,qu,opV] at hn;simp at hn;subst hn;refine⟨by simp[zt],λ_=>?_⟩;simp at hleaf;unfold Jp;omega
   ·split at h
    ·rename_i h1;subst h1;unfold zC at h;split at h
     ·rename_i h2;cases h;have hlt:jY vars (Ex.mk 3 num name ks l c).name<(vars.length:Int):=ZD;have hlt2:(jY vars name).toNat<vars.length:=by
       have:jY vars name<(vars.length:Int):=hlt;have:(0:Int)<=jY vars name:=h2;omega
      obtain⟨r1,r2⟩:=jbN hs;have r2:=r2 _ hlt2;simp only[qC,qu,opV] at hn;have hlt3:jY vars (Ex.mk 3 num name ks l c).name<(s.length:Int):=by rw[r1];exact hlt
      rw[if_neg (by simp),if_pos ⟨by simp,by simp,h2,hlt3⟩] at hn;cases hn;refine⟨by simp only[zt,if_true],λhk2=>?_⟩;have hm:vars.getD (jY vars name).toNat ⟨[],0,[],0,0,false,0⟩∈vars:=by
       rw[Qau,Qas hlt2];exact Qax hlt2
      have:=hv _ hm hk2;show Jp (s.getD (jY vars name).toNat 0);unfold Jp;omega
     ·split at h
      ·cases h
      ·cases h;simp only[qC,qu,opV] at hn;simp at hn;subst hn;exact⟨by simp[zt],λh=>by simp at h⟩
    ·rename_i n1 n2 n3;split at h
     ·cases h
     ·rename_i r hr;have K:=gc (vars:=vars) (enums:=enums) hv hs _ ks r.1 r.2 hks hr;have kl:=JS hr;unfold YZ at h;split at h
      ·cases h
      ·rename_i hbad;have hb0:r.2.length≠0:=λh=>hbad (.inl h);have hbm:Uk (qJ op).1 r.2≠true:=λh=>hbad (.inr (.inr (.inr h)));have hy:y=.mk op num name r.1 l c/\m.kind=(qJ op).2:=by
        split at h
        ·cases h;exact⟨rfl,rfl⟩
        ·split at h
         ·cases h
         ·cases h;exact⟨rfl,rfl⟩
       obtain⟨rfl,hm⟩:=hy;rw[hm];rw[qC] at hn;cases hns:qu s r.1 with
       |none=>rw[hns] at hn;cases hn
       |some ns=>
        rw[hns] at hn;obtain⟨k1,k2⟩:=K ns hns;have hl:=Ks hns;have ho:op≠4:=λe=>by
         have:=nk (by simp[e]);rw[this] at kl;exact hb0 (by simpa using kl.2)
        have hp:0<(qJ op).1->∀ i,i<r.2.length->(r.2.getD i mt0).kind=(qJ op).1:=λh0 i hi=>by
         refine jnQ hbm h0 _ ?_;rw[Qau,Qas hi];exact Qax hi
        have hr:zt s (.mk op num name r.1 l c)=JR op (ns.getD 0 0) (ns.getD (r.1.length - 1) 0):=by
         rw[zt,if_neg ho,if_neg (by omega),k1]
        rw[hr];unfold opV at hn;dsimp only at hn;rw[if_neg (by omega),if_neg (by omega)] at hn;split at hn
        ·rename_i e;cases hn;obtain⟨e1,rfl⟩:=e;exact⟨rfl,λh=>absurd h (by decide)⟩
        ·split at hn
         ·rename_i e;cases hn;obtain⟨e1,rfl⟩:=e;have:=k2 0 (by omega) (by rw[hp (by decide) 0 (by omega)];decide);rw[show r.1.length - 1=0 by omega];rcases this with e|e<;>rw[e]<;>exact⟨rfl,λ_=>by unfold Jp;decide⟩
         ·split at hn
          ·rename_i e;rw[show r.1.length - 1=1 by omega];exact jdI hn λh2=>⟨k2 0 (by omega) (by rw[hp (by omega) 0 (by omega),h2]),k2 1 (by omega) (by rw[hp (by omega) 1 (by omega),h2])⟩
          ·cases hn
theorem gc {vars:List VarT}{enums:List EnumT}(hv:Ys vars){s:List Int}(hs:QH vars s=true):∀ (fm:Bool) (xs ys:List Ex) (ms:List MtT),Wo xs=true->qt vars enums fm xs=.ok (ys,ms)->∀ ns,qu s ys=some ns->wk s ys=ns/\∀ i,i<ms.length->(ms.getD i mt0).kind=2->Jp (ns.getD i 0)
 |fm,[],ys,ms,hx,h,ns,hn=>by
  rw[qt] at h;cases h;simp only[qu] at hn;cases hn;exact⟨rfl,λi hi=>absurd hi (by simp)⟩
 |fm,x :: xs,ys,ms,hx,h,ns,hn=>by
  rw[Wo,Qaq] at hx;rw[qt] at h;split at h
  ·cases h
  ·rename_i y hy;split at h
   ·cases h
   ·rename_i r hr;cases h;rw[qu] at hn;cases h1:qC s y.1 with
    |none=>rw[h1] at hn;cases hn
    |some n=>
     rw[h1] at hn;cases h2:qu s r.1 with
     |none=>rw[h2] at hn;cases hn
     |some ns'=>
      rw[h2] at hn;cases hn;have A:=HM (vars:=vars) (enums:=enums) hv hs fm x y.1 y.2 hx.1 hy n h1;have B:=gc (vars:=vars) (enums:=enums) hv hs fm xs r.1 r.2 hx.2 hr ns' h2;refine⟨by rw[wk,A.1,B.1],λi hi hk=>?_⟩;cases i with
      |zero=>exact A.2 hk
      |succ i=>exact B.2 i (by simpa using hi) hk
end
mutual
def wo (n:Int):Ex->Bool
 |.mk op num _ ks _ _=>(!(decide (op=3) ||(decide (op=4) && (decide (num<0) ||decide (n<=num))))) && Q8 n ks
def Q8 (n:Int):List Ex->Bool
 |[]=>true
 |x :: xs=>wo n x && Q8 n xs
end
theorem WO (n:Int)(x:Ex):wo n x=((!(decide (x.op=3) ||(decide (x.op=4) && (decide (x.num<0) ||decide (n<=x.num))))) && Q8 n x.kids):=by cases x;rw[wo];rfl
theorem KV (n:Int):∀ xs,Q8 n xs=xs.all (wo n)
 |[]=>rfl
 |x :: xs=>by rw[Q8,KV n xs];rfl
end
section
def OfK (vars:List VarT)(enums:List EnumT)(y:Ex):Prop:=∃ (fm:Bool) (x:Ex) (m:MtT),WkX x/\yn vars enums fm x=.ok (y,m)
theorem jdH {vars:List VarT}{enums:List EnumT}{fm:Bool}{x y:Ex}{w:Int}{en:List Nat}(hr:WkX x)(h:yz vars enums fm x w en=.ok y):OfK vars enums y:=by
 unfold yz at h;split at h
 ·cases h
 ·rename_i r hk;split at h
  ·cases h
  ·cases h;exact⟨fm,x,r.2,hr,hk⟩
theorem OfK.val {vars:List VarT}{enums:List EnumT}{y:Ex}(k:OfK vars enums y)(hv:Ys vars){s:List Int}(hs:QH vars s=true){n:Int}(h:qC s y=some n):zt s y=n:=by
 obtain⟨fm,x,m,hr,hk⟩:=k;exact(HM hv hs fm x y m hr.1 hk n h).1
theorem OfK.sz {vars:List VarT}{enums:List EnumT}{y:Ex}(k:OfK vars enums y):szE y<=BIG:=by
 obtain⟨fm,x,m,hr,hk⟩:=k;exact Qav (jcn fm x y m hk) hr.2
structure MoveK (vars:List VarT)(enums:List EnumT)(m:MoveT):Prop where
 when:OfK vars enums m.when
 len:m.acts.length<=1000000
 acts:∀ a∈m.acts,0<=a.var/\a.var<(vars.length:Int)/\OfK vars enums a.to
theorem jhn {vars:List VarT}{enums:List EnumT}:∀ {l:List AsT} {acc:List SetT} {done:List AsT} {ss:List SetT},(∀ a∈l,WkX a.to)->Qt vars enums acc done l=.ok ss->(∀ a∈acc,0<=a.var/\a.var<(vars.length:Int)/\OfK vars enums a.to)->(∀ a∈ss,0<=a.var/\a.var<(vars.length:Int)/\OfK vars enums a.to)/\ss.length=acc.length+l.length
 |[],acc,done,ss,hr,h,ha=>by rw[Qt] at h;cases h;exact⟨ha,rfl⟩
 |a :: l,acc,done,ss,hr,h,ha=>by
  rw[Qt] at h;split at h
  ·cases h
  ·split at h
   ·cases h
   ·split at h
    ·cases h
    ·rename_i n0 _ y hy;have N:=jdH (hr a (by simp)) hy;have hlt:=(ZD:jY vars a.name<(vars.length:Int));have R:=jhn (λb hb=>hr b (by simp[hb])) h (λb hb=>by
      rcases QaX.1 hb with hb|hb
      ·exact ha b hb
      ·simp at hb;rw[hb];exact⟨by dsimp only;omega,hlt,N⟩)
     exact⟨R.1,by rw[R.2];simp;omega⟩
theorem jpH {m:ModT}{ts:List (List Nat)}{r:RuleT}{b:MT}(hq:WkR r)(h:Xs m ts r=.ok b)(hm:∀ v∈m.moves,MoveK m.vars m.enums v):b.1.vars=m.vars/\b.1.enums=m.enums/\(∀ v∈b.1.moves,MoveK m.vars m.enums v)/\b.1.moves.length=m.moves.length+1:=by
 obtain⟨hw,hr,hn⟩:=hq;unfold Xs at h;split at h
 ·cases h
 ·rename_i w hw';split at h
  ·cases h
  ·rename_i ss hs;cases h;refine⟨rfl,rfl,λv hv=>?_,by simp⟩;rcases QaX.1 hv with hv|hv
   ·exact hm v hv
   ·simp only[QbJ] at hv;subst hv;have S:=jhn (acc:=[]) hr hs (λa ha=>by cases ha);exact⟨jdH hw hw',by dsimp only;rw[S.2];simp;omega,S.1⟩
theorem jdU:∀ {l:List RuleT} {b c:MT},(∀ r∈l,WkR r)->ye (λb r=>Xs b.1 b.2 r) b l=.ok c->(∀ v∈b.1.moves,MoveK b.1.vars b.1.enums v)->c.1.vars=b.1.vars/\c.1.enums=b.1.enums/\(∀ v∈c.1.moves,MoveK b.1.vars b.1.enums v)/\c.1.moves.length=b.1.moves.length+l.length
 |[],b,c,hr,h,hm=>by rw[ye] at h;cases h;exact⟨rfl,rfl,hm,rfl⟩
 |r :: l,b,c,hr,h,hm=>by
  rw[ye] at h;split at h
  ·cases h
  ·rename_i b' hb';obtain⟨e1,e2,e3,e4⟩:=jpH (hr r (by simp)) hb' hm;have:=jdU (b:=b') (λq hq=>hr q (by simp[hq])) h (by rw[e1,e2];exact e3);rw[e1,e2,e4] at this;exact⟨this.1,this.2.1,this.2.2.1,by rw[this.2.2.2];simp;omega⟩
theorem jd2:∀ {l:List ProcT} {b c:MT},(∀ p∈l,p.rules.length<=1000/\∀ r∈p.rules,WkR r)->ye YT b l=.ok c->(∀ v∈b.1.moves,MoveK b.1.vars b.1.enums v)->c.1.vars=b.1.vars/\c.1.enums=b.1.enums/\(∀ v∈c.1.moves,MoveK b.1.vars b.1.enums v)/\c.1.moves.length<=b.1.moves.length+1000 * l.length
 |[],b,c,hr,h,hm=>by rw[ye] at h;cases h;exact⟨rfl,rfl,hm,by simp⟩
 |p :: l,b,c,hr,h,hm=>by
  rw[ye] at h;split at h
  ·cases h
  ·rename_i b' hb';unfold YT at hb';split at hb'
   ·cases hb'
   ·rename_i ts' _;obtain⟨e1,e2,e3,e4⟩:=jdU (b:=(b.1,ts')) (hr p (by simp)).2 hb' hm;have h1000:=(hr p (by simp)).1;have:=jd2 (b:=b') (λq hq=>hr q (by simp[hq])) h (by rw[e1,e2];exact e3);rw[e1,e2,e4] at this;exact⟨this.1,this.2.1,this.2.2.1,by have:=this.2.2.2;dsimp only at this;simp only[Qak];omega⟩
end
section
theorem jqN {m:ModT}{ts:List (List Nat)}{d:DeclT}{b:MT}(hd:d.begins.length<=1)(h:XG m ts d=.ok b):∃ v,b.1={ m with vars:=m.vars ++ [v] }/\(v.kind=2->v.lo=0/\v.hi=1):=by
 unfold XG at h;split at h
 ·cases h
 ·split at h
  ·cases h
  ·rename_i v hk;have kv:v.kind=2->v.lo=0/\v.hi=1:=by
    unfold uf at hk;split at hk
    ·cases hk;exact λ_=>⟨rfl,rfl⟩
    ·split at hk
     ·cases hk;exact λh=>by simp at h
     ·split at hk
      ·cases hk
      ·split at hk
       ·cases hk
       ·split at hk
        ·cases hk
        ·cases hk;exact λh=>by simp at h
   unfold wL at h;split at h
   ·cases h
   ·rename_i u hu;unfold kJ at h;split at h
    ·cases h
    ·cases h;refine⟨u,rfl,?_⟩;cases hb:d.begins with
     |nil=>rw[hb,Jr] at hu;cases hu;exact kv
     |cons x xs=>
      rw[hb] at hd;cases xs with
      |cons y ys=>simp at hd
      |nil=>
       rw[hb,Jr] at hu;split at hu
       ·cases hu
       ·split at hu
        ·cases hu
        ·split at hu
         ·cases hu
         ·rw[Jr] at hu;cases hu;exact kv
theorem jez:∀ {l:List DeclT} {b c:MT},(∀ d∈l,d.begins.length<=1)->ye (λb e=>XG b.1 b.2 e) b l=.ok c->Ys b.1.vars->Ys c.1.vars/\c.1.moves=b.1.moves
 |[],b,c,hd,h,hv=>by rw[ye] at h;cases h;exact⟨hv,rfl⟩
 |d :: l,b,c,hd,h,hv=>by
  rw[ye] at h;split at h
  ·cases h
  ·rename_i b' hb';obtain⟨v,e,hk⟩:=jqN (hd d (by simp)) hb';have:=jez (b:=b') (λd hd'=>hd d (by simp[hd'])) h (by
    rw[e];intro u hu;rcases QaX.1 hu with hu|hu
    ·exact hv u hu
    ·simp at hu;rw[hu];exact hk)
   exact⟨this.1,by rw[this.2,e]⟩
theorem jev:∀ {l:List EnumT} {b c:MT},ye (λb e=>wE b.1 b.2 e) b l=.ok c->c.1.vars=b.1.vars/\c.1.moves=b.1.moves
 |[],b,c,h=>by rw[ye] at h;cases h;exact⟨rfl,rfl⟩
 |e :: l,b,c,h=>by
  rw[ye] at h;split at h
  ·cases h
  ·rename_i b' hb';have e1:=W6 hb';have:=jev (b:=b') h;rw[e1] at this;exact this
structure ModK (m:ModT):Prop where
 vars:Ys m.vars
 moves:∀ v∈m.moves,MoveK m.vars m.enums v
 len:m.moves.length<=100000
theorem jns {s:SrcT}{c:MT}(hb:∀ d∈s.vars,d.begins.length<=1)(hr:∀ p∈s.procs,p.rules.length<=1000/\∀ r∈p.rules,WkR r)(hp:s.procs.length<=100)(h:zY s=.ok c):ModK c.1:=by
 unfold zY at h;split at h
 ·cases h
 ·rename_i b h1;obtain⟨E2,E3⟩:=jev h1;split at h
  ·cases h
  ·rename_i b2 h2;have v0:b.1.vars=[]:=E2;have m0:b.1.moves=[]:=E3;obtain⟨d1,d2⟩:=jez hb h2 (by rw[v0];intro v hv;cases hv);have m2:b2.1.moves=[]:=by rw[d2,m0]
   obtain⟨f1,f2,f3,f4⟩:=jd2 (b:=b2) hr h (by rw[m2];intro v hv;cases hv);rw[m2] at f4;exact⟨by rw[f1];exact d1,by rw[f1,f2];exact f3,by simp only[Qan] at f4;omega⟩
end
theorem jne {l f:List Nat}(h:(zT l f).c=0):ModK (zT l f).m:=by
 unfold zT at h ⊢;by_cases h1:(yI l).2.1≠0
 ·rw[if_pos h1] at h;exact absurd (show((yI l).2.1:Int)=0 from h) (by omega)
 ·rw[if_neg h1] at h ⊢;obtain⟨O,hp⟩:=jm8 (l:=l) (by simpa using h1);cases hm:zY (yI l).1 with
  |er a b c=>
   rw[hm] at h;exact absurd h (WP hm)
  |ok m=>
   rw[hm] at h;dsimp only at h ⊢;by_cases h2:(yr f).2.1≠0
   ·rw[if_pos h2] at h;exact absurd (show((yr f).2.1:Int)=0 from h) (by omega)
   ·rw[if_neg h2] at h ⊢;cases hr:yz m.1.vars m.1.enums true (yr f).1 2 [] with
    |er a b c=>
     rw[hr] at h;exact absurd h (Xo hr)
    |ok y=>exact jns (λd hd=>(O.begs d hd).2) O.rules (by omega) hm
def Zz (src:SrcT):ModT×Bool:=match Qs src with
 |none=>(md0,false)
 |some t=>if 5000<t.length then(md0,false) else((zT t [116,114,117,101]).m,decide ((zT t [116,114,117,101]).c=0/\(zT t [116,114,117,101]).l=0/\(zT t [116,114,117,101]).k=0) && decide (Zd (zT t [116,114,117,101]).m.vars<=300))
theorem jkG {src:SrcT}(h:(Zz src).2=true):ModK (Zz src).1/\VarsOK (Zz src).1.vars (Zz src).1.enums:=by
 unfold Zz at h ⊢;cases hs:Qs src with
 |none=>rw[hs] at h;cases h
 |some t=>
  rw[hs] at h;dsimp only at h ⊢;split at h
  ·cases h
  ·rename_i h5;rw[if_neg h5];simp only[Qaq,decide_eq_true_eq] at h;exact⟨jne h.1.1,(jbQ h.1.1).1⟩
def jbd:XC:=(Oe [I0 2] [oy 3 0] 3 [OZ 2 1] (o4 [I0 2]))
def jkb:XF:=⟨[0],jbd,[(.t 2)]⟩
theorem jo0:jC Qaf 61=some jkb:=by kernel_rfl
def jjj:XC:=(OU (TG (I0 6) 7) (T7 [oy 8 0] 0 (Te 10 8 14 9 10 9 [OY 11,oz 12 2,IW 13 .mul 11 12,oy 6 13,Ta 7] (Te 15 8 15 14 15 14 [OY 16,oz 17 2,IW 18 .add 16 17,oy 6 18,Ta 7] (Te 20 8 16 19 20 19 [OY 21,oz 22 2,IW 23 .sub 21 22,oy 6 23,Ta 7] (.seq (Tt 25 8 17 24 25 24 (.ops (IV 26 8 30 24 26))) (Ti 24 [OY 27,oz 28 2,IW 29 .eql 27 28,Ox 30 61 29,oy 6 30,Ta 7] (Te 32 8 18 31 32 31 [OY 33,oz 34 2,IW 35 .neq 33 34,Ox 36 61 35,oy 6 36,Ta 7] (Te 38 8 19 37 38 37 [OY 39,oz 40 2,IW 41 .lss 39 40,Ox 42 61 41,oy 6 42,Ta 7] (.seq (Tt 44 8 20 43 44 43 (.ops (IV 45 8 29 43 45))) (Ti 43 [OY 46,oz 47 2,IW 48 .leq 46 47,Ox 49 61 48,oy 6 49,Ta 7] (Te 51 8 21 50 51 50 [OY 52,oz 53 2,IW 54 .gtr 52 53,Ox 55 61 54,oy 6 55,Ta 7] (Te 57 8 22 56 57 56 [OY 58,oz 59 2,IW 60 .geq 58 59,Ox 61 61 60,oy 6 61,Ta 7] (Te 63 8 27 62 63 62 [OY 64,oz 65 2,ol 66 (.bi .min #[2,2] [64,65]),oy 6 66,Ta 7] (Iy (IV 68 8 28 67 68) 67 [OY 69,oz 70 2,ol 71 (.bi .max #[2,2] [69,70]),oy 6 71,Ta 7])))))))))))))) (TG (I0 6) 7))
def jn7:XF:=⟨[0,1,2],jjj,[(.t 6),(.t 7)]⟩
theorem jse:jC Qaf 42=some jn7:=by kernel_rfl
def jjq:XC:=(ov [TT 2,I0 4,Ol 5] (oX [O5 6] (T6 [Tl 11 2,Oh 12 11,IP 13 12,I0 14] 0 15 14 13 15 0 1 [Ik 16 6 12 14,O9 17 16,Tz 8,TV 8 17] (Oe [O9 19 8,OY 20,OA 21 16 19 20,oz 18 21,Tw 22 18,Tx 23 18,oy 9 22,oy 10 23] [oz 24 10,OV 25 24] 25 (TG (I0 4) 5) (.ops [TY 26,oz 27 9,TI 28 1 oB [((0,1),27)],Oq 29 1 8 26 28,oy 6 29])) 30 14 14 30) (Il 2 (oK [TY 32,I4 33 32,ol 34 (TJ 33),oz 35 34,Oy 36 35 0 2,Ow 37 35 36,Td 38 35 .eql 37 1,IZ 39 35 38,Oo 40 39 0 2,Ov 41 39 40,O6 42 39 .eql 41 2,Ig 43 35 (.pick 39 Ih 42),Tb 44 35 43,oy 31 44] 31 (o4 [Tv 45 2,oH 46 45,TK 46,Ta 5]) (oK [TY 48,I4 49 48,ol 50 (TJ 49),oz 51 50,Oy 52 51 0 2,Ow 53 51 52,Td 54 51 .eql 53 4,Tb 55 51 54,oz 56 55,Oy 57 56 1 2,Ow 58 56 57,Ig 59 56 (O7 .geq 58),Tb 60 56 59,oz 61 60,Oy 62 61 1 2,Ow 63 61 62,IZ 64 61 1,Ig 65 61 (.len 64),Ig 66 61 (.bin .lss 63 65),Tb 67 61 66,oy 47 67] 47 (o4 [OY 68,Tv 69 2,oH 70 69,Li 71 68 70,oH 72 71,TK 72,Ta 5]) (oK [TY 74,I4 75 74,Ib 76 .eql 75 1,oz 77 76,Oy 78 77 0 2,Ow 79 77 78,Td 80 77 .eql 79 5,Tb 81 77 80,oy 73 81] 73 (o4 [TY 82,Li 83 82 OM,oH 84 83,ol 85 (.un .neg 84),TK 85,Ta 5]) (oK [TY 87,I4 88 87,Ib 89 .eql 88 1,oz 90 89,Oy 91 90 0 2,Ow 92 90 91,Td 93 90 .eql 92 6,Tb 94 90 93,oy 86 94] 86 (o4 [TY 95,Li 96 95 OM,oH 97 96,IW 98 .sub Tg 97,TK 98,Ta 5]) (Ic [TY 100,I4 101 100,Ib 102 .eql 101 2,oy 99 102] 99 (TN [IE (OO 103 2),OQ 104 103,TB 105 6,IE (Li 106 105 OM),OQ 107 106,TB 108 6,IE (Li 109 108 Tg),OQ 110 109,(Ip 111 42 [104,107,110],OJ),IE (Tw 112 111),IE (Tx 113 111),IE (TK 112),IE (oy 5 113)] .ret)))))) (o4 (TG (I0 4) 5)))))
def joe:XF:=⟨[0,1],jjq,[(.t 4),(.t 5)]⟩
theorem jsl:jC Qaf 16=some joe:=by kernel_rfl
def jjp:XC:=(ov [TT 2,Ol 4,Ol 5] (OK [O9 9 2,OY 10,OA 11 16 9 10,oz 8 11,Tw 12 8,Tx 13 8,oy 6 12,oy 7 13] [oz 14 7,oz 15 14,IZ 16 15 6,Td 17 15 .eql 16 1,Tb 18 15 17,oz 19 7,TK 18,oy 5 19]))
def jod:XF:=⟨[0,1],jjp,[(.t 4),(.t 5)]⟩
theorem jsk:jC Qaf 17=some jod:=by kernel_rfl
def jjs:XC:=(ov (T0 2 4) (OU [OY 7,I4 8 7,OO 9 2,oH 10 9,I4 11 10,IW 12 .eql 8 11,oy 5 12] (IU [I0 6] 0 (.seq (O4 [Lb 13,oz 14 13,IZ 15 14 6,IZ 16 14 1,Ig 17 14 (.len 16),Ig 18 14 (.bin .lss 15 17),I6 19 14 18 oW] 19 (.exit 0)) (Iz 1 (.cops [IE (OO 22 2),OQ 23 22,TB 24 6,IE (Ik 25 7 23 24),IE (Tl 26 25),OQ 27 26,IE (OY 28),TB 29 6,IE (Li 30 28 29),OQ 31 30,IE (IW 32 .leq 27 31),TB 33 32,IE (IZ 34 33 1),IE (IZ 35 33 6),IE (Ig 36 33 (.idxS 1 34 35)),IE (Ow 37 33 36),IE (Oy 38 33 0 2),IE (Ow 39 33 38),IE (IZ 40 33 6),IE (Ig 41 33 (.idxS 7 39 40)),IE (Oy 42 33 4 41),IE (Ow 43 33 42),IE (Ig 44 33 (.bin .leq 37 43)),IE (Tb 45 33 44),IE (oy 5 45)]) [TY 20,TA 21 20 1,oy 6 21]))) (Tf 46 5 4 46)))
def jof:XF:=⟨[0,1],jjs,[(.t 4)]⟩
theorem jsn:jC Qaf 13=some jof:=by kernel_rfl
def jjo:XC:=(Oe [TT 2,I0 4] [OO 8 2,oH 9 8,O1 10 .eql 9 4] 10 [OY 11,Tv 12 2,oH 13 12,Li 14 11 13,oH 15 14,TK 15] (T9 [Tl 16 2,oH 17 16,I4 18 17,ow 19 (TJ 18)] 19 [Tv 20 2,oH 21 20,TK 21] (O8 [Tl 22 2,oH 23 22,Ik 24 6 23 OM,O9 25 24,OY 26,OA 27 18 25 26,oy 5 27] [Tl 28 2,oH 29 28,Tl 30 2,oH 31 30,I4 32 31,Ib 33 .sub 32 1,Ik 34 6 29 33,O9 35 34,OY 36,OA 37 18 35 36,oy 6 37] (oX (Th 7) (T7 [OO 38 2,Oh 39 38] 0 (Te 41 39 5 40 41 40 [Lb 42,ol 43 (.un .neg 42),TK 43] (Te 45 39 14 44 45 44 [Lb 46,TY 47,IW 48 .mul 46 47,TK 48] (Te 50 39 15 49 50 49 [Lb 51,TY 52,IW 53 .add 51 52,TK 53] (Te 55 39 16 54 55 54 [Lb 56,TY 57,IW 58 .sub 56 57,TK 58] (Oi 60 39 6 59 60 59 (.ops [Lb 61,ol 62 (TJ 61),oy 7 62]) (.seq (Tt 64 39 17 63 64 63 (.ops (IV 65 39 30 63 65))) (.cond 63 (.ops [Lb 66,TY 67,IW 68 .eql 66 67,oy 7 68]) (Oi 70 39 18 69 70 69 (.ops [Lb 71,TY 72,IW 73 .neq 71 72,oy 7 73]) (Oi 75 39 19 74 75 74 (.ops [Lb 76,TY 77,IW 78 .lss 76 77,oy 7 78]) (Oi 80 39 20 79 80 79 (.ops [Lb 81,TY 82,IW 83 .leq 81 82,oy 7 83]) (Oi 85 39 21 84 85 84 (.ops [Lb 86,TY 87,IW 88 .gtr 86 87,oy 7 88]) (Oi 90 39 22 89 90 89 (.ops [Lb 91,TY 92,IW 93 .geq 91 92,oy 7 93]) (Oi 95 39 27 94 95 94 (.ops [Lb 96,Ib 97 .eql 96 1,oz 98 97,IZ 99 98 6,Td 100 98 .eql 99 1,Tb 101 98 100,oy 7 101]) (Oi 103 39 28 102 103 102 (.ops [Lb 104,Ib 105 .eql 104 1,oz 106 105,IH 107 106 6,O6 108 106 .eql 107 1,Tc 109 106 108,oy 7 109]) (Oz (IV 111 39 29 110 111) 110 [Lb 112,ol 113 (TJ 112),oz 114 113,IH 115 114 6,O6 116 114 .eql 115 1,Tc 117 114 116,oy 7 117])))))))))))))))) (OW (Iy [oy 118 7] 118 [OZ 4 1]) [I0 4])))))
def joc:XF:=⟨[0,1],jjo,[(.t 4)]⟩
theorem jsj:jC Qaf 18=some joc:=by kernel_rfl
def jjt:XC:=(ov [TT 1,o8 2 [.nils,.nils,.nils],Ol 3] (Oe [TZ 10 1,Ox 11 35 10,oz 9 11,Tw 12 9,Tx 13 9,TK 12,oy 5 13] [Lb 14,ol 15 (O7 .neq 14),oz 16 15,IH 17 16 4,If 18 16 (.lenS 17),O6 19 16 .gtr 18 5000,Lc 20 16 19] 20 [Iv 21 [.nils,.nils,.nils] [],o5 3 2 21,Ol 3] (oX [TW 23,OA 24 34 23 (o7 [116,114,117,101]),oz 22 24,Tw 25 22,Tx 26 22,Ii 27 22 2,o8 6 [.nils,.nils,.nils],ol 7 (.alloc OI),o8 8 [oB,oB,oB],o5 3 6 25,TV 7 26,o5 3 8 27] (.dops [T8 28 3 6 6 35,T8 29 3 8 8 45,TF 30 [oB,oB,oB] [],IO (ol 31 (TO .eql 45 29 30)),Tq 32 31,IB (Ig 33 32 (.ldA 3 6)) 6 35 [],(Ix (Tm 34 (32,true) 36 [33]) 0 [(5,35)],OJ),IO (Td 35 32 .leq 34 300),IO (Tb 36 32 35),TU 3 2 28,IO (oy 3 36)]) .ret)))
def jog:XF:=⟨[0],jjt,[(.cA 2 3),(.t 3)]⟩
theorem jso:jC Qaf 10=some jog:=by kernel_rfl
def svV (s:List Int):AV:=.lst s.length (s.map (.int .i64))
theorem jrm (k:Int)(h : -9223372036854775808<=k)(h2:k<=9223372036854775807):wq k=k:=Zq h h2
section
variable {st:St} {K:AV->St->Prop}
theorem jfb (a b:Int):jk (Ji .add (.int .i64 a) (.int .i64 b) st) K=K (.int .i64 (wq (a+b))) st:=rfl
theorem jap (a b:Int):jk (Ji .sub (.int .i64 a) (.int .i64 b) st) K=K (.int .i64 (wq (a - b))) st:=rfl
theorem jfa (a b:Int):jk (Ji .mul (.int .i64 a) (.int .i64 b) st) K=K (.int .i64 (wq (a * b))) st:=rfl
theorem je9 (a:Int):jk (unV .neg (.int .i64 a) st) K=K (.int .i64 (wq (-a))) st:=by
 have e:IntKind.i64.wrap (0 - a)=wq (-a):=by rw[<-Yi,Int.zero_sub];rfl
 simp only[unV,X4,O,e,jk]
end
theorem jr8 (hb:NB base)(q:Bool):Tot base 61 [.bool q] (.int .i64 (if q=true then 1 else 0)):=by
 refine hb.tot ?_ rfl rfl;cases q with
 |true=>
  refine jF jo0 (by rfl) (hb.pur 61 1 (by decide)) ?_;simp only[jkb,ju,Qai,Qaj,Qag,Qah];rw[(by unfold jbd;simp only[qq];rfl:jbd=_)];repeat'(first|apply jc<;>intro _|simp(disch:=first|exact dzG|fail) only[je,jj,ji,jd,jm,jn,jp,jq,jo,rzZ,Qab,Qac,Qad,Qaa,Qae])
  exact G0.v rfl rfl
 |false=>
  refine jF jo0 (by rfl) (hb.pur 61 1 (by decide)) ?_;simp only[jkb,ju,Qai,Qaj,Qag,Qah];rw[(by unfold jbd;simp only[qq];rfl:jbd=_)];repeat'(first|apply jc<;>intro _|simp(disch:=first|exact dzG|fail) only[je,jj,ji,jd,jm,jn,jp,jq,jo,rzZ,Qab,Qac,Qad,Qaa,Qae])
  exact G0.v rfl rfl
def tpO (o:Option Int):AV:=.tup [.int .i64 (o.getD 0),.bool o.isSome]
theorem Zv {s:St}{o:Option Int}{x:Int}{q:Bool}(h1:x=o.getD 0)(h2:q=o.isSome):G0 (tpO o) (.tup [.int .i64 x,.bool q]) s:=by
 subst h1 h2;exact FzD.tup (.cons (.pc rfl) (.cons (.pc rfl) .nil))
set_option maxHeartbeats 4000000 in
theorem jrQ (hb:NB base)(op a b:Int):Tot base 42 [.int .i64 op,.int .i64 a,.int .i64 b] (tpO (Wt op a b)):=by
 refine hb.tot ?_ rfl rfl;have B:=jr8 hb;refine jF jse (by rfl) (hb.pur 42 1 (by decide)) ?_;simp only[jn7,ju,Qai,Qaj,Qag,Qah];rw[(by unfold jjj;simp only[qq];rfl:jjj=_)];repeat'(first|apply jc<;>intro _|simp(disch:=first|exact dzG|fail) only[B,jfb,jap,jfa,je,jj,ji,jd,jm,jn,jp,jq,jo,rzZ,Qab,Qac,Qad,Qaa,Qae])
 all_goals(refine Zv ?_ ?_<;>simp[Wt,Qh,Int.min_def,Int.max_def, *])
theorem Wz {vars:List VarT}{s:List Int}:QH vars s=true↔s.length=vars.length/\∀ i (h1:i<vars.length) (h2:i<s.length),vars[i].lo<=s[i]/\s[i]<=vars[i].hi:=by
 unfold QH;rw[Qaq,decide_eq_true_eq,Qaz];refine⟨λ⟨a,b⟩=>⟨a,λi h1 h2=>?_⟩,λ⟨a,b⟩=>⟨a,λi hi=>?_⟩⟩
 ·have:=b i (QbI.2 h1);rw[Qau,Qas h1,Qau,Qas h2] at this;simpa using this
 ·have h1:=QbI.1 hi;have:=b i h1 (by omega);rw[Qau,Qas h1,Qau,Qas (show i<s.length by omega)];simpa using this
theorem He {vars:List VarT}{s:List Int}(h:¬ (s.length=vars.length/\∀ i (h1:i<vars.length) (h2:i<s.length),vars[i].lo<=s[i]/\s[i]<=vars[i].hi)):QH vars s=false:=by
 rw[Bool.eq_false_iff];exact λk=>h (Wz.1 k)
theorem jks (sv:List Int)(x:Ex):qC sv x=match qu sv x.kids with|none=>none|some ns=>opV sv x.op x.num ns:=by cases x;rw[qC];rfl
theorem Ww {sv:List Int}:∀ {xs ys:List Ex} {ns:List Int},qu sv xs=some ns->qu sv (xs ++ ys)=match qu sv ys with|none=>none|some ms=>some (ns ++ ms)
 |[],ys,ns,h=>by
  rw[qu] at h;cases h;rw[QaF];cases qu sv ys<;>rfl
 |x :: xs,ys,ns,h=>by
  rw[qu] at h;rw[Qay,qu];cases h1:qC sv x with
  |none=>rw[h1] at h;cases h
  |some n=>
   rw[h1] at h;cases h2:qu sv xs with
   |none=>rw[h2] at h;cases h
   |some ms=>
    rw[h2] at h;cases h;rw[Ww h2];cases qu sv ys<;>rfl
theorem jkr {sv:List Int}{xs:List Ex}{k:Nat}{ns:List Int}{n:Int}(hk:k<xs.length)(h:qu sv (xs.take k)=some ns)(h2:qC sv xs[k]=some n):qu sv (xs.take (k+1))=some (ns ++ [n]):=by
 rw[yO hk,Ww h];simp[qu,h2]
theorem G7 {sv:List Int}{xs:List Ex}{k:Nat}{ns:List Int}(hk:k<xs.length)(h:qu sv (xs.take k)=some ns)(h2:qC sv xs[k]=none):qu sv xs=none:=by
 have e:xs=xs.take k ++ (xs[k] :: xs.drop (k+1)):=by rw[<-Qcs hk,Qbn]
 rw[e,Ww h];simp[qu,h2]
set_option maxHeartbeats 8000000 in
theorem jeN (hb:NB base)(sv:List Int)(hs:sv.length<=1099511627776):∀ x:Ex,szE x<=BIG->PX Qaf base 16 [.agg (eE x),svV sv] (.ok (tpO (qC sv x))):=by
 refine Ex.indk λx ih hx=>?_;have hd:=jks sv x;have hz:=zW x;generalize hks:x.kids=ks at *;have hlen:=Yk ks;unfold BIG at *;unfold svV at *;refine jF jsl (by rfl) (hb.pur 16 1 (by decide)) ?_;simp only[joe,ju,Qai,Qaj,Qag,Qah];rw[(by unfold jjq;simp only[qq];rfl:jjq=_)];repeat'(first|apply jc<;>intro _|simp(disch:=first|exact dzG|fail) only[hks,je,jj,ji,jd,jm,jn,jp,jq,jo,rzZ,Qab,Qac,Qad,Qaa,Qae])
 refine qp ks.length (λk L s=>(∃ ns v,qu sv (ks.take k)=some ns/\ns.length=k/\Lv 1 s.nx s v k (ns.map (.int .i64)) 1/\Has L 6 v)/\1<=s.nx/\Cl s 0 (eE x)/\Has L 1 (.lst sv.length (sv.map (.int .i64)))/\Has L 2 (.ptr 0 0)/\Has L 12 (.lst ks.length (fl eE ks))) (by first|assumption|omega) (by decide) (by simp(disch:=decide) only[jf,jb]) (by simp(disch:=decide) only[jf,jb]) ?_ (λk L s v h=>(by obtain⟨⟨ns,v,a1,a2,a3,a4⟩,a5,a6,a7,a8,a9⟩:=h;refine⟨⟨ns,v,a1,a2,a3,?_⟩,a5,a6,?_,?_,?_⟩<;>simp(disch:=decide) only[jb]<;>assumption)) (λk L s v h=>(by obtain⟨⟨ns,v,a1,a2,a3,a4⟩,a5,a6,a7,a8,a9⟩:=h;refine⟨⟨ns,v,a1,a2,a3,?_⟩,a5,a6,?_,?_,?_⟩<;>simp(disch:=decide) only[jb]<;>assumption)) (λk L s hk hI hi hn=>?_) (λL s hI=>?_)
 ·refine⟨⟨[],.nils,rfl,rfl,Lv.nil,?_⟩,by(first|omega|(simp only[jg,jh,jt,jr,jl];first|done|omega)),by(first|exact cyG|fail),?_,?_,?_⟩<;>simp(disch:=decide) only[jb,jf]
 ·obtain⟨⟨ns,v,h1,h2,V,i6⟩,n1,C0,i1,i2,i12⟩:=hI;have hk2:=Xq hk;have e:=hb.tot (ih ks[k] (Qax hk) (by omega)) (by simp[pa,pc,qO,QO]) rfl;cases hv:qC sv ks[k] with
  |none=>
   rw[hv] at e;have e:Tot base 16 [.agg (eE ks[k]),.lst sv.length (sv.map (.int .i64))] (.tup [.int .i64 0,.bool false]):=e
   (have zz:=C0.r;(repeat'(first|apply jc<;>intro _|simp(disch:=first|exact jO|fail) only[ja i1,ja i2,ja i6,ja i12,ja hi,ja hn,e,C0.q,C0.r,je,jj,ji,jd,jm,jn,jp,jq,jo,rzZ,Qab,Qac,Qad,Qaa,Qae]));all_goals clear zz)
   exact Zv (by rw[hd,G7 hk h1 hv];rfl) (by rw[hd,G7 hk h1 hv];rfl)
  |some n=>
   rw[hv] at e;have e:Tot base 16 [.agg (eE ks[k]),.lst sv.length (sv.map (.int .i64))] (.tup [.int .i64 n,.bool true]):=e;obtain⟨m,hm⟩:∃ m,m=s.nx:=⟨_,rfl⟩;rw[<-hm] at V;have A:=λst bv xc xx K h hv=>@J5 1 m k 1 st v (ns.map (.int .i64)) K 8 bv xc xx h (by decide) (by omega) (by omega) hv;have V2:∀ st m',Lv 1 m st v k (ns.map (.int .i64)) 1->1<=st.nx->m'=st.nx+1->Lv 1 m' (aps v st [.int .i64 n]) (apv 1 v st) (k+1) ((ns ++ [n]).map (.int .i64)) 1:=λst m' h h2 h3=>by
    rw[QbO];exact h.put rfl h2 h3
   (have zz:=aI V.ln (aI @jz (aI @jE (aI @V C0.r)));(repeat'(first|apply jc<;>intro _|simp(disch:=first|exact jO|fail) only[ja i1,ja i2,ja i6,ja i12,ja hi,ja hn,e,A,V.at,C0.q,V.ln,jz,jE,V,C0.r,je,jj,ji,jd,jm,jn,jp,jq,jo,rzZ,Qab,Qac,Qad,Qaa,Qae]));all_goals clear zz)
   refine⟨⟨⟨ns ++ [n],_,jkr hk h1 hv,by simp[h2],V2 _ _ ?_ ?_ ?_,?_⟩,?_,?_,?_,?_,?_⟩,?_,?_⟩;all_goals first
    |(simp(disch:=decide) only[jb,jf];done)
    |(simp(disch:=decide) only[jb];assumption)
    |(simp(disch:=first|decide|omega|(simp only[jg,jh];omega)) only[jG,jz,jE];exact V)
    |(simp(disch:=first|decide|omega|(simp only[jg,jh];omega)) only[V.cl,jB,jD];exact C0)
    |(simp only[jg,jh];done)
    |(simp only[jg,jh];omega)
    |omega
    |rfl
 ·obtain⟨⟨ns,v,h1,h2,V,i6⟩,n1,C0,i1,i2,i12⟩:=hI;rw[QaB] at h1;rw[h1] at hd;dsimp only at hd;unfold opV at hd;rcases V with ⟨rfl,h0,_⟩|⟨b,rfl,h0,_,C,hb1,hb2⟩
  ·have hn0:ns=[]:=List.length_eq_zero_iff.1 (by omega);subst hn0;have z1:¬ ((0:Nat)=1):=by decide
   by_cases g1:x.op=1\/x.op=2
   ·rw[if_pos ⟨rfl,g1⟩] at hd
    (have zz:=C0.r;(repeat'(first|apply jc<;>intro _|simp(disch:=first|exact jO|fail) only[ja i1,ja i2,ja i6,g1,C0.q,C0.r,je,jj,ji,jd,jm,jn,jp,jq,jo,rzZ,Qab,Qac,Qad,Qaa,Qae]));all_goals clear zz)
    all_goals first|exact Zv (by rw[hd];rfl) (by rw[hd];rfl)|(exfalso;omega)
   ·rw[if_neg (λh=>g1 h.2)] at hd;by_cases g2:x.op=4/\0<=x.num/\x.num<(sv.length:Int)
    ·rw[if_pos ⟨rfl,g2⟩] at hd;obtain⟨g2,g3,g4⟩:=g2;have g5:x.num.toNat<sv.length:=by omega
     have eL:∀ (st:St) (K:AV->St->Prop),jk (qZ (.lptr (sv.map (AV.int .i64)) x.num.toNat) st) K=K (.int .i64 sv[x.num.toNat]) st:=λst K=>vf g5
     (have zz:=C0.r;(repeat'(first|apply jc<;>intro _|simp(disch:=first|exact jO|fail) only[ja i1,ja i2,ja i6,g2,g3,g4,eL,C0.q,C0.r,je,jj,ji,jd,jm,jn,jp,jq,jo,rzZ,Qab,Qac,Qad,Qaa,Qae]));all_goals clear zz)
     all_goals first|exact Zv (by rw[hd,Qau,Qas g5];rfl) (by rw[hd];rfl)|(exfalso;omega)
    ·rw[if_neg (λh=>g2 h.2),if_neg (λh=>by simp at h),if_neg (λh=>by simp at h),if_neg (by simp)] at hd
     (have zz:=C0.r;(repeat'(first|apply jc<;>intro _|simp(disch:=first|exact jO|fail) only[ja i1,ja i2,ja i6,C0.q,C0.r,je,jj,ji,jd,jm,jn,jp,jq,jo,rzZ,Qab,Qac,Qad,Qaa,Qae]));all_goals clear zz)
     all_goals first|exact Zv (by rw[hd];rfl) (by rw[hd];rfl)|(exfalso;omega)
  ·have z0:¬ (ks.length:Int)=0:=by omega
   rw[if_neg (λh=>by omega),if_neg (λh=>by omega)] at hd;by_cases k1:ks.length=1
   ·have k1':(ks.length:Int)=1:=by omega
    have k2':¬ (ks.length:Int)=2:=by omega
    have f0:rat s.h b 0=.int .i64 (ns.getD 0 0):=by
     rw[C.cell 0 (by simp;omega)];simp[QaJ,show 0<ns.length by omega]
    by_cases g5:x.op=5
    ·rw[if_pos ⟨by omega,g5⟩] at hd
     (have zz:=aI C.len C0.r;(repeat'(first|apply jc<;>intro _|simp(disch:=first|exact jO|fail) only[ja i1,ja i2,ja i6,z0,k1',g5,f0,je9,C0.q,C.len,C0.r,je,jj,ji,jd,jm,jn,jp,jq,jo,rzZ,Qab,Qac,Qad,Qaa,Qae]));all_goals clear zz)
     all_goals first|exact Zv (by rw[hd];rfl) (by rw[hd];rfl)
    ·rw[if_neg (λh=>g5 h.2)] at hd;by_cases g6:x.op=6
     ·rw[if_pos ⟨by omega,g6⟩] at hd
      (have zz:=aI C.len C0.r;(repeat'(first|apply jc<;>intro _|simp(disch:=first|exact jO|fail) only[ja i1,ja i2,ja i6,z0,k1',g5,g6,f0,jap,C0.q,C.len,C0.r,je,jj,ji,jd,jm,jn,jp,jq,jo,rzZ,Qab,Qac,Qad,Qaa,Qae]));all_goals clear zz)
      all_goals first|exact Zv (by rw[hd];rfl) (by rw[hd];rfl)
     ·rw[if_neg (λh=>g6 h.2),if_neg (by omega)] at hd
      (have zz:=C0.r;(repeat'(first|apply jc<;>intro _|simp(disch:=first|exact jO|fail) only[ja i1,ja i2,ja i6,z0,k1',k2',g5,g6,C0.q,C0.r,je,jj,ji,jd,jm,jn,jp,jq,jo,rzZ,Qab,Qac,Qad,Qaa,Qae]));all_goals clear zz)
      all_goals first|exact Zv (by rw[hd];rfl) (by rw[hd];rfl)
   ·have k1':¬ (ks.length:Int)=1:=by omega
    rw[if_neg (λh=>by omega),if_neg (λh=>by omega)] at hd;by_cases k2:ks.length=2
    ·have k2':(ks.length:Int)=2:=by omega
     rw[if_pos (by omega)] at hd;have f0:rat s.h b 0=.int .i64 (ns.getD 0 0):=by
      rw[C.cell 0 (by simp;omega)];simp[QaJ,show 0<ns.length by omega]
     have f1:rat s.h b 1=.int .i64 (ns.getD 1 0):=by
      rw[C.cell 1 (by simp;omega)];simp[QaJ,show 1<ns.length by omega]
     have E2:=jrQ hb x.op (ns.getD 0 0) (ns.getD 1 0);unfold tpO at E2
     (have zz:=aI C.len C0.r;(repeat'(first|apply jc<;>intro _|simp(disch:=first|exact jO|fail) only[ja i1,ja i2,ja i6,z0,k1',k2',f0,f1,E2,C0.q,C.len,C0.r,je,jj,ji,jd,jm,jn,jp,jq,jo,rzZ,Qab,Qac,Qad,Qaa,Qae]));all_goals clear zz)
     all_goals first|exact Zv (by rw[hd]) (by rw[hd])
    ·have k2':¬ (ks.length:Int)=2:=by omega
     rw[if_neg (by omega)] at hd
     (have zz:=C0.r;(repeat'(first|apply jc<;>intro _|simp(disch:=first|exact jO|fail) only[ja i1,ja i2,ja i6,z0,k1',k2',C0.q,C0.r,je,jj,ji,jd,jm,jn,jp,jq,jo,rzZ,Qab,Qac,Qad,Qaa,Qae]));all_goals clear zz)
     all_goals first|exact Zv (by rw[hd];rfl) (by rw[hd];rfl)
theorem jeM (hb:NB base)(sv:List Int)(hs:sv.length<=1099511627776)(x:Ex)(hx:szE x<=BIG):Tot base 16 [.agg (eE x),svV sv] (tpO (qC sv x)):=hb.tot (jeN hb sv hs x hx) (by unfold svV;simp[pa,pc,qO,QO]) rfl
theorem jn4 (hb:NB base)(sv:List Int)(hs:sv.length<=1099511627776)(x:Ex)(hx:szE x<=BIG):PX Qaf base 17 [.agg (eE x),svV sv] (.ok (.tup [.bool (decide (qC sv x=some 1)),.bool (qC sv x).isSome])):=by
 have e:=jeM hb sv hs x hx;unfold tpO at e;unfold svV at *;refine jF jsk (by rfl) (hb.pur 17 1 (by decide)) ?_;simp only[jod,ju,Qai,Qaj,Qag,Qah];rw[(by unfold jjp;simp only[qq];rfl:jjp=_)];cases hv:qC sv x with
 |none=>
  rw[hv] at e;repeat'(first|apply jc<;>intro _|simp(disch:=first|exact dzG|fail) only[e,je,jj,ji,jd,jm,jn,jp,jq,jo,rzZ,Qab,Qac,Qad,Qaa,Qae])
  exact FzD.tup (.cons (.pc rfl) (.cons (.pc rfl) .nil))
 |some n=>
  rw[hv] at e;have e:Tot base 16 [.agg (eE x),.lst sv.length (sv.map (.int .i64))] (.tup [.int .i64 n,.bool true]):=e;have e1:decide (some n=some 1)=decide (n=1):=by simp
  rw[e1];repeat'(first|apply jc<;>intro _|simp(disch:=first|exact dzG|fail) only[e,je,jj,ji,jd,jm,jn,jp,jq,jo,rzZ,Qab,Qac,Qad,Qaa,Qae])
  exact FzD.tup (.cons (.pc rfl) (.cons (.pc rfl) .nil))
theorem jn3 (hb:NB base)(sv:List Int)(hs:sv.length<=1099511627776)(x:Ex)(hx:szE x<=BIG):Tot base 17 [.agg (eE x),svV sv] (.tup [.bool (decide (qC sv x=some 1)),.bool (qC sv x).isSome]):=hb.tot (jn4 hb sv hs x hx) (by unfold svV;simp[pa,pc,qO,QO]) rfl
theorem jnd (s:List Int)(x:Ex):zt s x=if x.op=4 then s.getD x.num.toNat 0 else if x.kids.length=0 then x.num else JR x.op ((wk s x.kids).getD 0 0) ((wk s x.kids).getD (x.kids.length - 1) 0):=by cases x;rw[zt];rfl
theorem kI {s:List Int}:∀ {xs:List Ex} {i:Nat} (h:i<xs.length),(wk s xs).getD i 0=zt s xs[i]
 |x :: xs,0,h=>rfl
 |x :: xs,i+1,h=>by
  rw[wk,Qah,kI (by simpa using h)];rfl
set_option maxHeartbeats 8000000 in
theorem jkD (hb:NB base)(sv:List Int)(hs:sv.length<=1099511627776):∀ x:Ex,szE x<=BIG->wo sv.length x=true->Tot base 18 [.agg (eE x),svV sv] (.int .i64 (zt sv x)):=by
 refine Ex.indk λx ih hx hn=>?_;refine hb.tot ?_ (by unfold svV;simp[pa,pc,qO,QO]) rfl;have hd:=jnd sv x;have hz:=zW x;rw[WO,Qaq,KV,Qaz] at hn;obtain⟨hn1,hn2⟩:=hn;generalize hks:x.kids=ks at *;have hlen:=Yk ks;unfold BIG at *;unfold svV at *;refine jF jsj (by rfl) (hb.pur 18 1 (by decide)) ?_;simp only[joc,ju,Qai,Qaj,Qag,Qah];rw[(by unfold jjo;simp only[qq];rfl:jjo=_)];by_cases h4:x.op=4
 ·have h5:0<=x.num/\x.num<(sv.length:Int):=by
   simp[h4] at hn1;omega
  obtain⟨h5,h6⟩:=h5;have h7:x.num.toNat<sv.length:=by omega
  have eL:∀ (st:St) (K:AV->St->Prop),jk (qZ (.lptr (sv.map (AV.int .i64)) x.num.toNat) st) K=K (.int .i64 sv[x.num.toNat]) st:=λst K=>vf h7;repeat'(first|apply jc<;>intro _|simp(disch:=first|exact dzG|fail) only[hks,h4,eL,je,jj,ji,jd,jm,jn,jp,jq,jo,rzZ,Qab,Qac,Qad,Qaa,Qae])
  refine G0.v ?_ rfl;rw[hd,if_pos h4,Qau,Qas h7];rfl
 ·rw[if_neg h4] at hd;by_cases h0:ks.length=0
  ·have h0':(ks.length:Int)=0:=by omega
   rw[if_pos h0] at hd;repeat'(first|apply jc<;>intro _|simp(disch:=first|exact dzG|fail) only[hks,h4,h0',je,jj,ji,jd,jm,jn,jp,jq,jo,rzZ,Qab,Qac,Qad,Qaa,Qae])
   exact G0.v (by rw[hd]) rfl
  ·have h0':¬ (ks.length:Int)=0:=by omega
   rw[if_neg h0] at hd;have hp:0<ks.length:=by omega
   have hl:ks.length - 1<ks.length:=by omega
   have g0:=Xq hp;have g1:=Xq hl;have e0:=ih ks[0] (Qax hp) (by omega) (hn2 _ (Qax hp));have e1:=ih ks[ks.length - 1] (Qax hl) (by omega) (hn2 _ (Qax hl));have e9:((ks.length:Int) - 1).toNat=ks.length - 1:=by omega
   rw[kI hp,kI hl] at hd;have f0:∀ (st:St) (K:AV->St->Prop),jk (zf 6 (.lptr (fl eE ks) 0) st) K=K (.agg (eE ks[0])) st:=λst K=>by
    have:=J0 (enc:=eE) (z:=6) (st:=st) (K:=K) zw hp;rwa [Qbq] at this
   have f1:∀ (st:St) (K:AV->St->Prop),jk (zf 6 (.lptr (fl eE ks) ((ks.length - 1) * 6)) st) K=K (.agg (eE ks[ks.length - 1])) st:=λst K=>J0 zw hl;generalize zt sv ks[0]=a at *;generalize zt sv ks[ks.length - 1]=b at *;have eW:wq ((ks.length:Int) - 1)=(ks.length:Int) - 1:=jrm _ (by omega) (by omega);repeat'(first|apply jc<;>intro _|simp(disch:=first|exact dzG|fail) only[hks,h4,h0',e0,e1,e9,eW,f0,f1,jfb,jap,jfa,je9,je,jj,ji,jd,jm,jn,jp,jq,jo,rzZ,Qab,Qac,Qad,Qaa,Qae])
   all_goals(refine G0.v ?_ rfl;rw[hd];simp[JR,Qh, *])
end Go.Sy
end
noncomputable section
namespace Go.Sy
open Go.Ev Go.RowKit
def Lw (lo hi:Nat)(s:St)(v:AV)(n:Nat)(cs:List AV)(z:Nat):Prop:=∃ b ex,v=.slice b 0 n n z ex/\(ex=true->n=0)/\cs.length=n * z/\Cl s b cs/\lo<=b/\b<hi
theorem Lw.new {s:St}{z lo hi:Nat}(h1:lo<=s.nx)(h2:s.nx<hi):Lw lo hi (nw s []) (.slice s.nx 0 0 0 z true) 0 [] z:=⟨s.nx,true,rfl,λ_=>rfl,by simp,Cl.new s [],h1,h2⟩
theorem Lw.fz {lo hi n z m d:Nat}{s:St}{v:AV}{cs:List AV}(h:Lw lo hi s v n cs z)(hm:m<=lo)(hp:cs.all pc=true):FzD m (d+2) s v (.lst n cs):=by
 obtain⟨b,ex,rfl,_,h3,h4,h5,h6⟩:=h;refine FzD.slice h4.rw_ (QbG h3.symm) (by omega) ?_;rw[<-h3,QaB];exact FzsD.pc hp
theorem Lw.nwO {lo hi n z:Nat}{s:St}{v:AV}{cs:List AV}(h:Lw lo hi s v n cs z)(ds:List AV):Lw lo hi (nw s ds) v n cs z:=by
 obtain⟨b,ex,h1,h2,h3,h4,h5,h6⟩:=h;exact⟨b,ex,h1,h2,h3,h4.nw ds,h5,h6⟩
structure ApL (lo:Nat)(s s':St):Prop where
 nx:s.nx<=s'.nx
 fr:s'.fr=s.fr
 cl:∀ c ds,c<lo->Cl s c ds->Cl s' c ds
theorem Lw.keep {lo hi lo2 n z:Nat}{s s':St}{v:AV}{cs:List AV}(h:Lw lo hi s v n cs z)(a:ApL lo2 s s')(hh:hi<=lo2):Lw lo hi s' v n cs z:=by
 obtain⟨b,ex,h1,h2,h3,h4,h5,h6⟩:=h;exact⟨b,ex,h1,h2,h3,a.cl b cs (by omega) h4,h5,h6⟩
theorem ApL.nwO (s:St)(ds:List AV):ApL s.nx s (nw s ds):=⟨by rw[jg];omega,by rw[gv],λc cs hc C=>C.nw ds⟩
theorem ApL.trans {lo lo2:Nat}{s t u:St}(a:ApL lo s t)(b:ApL lo2 t u)(h:lo<=lo2):ApL lo s u:=⟨Qav a.nx b.nx,b.fr.trans a.fr,λc ds hc C=>b.cl c ds (by omega) (a.cl c ds hc C)⟩
end Go.Sy
end
noncomputable section
set_option maxRecDepth 100000
namespace Go.Sy
open Go.Ev Go.Proofs
variable {base:Bs}
def OutV (lo:Nat)(s:St)(v:AV)(out:List Int):Prop:=(out=[]/\v=.lst 0 [])\/∃ b,v=.slice b 0 out.length out.length 1 false/\Cl s b (out.map (.int .i64))/\lo<=b/\0<out.length
theorem OutV.fz {lo m d:Nat}{s:St}{v:AV}{out:List Int}(h:OutV lo s v out)(hm:m<=lo):FzD m (d+2) s v (svV out):=by
 rcases h with ⟨rfl,rfl⟩|⟨b,rfl,C,hl,_⟩
 ·exact FzD.pa rfl
 ·refine FzD.slice C.rw_ (by simp) (by omega) ?_;rw[Nat.mul_one,<-QaR (f:=AV.int .i64),QaB];exact FzsD.pc (QO _)
theorem OutV.nwO {lo:Nat}{s:St}{v:AV}{out:List Int}(h:OutV lo s v out)(ds:List AV):OutV lo (Go.Sy.nw s ds) v out:=h.imp id λ⟨b,h1,h2,h3,h4⟩=>⟨b,h1,h2.nw ds,h3,h4⟩
theorem ApL.refl (lo:Nat)(s:St):ApL lo s s:=⟨Qao _,rfl,λ_ _ _ c=>c⟩
theorem OutV.lend {lo:Nat}{s:St}{v:AV}{out:List Int}(h:OutV lo s v out):lend s.h v=some (svV out):=by
 rcases h with ⟨rfl,rfl⟩|⟨b,rfl,C,_,_⟩
 ·exact jeb rfl
 ·exact jfC C (by simp) (QO _)
abbrev SvT:=List Int
def svE (s:SvT):List AV:=[svV s]
theorem Kr (s:SvT):(svE s).length=1:=nr rfl
theorem jlU (s:SvT)(k:Nat):(svE s).getD k .bad=([svV s]:List AV).getD k .bad:=nr rfl
theorem jlW (s:SvT)(k:Nat):(svE s).drop k=([svV s]:List AV).drop k:=nr rfl
theorem jlX (s:SvT):lall AV.cell (svE s)=true:=nr rfl
theorem jlV {st:St}{K:AV->St->Prop}{xs:List SvT}{i:Nat}(h:i<xs.length):jk (zf 1 (.lptr (fl svE xs) (i * 1)) st) K=K (.agg (svE xs[i])) st:=J0 Kr h
theorem jhf {st:St}{K:AV->St->Prop}{xs:List SvT}{i:Nat}(h:i<xs.length){k:Nat}(hk:k<1):jk (qZ (.lptr (fl svE xs) (i * 1+k)) st) K=K ((svE xs[i]).getD k .bad) st:=ya Kr h hk
theorem jhg {st:St}{K:AV->St->Prop}{xs:List SvT}{i:Nat}(h:i<xs.length):jk (qZ (.lptr (fl svE xs) (i * 1)) st) K=K ((svE xs[i]).getD 0 .bad) st:=ya (k:=0) Kr h (by decide)
theorem vT:type_of% (aI @Kr (aI @jlU (aI @jlW (aI @jlX (aI @jlV (aI @jhg @jhf)))))):=aI @Kr (aI @jlU (aI @jlW (aI @jlX (aI @jlV (aI @jhg @jhf)))))
set_option maxHeartbeats 4000000 in
theorem jjd (hb:NB base)(m:ModT)(sv:SvT)(hm:m.vars.length<=1000000)(hs:sv.length<=1099511627776):Tot base 13 [.agg (mdE m),svV sv] (.bool (QH m.vars sv)):=by
 refine hb.tot ?_ (by unfold svV;simp[pa,pc,QY,QO]) rfl;unfold svV;have hl:((sv.length:Int)=(m.vars.length:Int))=(sv.length=m.vars.length):=by rw[eq_iff_iff];omega
 refine jF jsn (by rfl) (hb.pur 13 1 (by decide)) ?_;simp only[jof,ju,Qai,Qaj,Qag,Qah];rw[(by unfold jjs;simp only[qq];rfl:jjs=_)];repeat'(first|apply jc<;>intro _|simp(disch:=first|exact dzG|fail) only[hl,je,jj,ji,jd,jm,jn,jp,jq,jo,vT,rzZ,Qab,Qac,Qad,Qaa,Qae])
 refine yH (λmm L s=>∃ (k:Nat) (q:Bool),k<=sv.length/\mm=sv.length - k/\(0<k->sv.length=m.vars.length)/\(q=true↔sv.length=m.vars.length/\∀ j (h1:j<m.vars.length) (h2:j<sv.length),j<k->m.vars[j].lo<=sv[j]/\sv[j]<=m.vars[j].hi)/\1<=s.nx/\Cl s 0 (mdE m)/\Has L 1 (.lst sv.length (sv.map (.int .i64)))/\Has L 2 (.ptr 0 0)/\Has L 5 (.bool q)/\Has L 6 (.int .i64 (k:Int))) ?_ sv.length ?_
 ·rintro mm L s ⟨k,q,hk,rfl,h1,h2,n1,C0,i1,i2,i5,i6⟩;unfold Z6;by_cases hlt:k<sv.length
  ·have hlt':(k:Int)<(sv.length:Int):=by omega
   have e1:((k+1:Nat):Int)=(k:Int)+1:=by omega
   cases q with
   |false=>
    (have zz:=C0.r;(repeat'(first|apply jc<;>intro _|simp(disch:=first|exact jO|fail) only[ja i1,ja i2,ja i5,ja i6,hlt',C0.q,C0.r,je,jj,ji,jd,jm,jn,jp,jq,jo,vT,rzZ,Qab,Qac,Qad,Qaa,Qae]));all_goals clear zz)
    refine G0.v (congrArg AV.bool (He λw=>?_).symm) rfl;exact absurd (h2.2 ⟨w.1,λj a b _=>w.2 j a b⟩) (by decide)
   |true=>
    have hq:=h2.1 rfl;have hkv:k<m.vars.length:=by omega
    (have zz:=C0.r;(repeat'(first|apply jc<;>intro _|simp(disch:=first|exact jO|fail) only[ja i1,ja i2,ja i5,ja i6,hlt',vf,C0.q,C0.r,je,jj,ji,jd,jm,jn,jp,jq,jo,vT,rzZ,Qab,Qac,Qad,Qaa,Qae]));all_goals clear zz)
    ·rename_i h3;refine⟨sv.length - (k+1),by omega,k+1,decide (sv[k]<=m.vars[k].hi),by omega,rfl,λ_=>hq.1,?_,n1,C0,?_,?_,?_,?_⟩
     ·rw[decide_eq_true_eq];refine⟨λh=>⟨hq.1,λj a b hj=>?_⟩,λh=>(h.2 k hkv hlt (by omega)).2⟩;by_cases e:j=k
      ·subst e;exact⟨h3,h⟩
      ·exact hq.2 j a b (by omega)
     all_goals first
      |(rw[e1];simp(disch:=decide) only[jb,jf];done)
      |(simp(disch:=decide) only[jb,jf];done)
      |(simp(disch:=decide) only[jb];assumption)
    ·rename_i h3;refine⟨sv.length - (k+1),by omega,k+1,false,by omega,rfl,λ_=>hq.1,?_,n1,C0,?_,?_,?_,?_⟩
     ·exact⟨(λh=>by cases h),λh=>absurd (h.2 k hkv hlt (by omega)).1 h3⟩
     all_goals first
      |(rw[e1];simp(disch:=decide) only[jb,jf];done)
      |(simp(disch:=decide) only[jb,jf];done)
      |(simp(disch:=decide) only[jb];assumption)
  ·have hlt':¬ (k:Int)<(sv.length:Int):=by omega
   have hke:k=sv.length:=by omega
   have hqr:QH m.vars sv=q:=by
    cases q with
    |true=>exact Wz.2 ⟨(h2.1 rfl).1,λj a b=>(h2.1 rfl).2 j a b (by omega)⟩
    |false=>exact He λw=>absurd (h2.2 ⟨w.1,λj a b _=>w.2 j a b⟩) (by decide)
   rw[hqr]
   (have zz:=C0.r;(repeat'(first|apply jc<;>intro _|simp(disch:=first|exact jO|fail) only[ja i1,ja i2,ja i5,ja i6,hlt',C0.q,C0.r,je,jj,ji,jd,jm,jn,jp,jq,jo,vT,rzZ,Qab,Qac,Qad,Qaa,Qae]));all_goals clear zz)
   all_goals exact G0.v rfl rfl
 ·refine⟨0,decide (sv.length=m.vars.length),by omega,rfl,λh=>absurd h (QbB _),?_,by(first|omega|(simp only[jg,jh,jt,jr,jl];first|done|omega)),by(first|exact cyG|fail),?_,?_,?_,?_⟩
  ·rw[decide_eq_true_eq];exact⟨λh=>⟨h,λj a b hj=>absurd hj (Qbg _)⟩,λh=>h.1⟩
  all_goals first
   |(simp(disch:=decide) only[jb,jf];done)
   |(rw[show((0:Nat):Int)=0 from rfl];simp only[jf])
end Go.Sy
end
noncomputable section
set_option maxRecDepth 100000
namespace Go.Sy
open Go.Ev Go.Proofs
variable {base:Bs}
theorem jrU:Go.Ev.isAgg Qaf 35=some true:=by kernel_rfl
theorem jrT:Go.Ev.sizeOf Qaf 35=some 3:=by kernel_rfl
theorem jrV {b:Nat}{m:ModT}{h:T AO}(ho:3<=qr h b)(hv:rats h b 0 3=mdE m):(jZ Qaf 35 (.ptr b 0) (.agg (mdE m)) h=true)=True:=eq_true (XP jrU jrT (by decide) (by omega) hv rfl)
theorem jaG {s:St}{m:ModT}{c:List AV}{q p:Bool}(h:FzsD 0 7 s c (mdE m))(h2:q=p):G0 (.tup [.agg (mdE m),.bool p]) (.tup [.agg c,.bool q]) s:=by
 subst h2;exact FzD.tup (.cons (.agg h) (.cons (.pc rfl) .nil))
theorem jhY {s:St}:FzsD 0 7 s [.nils,.nils,.nils] (mdE md0):=.cons .nils (.cons .nils (.cons .nils .nil))
set_option maxHeartbeats 8000000 in
theorem jpP (hb:NB base)(hP:PI base)(src:SrcT)(wr:WrS src):Tot base 10 [.agg (srE src)] (.tup [.agg (mdE (Zz src).1),.bool (Zz src).2]):=by
 refine hb.tot ?_ (by simp[pa,Kt]) rfl;have E35:=jjb hb src wr;unfold jff at E35;have hd:Zz src=match Qs src with|none=>(md0,false)|some t=>if 5000<t.length then(md0,false) else((zT t [116,114,117,101]).m,decide ((zT t [116,114,117,101]).c=0/\(zT t [116,114,117,101]).l=0/\(zT t [116,114,117,101]).k=0) && decide (Zd (zT t [116,114,117,101]).m.vars<=300)):=rfl
 refine jF jso (by rfl) (hb.pur 10 1 (by decide)) ?_;simp only[jog,ju,Qai,Qaj,Qag,Qah];rw[(by unfold jjt;simp only[qq];rfl:jjt=_)];cases hs:Qs src with
 |none=>
  rw[hs] at E35 hd;have E35:Tot base 35 [.agg (srE src)] (.tup [.str [],.int .i64 141]):=E35;dsimp only at hd;rw[hd];repeat'(first|apply jc<;>intro _|simp(disch:=first|exact dzG|fail) only[E35,je,jj,ji,jd,jm,jn,jp,jq,jo,vT,rzZ,Qab,Qac,Qad,Qaa,Qae])
  all_goals exact jaG jhY rfl
 |some t=>
  rw[hs] at E35 hd;have E35:Tot base 35 [.agg (srE src)] (.tup [.str t,.int .i64 0]):=E35;dsimp only at hd;by_cases h5:5000<t.length
  ·have h5':(5000:Int)<(t.length:Int):=by omega
   rw[if_pos h5] at hd;rw[hd];repeat'(first|apply jc<;>intro _|simp(disch:=first|exact dzG|fail) only[E35,h5',je,jj,ji,jd,jm,jn,jp,jq,jo,vT,rzZ,Qab,Qac,Qad,Qaa,Qae])
   all_goals exact jaG jhY rfl
  ·have h5':¬ (5000:Int)<(t.length:Int):=by omega
   rw[if_neg h5] at hd;rw[hd];have E34:=jrd hb hP t [116,114,117,101] (by omega) (by decide);have ok:=λh=>jbQ (l:=t) (f:=[116,114,117,101]) h;unfold Km at E34;generalize zT t [116,114,117,101]=r at E34 ok;obtain⟨m,x,c,l,k⟩:=r;dsimp only at E34 ok ⊢;have E34:Tot base 34 [.str t,.str [116,114,117,101]] (.tup [.agg (mdE m),.agg (eE x),.agg [.int .i64 c,.int .i64 l,.int .i64 k]]):=E34;by_cases hz:c=0/\l=0/\k=0
   ·have V:=(ok hz.1).1;have E36:=λst K Kp=>(jbE hb m.vars V.len m.enums.length m.moves.length (fl enE m.enums) (fl moE m.moves)).pa (by simp[pa,pc]) (λst=>hb.no 36 (by decide) _ _) st K Kp;rw[decide_eq_true hz,Bool.true_and];have E36:∀ (st:St) (K Kp:AV->St->Prop),XB Qaf base 36 [.agg (mdE m)] st K Kp=K (.int .i64 (Zd m.vars)) st:=E36;have f2:(nw (nw st0 (srE src)) [AV.nils,AV.nils,AV.nils]).nx=2:=rfl;have CX:=((((((f2▸Cl.new (nw (nw st0 (srE src)) [AV.nils,AV.nils,AV.nils]) [AV.nils,AV.nils,AV.nils]:Cl (nw (nw (nw st0 (srE src)) [AV.nils,AV.nils,AV.nils]) [AV.nils,AV.nils,AV.nils]) 2 [AV.nils,AV.nils,AV.nils]).nw [AV.int .i64 0,AV.int .i64 0,AV.str [],AV.nils,AV.int .i64 0,AV.int .i64 0]).nw [AV.int .i64 0,AV.int .i64 0,AV.int .i64 0]).wr0 (c':=mdE m) rfl).wrO (c:=3) (by decide) 0 (eE x)).wrO (c:=4) (by decide) 0 [AV.int .i64 0,AV.int .i64 0,AV.int .i64 0]);have sm:=jrV (by rw[CX.len];exact Qao 3) (CX.rats0 rfl);obtain⟨rfl,rfl,rfl⟩:=hz;repeat'(first|apply jc<;>intro _|simp(disch:=first|exact dzG|fail) only[E35,h5',E34,vS,vR,vQ,fEq,E36,sm,je,jj,ji,jd,jm,jn,jp,jq,jo,vT,rzZ,Qab,Qac,Qad,Qaa,Qae])
    all_goals exact jaG (FzsD.pc (QY m)) rfl
   ·rw[decide_eq_false hz,Bool.false_and];repeat'(first|apply jc<;>intro _|simp(disch:=first|exact dzG|fail) only[E35,h5',E34,vS,vR,vQ,fEq,hz,je,jj,ji,jd,jm,jn,jp,jq,jo,vT,rzZ,Qab,Qac,Qad,Qaa,Qae])
    all_goals exact jaG (FzsD.pc (QY m)) rfl
def jjn:XC:=(oX [TT 2,Tz 4,o8 5 [oB,oJ,oB,oB],Ol 6] (T6 [OO 13 2,Oh 14 13,IP 15 14,I0 16] 0 17 16 15 17 0 1 [oz 18 16,Ik 19 7 14 16,oU 20 7 19,o8 8 [oJ,oB,oJ,oB,oB,Tj,oB],oy 7 18,o5 7 8 20] (Ic [OO 21 8,oH 22 21,OY 23,ow 24 (.strb .eql 22 23)] 24 (Lh [Tq 25 7,TF 26 OI [((0,1),IR 4),((1,1),25)],IX 27 1 8,Ts 28 27 27 3,IX 29 2 8,Ts 30 29 29 9,IX 31 3 8,Ts 32 31 31 2,IX 33 4 8,Ts 34 33 33 2,TF 35 [oB,oJ,oB,oB] [((0,1),28),((1,1),30),((2,1),32),((3,1),34)],Ty 6 4 26 [(1,2),(3,2),(5,9),(7,3)],TU 4 5 35,IO (Ta 6)])) 36 16 16 36) (OW (T6 [Tv 37 2,Oh 38 37,IP 39 38,I0 40] 2 41 40 39 41 2 3 [Ik 42 4 38 40,oU 43 4 42,o8 10 [oJ,.nils,oB,oB],o5 4 10 43] (T6 [Tv 44 10,Oh 45 44,IP 46 45,I0 47] 4 48 47 46 48 4 5 [oz 49 47,Li 50 45 47,oH 51 50,oy 11 49,oy 12 51] (Ic [oz 52 12,OY 53,ow 54 (.strb .eql 52 53)] 54 (Lh [Tq 55 11,TF 56 OI [((0,1),Tg),((1,1),55)],IX 57 0 10,Ts 58 57 57 9,TF 59 [oB,oJ,oB,oB] [((0,1),IR 3),((1,1),58)],Ty 6 4 56 [(1,9)],TU 4 5 59,IO (Ta 6)])) 60 47 47 60) 61 40 40 61) [Iv 62 OI [],Iv 63 [oB,oJ,oB,oB] [],TV 4 62,o5 4 5 63,Ol 6]))
def job:XF:=⟨[0,1],jjn,[(.cA 4 6),(.cA 5 4),(.t 6)]⟩
theorem jsi:jC Qaf 38=some job:=by kernel_rfl
def jjm:XC:=(OK [o8 6 [oB,oB,oB]] [IY 7,OY 8,oz 9 2,Iv 10 [oB,oB,oB] [((0,1),7),((1,1),8),((2,1),9)],o5 3 6 10])
def joa:XF:=⟨[0,1,2],jjm,[(.cA 6 3)]⟩
theorem jsh:jC Qaf 39=some joa:=by kernel_rfl
def jjl:XC:=(OK (T0 1 2) [TZ 3 1,Iv 4 [oB,oB,oB] [],ol 5 (TO .eql 45 3 4),Tp 5])
def jn9:XF:=⟨[0],jjl,[(.t 2)]⟩
theorem jsg:jC Qaf 40=some jn9:=by kernel_rfl
def jjk:XC:=(ov [ID 4 1,ID 5 2,I0 6,I0 7] (oX (IK (TI 17 0 oB []) 8 17) (On [Ld 18 4,oH 19 18,Tl 20 4,oH 21 20,ow 22 (.build [oB,oB] [((0,1),19),((1,1),21)]),I0 23] 0 [O1 24 .lss 23 2] 24 0 1 (IK (ol 25 (.ixA1 2 1 22 23)) 10 25) (On [Ld 26 5,oH 27 26,Tl 28 5,oH 29 28,ow 30 (.build [oB,oB] [((0,1),27),((1,1),29)]),I0 31] 2 [O1 32 .lss 31 2] 32 2 3 (IK (ol 33 (.ixA1 2 1 30 31)) 12 33) (T7 [oy 34 0] 4 (Oi 42 34 5 41 42 41 (.ops [oz 43 8,oz 44 10,ol 45 (.un .neg 44),TI 46 1 oB [((0,1),45)],Oq 47 1 8 43 46,oy 8 47]) (Oi 49 34 15 48 49 48 (.ops [oz 50 8,oz 51 10,oz 52 12,IW 53 .add 51 52,TI 54 1 oB [((0,1),53)],Oq 55 1 8 50 54,oy 8 55]) (Oi 57 34 16 56 57 56 (.ops [oz 58 8,oz 59 10,oz 60 12,IW 61 .sub 59 60,TI 62 1 oB [((0,1),61)],Oq 63 1 8 58 62,oy 8 63]) (.ops [oz 35 8,oz 36 10,oz 37 12,IW 38 .mul 36 37,TI 39 1 oB [((0,1),38)],Oq 40 1 8 35 39,oy 8 40]))))) 64 31 1 31 64) 65 23 1 23 65) (TN [TB 66 8,IE (Li 67 66 OM),OQ 68 67,TB 69 8,IE (Li 70 69 OM),OQ 71 70,IE (oy 13 68),IE (oy 14 71)] (OW (T6 [oy 72 8,IP 73 72,I0 74] 5 75 74 73 75 5 6 [Li 76 72 74,oH 77 76,oy 16 77] (ov [oz 78 13,oz 79 16,ol 80 (.bi .min #[2,2] [78,79]),oy 13 80] (.ops [oz 81 14,oz 82 16,ol 83 (.bi .max #[2,2] [81,82]),oy 14 83])) 84 74 74 84) [oz 85 13,oz 86 14,oy 6 85,oy 7 86]))))
def jn8:XF:=⟨[0,1,2],jjk,[(.t 6),(.t 7)]⟩
theorem jsf:jC Qaf 41=some jn8:=by kernel_rfl
def Kb:XC:=(T9 [oz 205 22,OV 206 205] 206 [Iv 207 OI [],Iv 208 [oB,oJ,oB,oB] [],oE 209 4 4,oH 210 209,oE 211 5 4,oH 212 211,Ip 213 39 [IR 163,210,212],TV 6 207,o5 4 7 208,o5 3 8 213] (T9 [OO 214 23,oH 215 214,Ib 216 .eql 215 1,oz 217 216,Oy 218 217 2 23,Ow 219 217 218,Td 220 217 .lss 219 (-(99999999+1)),IZ 221 217 220,Oo 222 221 3 23,Ov 223 221 222,O6 224 221 .gtr 223 100000000,Ig 225 217 (.pick 221 Ih 224),I6 226 217 225 oW] 226 [Iv 227 OI [],Iv 228 [oB,oJ,oB,oB] [],oE 229 4 4,oH 230 229,oE 231 5 4,oH 232 231,Ip 233 39 [IR 165,230,232],TV 6 227,o5 4 7 228,o5 3 8 233] (Lh [T8 234 6 12 12 29,T8 235 4 23 23 42,TF 236 [oB,oB,oB] [],Ty 6 6 234 [(1,42)],TU 4 7 235,TU 3 8 236])))
def jal:XC:=(.seq (T7 [OO 145 4,Oh 146 145] 2 (.seq (Tt 157 146 5 156 157 156 (Tt 158 146 14 156 158 156 (Tt 159 146 15 156 159 156 (.ops (IV 160 146 16 156 160))))) (.cond 156 (O8 [oz 161 21,oz 162 161,Oy 163 162 0 19,Ow 164 162 163,Td 165 162 .eql 164 1,Tb 166 162 165,oy 22 166] [OO 167 23,o5 1 167 Tg] (.ops [OO 169 4,oH 170 169,oU 171 4 19,oU 172 4 20,Ip 173 41 [170,171,172],oz 168 173,Tw 174 168,Tx 175 168,Ld 176 23,o5 1 176 174,Tl 177 23,o5 1 177 175])) (.seq (Tt 179 146 19 178 179 178 (Tt 180 146 20 178 180 178 (Tt 181 146 21 178 181 178 (.ops (IV 182 146 22 178 182))))) (.cond 178 (.ops [oz 183 21,oz 184 183,Oy 185 184 0 19,Ow 186 184 185,Td 187 184 .eql 186 1,Tb 188 184 187,oy 22 188]) (.seq (Tt 190 146 17 189 190 189 (.ops (IV 191 146 18 189 191))) (.cond 189 (.ops (Tf 192 21 22 192)) (.seq (Tt 194 146 6 193 194 193 (Tt 195 146 27 193 195 193 (Tt 196 146 28 193 196 193 (Tt 197 146 29 193 197 193 (.ops (IV 198 146 30 193 198)))))) (.cond 193 (.ops [oz 199 21,oz 200 199,Oy 201 200 0 19,Ow 202 200 201,Td 203 200 .eql 202 2,Tb 204 200 203,oy 22 204]) (.ops [oz 147 21,oz 148 147,Oy 149 148 0 19,Ow 150 148 149,Td 151 148 .eql 150 2,Tb 152 148 151,oz 153 152,IZ 154 153 2,Tb 155 153 154,oy 22 155])))))))))) Kb)
def jam:XC:=(ov [oz 123 13,Ik 124 4 123 OM,oU 125 4 124,o8 19 [oB,oJ,oB,oB],o5 4 19 125] (O8 [oz 126 13,oz 127 13,I4 128 127,Ib 129 .sub 128 1,Ik 130 4 126 129,oU 131 4 130,o8 20 [oB,oJ,oB,oB],o5 4 20 131] [OO 132 19,oH 133 132,OO 134 20,oH 135 134,IW 136 .eql 133 135,oz 137 136,Oy 138 137 1 19,Ow 139 137 138,Oy 140 137 1 20,Ow 141 137 140,Ig 142 137 (.strb .eql 139 141),Tb 143 137 142,oy 21 143] (O8 (Th 22) [Iv 144 [oB,oJ,oB,oB] [((0,1),IR 2)],o8 23 [oB,oJ,oB,oB],o5 4 23 144] jal)))
def jan:XC:=(.seq (T6 [Tl 81 4,Oh 82 81,IP 83 82,I0 84] 0 85 84 83 85 0 1 [Ik 86 6 82 84,O9 87 86,Tz 15,TV 15 87] (oX [TZ 89 3,O9 90 15,oz 91 2,oz 92 91,Oy 93 92 0 4,Ow 94 92 93,Td 95 92 .neq 94 17,Tb 96 92 95,oz 97 96,Oy 98 97 0 4,Ow 99 97 98,Td 100 97 .neq 99 18,Tb 101 97 100,Ip 102 14 [89,90,101],oz 88 102,Tw 103 88,Tx 104 88,Ii 105 88 2,Tz 16,o8 17 [oB,oJ,oB,oB],o8 18 [oB,oB,oB],TV 16 103,o5 4 17 104,o5 3 18 105] (Ic [TZ 106 18,Ox 107 40 106,OV 108 107] 108 (Lh [TF 109 OI [],TF 110 [oB,oJ,oB,oB] [],T8 111 3 18 18 45,Ty 6 6 109 [(0,45)],Ty 4 7 110 [(1,45)],TU 3 8 111])) (ov [Tl 112 12,oH 113 112,O9 114 16,Is 115 1 6 OI [((0,6),114)],Oq 116 6 72 113 115,Tl 117 12,o5 1 117 116] (.ops [oz 118 13,oU 119 4 17,Is 120 1 4 [oB,oJ,oB,oB] [((0,4),119)],Oq 121 4 40 118 120,oy 13 121]))) 122 84 84 122) jam)
def jjr:XC:=(oX [TT 3,ID 4 1,Tz 6,o8 7 [oB,oJ,oB,oB],o8 8 [oB,oB,oB]] (Ic [OO 24 4,oH 25 24,O1 26 .eql 25 1] 26 (Lh [T8 27 6 4 4 29,IX 28 1 4,Ts 29 28 28 2,IX 30 1 4,Ts 31 30 30 2,TF 32 [oB,oJ,oB,oB] [((0,1),Tg),((2,1),29),((3,1),31)],TF 33 [oB,oB,oB] [],Ty 6 6 27 [(2,2),(4,2)],TU 4 7 32,TU 3 8 33])) (T9 [OO 34 4,oH 35 34,O1 36 .eql 35 2] 36 [O9 37 4,Iv 38 [oB,oJ,oB,oB] [((0,1),IR 2)],Iv 39 [oB,oB,oB] [],TV 6 37,o5 4 7 38,o5 3 8 39] (.seq (Ic [OO 40 4,oH 41 40,O1 42 .eql 41 3] 42 (Oe [TZ 44 3,Ld 45 4,oH 46 45,OA 47 38 44 46,oz 43 47,Tw 48 43,Tx 49 43,Ii 50 43 2,Tz 9,o8 10 [oB,oJ,oB,oB],TV 9 48,o5 4 10 49,oy 11 50] [oz 51 11,OV 52 51] 52 [Iv 53 OI [],Iv 54 [oB,oJ,oB,oB] [],oE 55 4 4,oH 56 55,oE 57 5 4,oH 58 57,Ip 59 39 [IR 161,56,58],TV 6 53,o5 4 7 54,o5 3 8 59] (ov [oE 60 4 4,oH 61 60,oE 62 4 9,o5 1 62 61] (oX [oE 63 5 4,oH 64 63,oE 65 5 9,o5 1 65 64] (.dops [T8 66 6 9 9 29,T8 67 4 10 10 42,TF 68 [oB,oB,oB] [],Ty 6 6 66 [(1,42)],TU 4 7 67,TU 3 8 68]) .ret)))) (O8 [OO 69 4,oH 70 69,Tv 71 4,oH 72 71,Ld 73 4,oH 74 73,oE 75 4 4,oH 76 75,oE 77 5 4,oH 78 77,Iv 79 OI [((0,1),70),((1,1),72),((2,1),74),((4,1),76),((5,1),78)],Tz 12,TV 12 79] (IK (Is 80 0 4 [oB,oJ,oB,oB] []) 13 80) jan))))
def jbl:XF:=⟨[0,1,2],jjr,[(.cA 6 6),(.cA 7 4),(.cA 8 3)]⟩
theorem jsm:jC Qaf 14=some jbl:=by kernel_rfl
def zs3:XC:=(Oe [TT 3,ID 4 1,Ol 6] [Ip 24 9 [],OV 25 24] 25 (Th 6) (Oe [TZ 27 3,Ox 28 10 27,oz 26 28,Tw 29 26,Tx 30 26,o8 7 [.nils,.nils,.nils],o5 3 7 29,oy 8 30] [oz 31 8,TM 32 31,oz 33 32,O0 34 33 6 4,Lg 35 33 11 [34],TS 36 33 35,Tc 37 33 36,oz 38 37,O0 39 38 6 4,Lg 40 38 12 [39],O6 41 38 .gtr 40 20,Tc 42 38 41,oz 43 42,O0 44 43 3 7,IH 45 43 2,Lg 46 43 13 [44,45],TS 47 43 46,Lc 48 43 47] 48 [Ta 6] (Oe [TZ 50 7,O9 51 4,Ip 52 14 [50,51,Ih],oz 49 52,Tw 53 49,Tx 54 49,Ii 55 49 2,Tz 9,ol 10 (.alloc [oB,oJ,oB,oB]),o8 11 [oB,oB,oB],TV 9 53,o5 4 10 54,o5 3 11 55] [TZ 56 11,Iv 57 [oB,oB,oB] [],ow 58 (TO .neq 45 56 57)] 58 [Ta 6] (oX (Th 12) (IU [OZ 13 7] 0 (.seq (O4 [oz 59 13,O1 60 .leq 59 13] 60 (.exit 0)) (Iz 1 (.ops [oz 63 12,oz 64 63,O0 65 64 6 4,IH 66 64 13,Lg 67 64 15 [65,66],Tc 68 64 67,oy 12 68]) [oz 61 13,TA 62 61 1,oy 13 62]))) (.seq (IU [OZ 14 23] 2 (.seq (O4 [oz 69 14,O1 70 .leq 69 26] 70 (.exit 2)) (Iz 3 (.ops [oz 73 12,oz 74 73,O0 75 74 6 4,IH 76 74 14,Lg 77 74 15 [75,76],Tc 78 74 77,oy 12 78]) [oz 71 14,TA 72 71 1,oy 14 72]))) (ov [O9 80 9,oz 81 2,OA 82 16 80 81,oz 79 82,Tw 83 79,Tx 84 79,oy 15 83,oy 16 84] (Oe [O9 86 9,oz 87 2,OA 88 17 86 87,oz 85 88,Tw 89 85,Tx 90 85,oy 17 89,oy 18 90] [oy 91 12] 91 [oz 92 16,TM 93 92,oz 94 93,IZ 95 94 18,Ig 96 94 (IA 95),Tb 97 94 96,oz 98 97,IZ 99 98 15,Ig 100 98 (TJ 99),Tb 101 98 100,oz 102 101,IZ 103 102 17,Ig 104 102 (IA 103),Tb 105 102 104,oy 6 105] (O8 [O9 106 9,oz 107 2,OA 108 18 106 107,oy 19 108] [oz 110 2,I4 111 110,Iv 112 OI [((0,1),IR 4),((1,1),111)],oz 113 2,OA 114 16 112 113,oz 109 114,Tw 115 109,Tx 116 109,oz 20 115,oy 21 116] (OK [Iv 118 OI [((0,1),IR 3),OT 2 120],oz 119 2,OA 120 16 118 119,oz 117 120,Tw 121 117,Tx 122 117,oz 22 121,oy 23 122] [oz 123 16,oz 124 123,IZ 125 124 18,Tb 126 124 125,oz 127 126,IZ 128 127 15,IZ 129 127 19,Ig 130 127 (.bin .eql 128 129),Tb 131 127 130,oz 132 131,IZ 133 132 17,IZ 134 132 19,Td 135 132 .eql 134 1,Ig 136 132 (TO .eql 4 133 135),Tb 137 132 136,oz 138 137,IZ 139 138 21,Ig 140 138 (IA 139),Tb 141 138 140,oz 142 141,IZ 143 142 23,Ig 144 142 (IA 143),Tb 145 142 144,oy 6 145])))))))))
def ys3:XF:=⟨[0,1,2],zs3,[(.t 6)]⟩
theorem xs3:jC Qaf 3=some ys3:=by kernel_rfl
theorem jes (hb:NB base)(c l k:Int):Tot base 39 [.int .i64 c,.int .i64 l,.int .i64 k] (.agg [.int .i64 c,.int .i64 l,.int .i64 k]):=by
 refine hb.tot ?_ rfl rfl;refine jF jsh (by rfl) (hb.pur 39 1 (by decide)) ?_;simp only[joa,ju,Qai,Qaj,Qag,Qah];rw[(by unfold jjm;simp only[qq];rfl:jjm=_)];repeat'(first|apply jc<;>intro _|simp(disch:=first|exact dzG|fail) only[je,jj,ji,jd,jm,jn,jp,jq,jo,rzZ,Qab,Qac,Qad,Qaa,Qae])
 exact FzD.agg (.pc rfl)
theorem jhP (hb:NB base)(c l k:Int):Tot base 40 [.agg [.int .i64 c,.int .i64 l,.int .i64 k]] (.bool (decide (c=0/\l=0/\k=0))):=by
 refine hb.tot ?_ rfl rfl;refine jF jsg (by rfl) (hb.pur 40 1 (by decide)) ?_;simp only[jn9,ju,Qai,Qaj,Qag,Qah];rw[(by unfold jjl;simp only[qq];rfl:jjl=_)];repeat'(first|apply jc<;>intro _|simp(disch:=first|exact dzG|fail) only[fEq,je,jj,ji,jd,jm,jn,jp,jq,jo,rzZ,Qab,Qac,Qad,Qaa,Qae])
 exact G0.v rfl rfl
def YS (vars:List VarT)(enums:List EnumT)(s:List Nat):Ex×MtT×Bool:=
 if 0<=jY vars s then
  (let v:=vars.getD (jY vars s).toNat ⟨[],0,[],0,0,false,0⟩
   (.mk 4 (jY vars s) [] [] 0 0,⟨v.kind,v.enum,v.lo,v.hi⟩,true))
 else if(yx enums s).2<0 then(.mk 0 0 [] [] 0 0,mt0,false)
 else(.mk 1 (yx enums s).2 [] [] 0 0,⟨3,(yx enums s).1,0,0⟩,true)
def rnV (r:Ex×MtT×Bool):AV:=.tup [.agg (eE r.1),.agg (mtE r.2.1),.bool r.2.2]
theorem rnG {s:St}{u:AV}{r:Ex×MtT×Bool}{op num:Int}{nm:List Nat}{kd:Int}{en:List Nat}{lo hi:Int}{q:Bool}{ks:AV}(hk:ks=.nils\/ks=.lst 0 [])(hu:u=.tup [.agg [.int .i64 op,.int .i64 num,.str nm,ks,.int .i64 0,.int .i64 0],.agg [.int .i64 kd,.str en,.int .i64 lo,.int .i64 hi],.bool q])(h:r=(.mk op num nm [] 0 0,⟨kd,en,lo,hi⟩,q)):G0 (rnV r) u s:=by
 subst hu h;have e:FzD 0 7 s ks (.lst 0 []):=by
  rcases hk with rfl|rfl
  ·exact FzD.nils
  ·exact FzD.pa rfl
 exact FzD.tup (.cons (FzD.agg (.cons (.pc rfl) (.cons (.pc rfl) (.cons (.pc rfl) (.cons e (.cons (.pc rfl) (.cons (.pc rfl) .nil))))))) (.cons (FzD.agg (.pc rfl)) (.cons (.pc rfl) .nil)))
set_option maxHeartbeats 8000000 in
theorem jp0 (hb:NB base)(m:ModT)(hv:m.vars.length<=1000000)(he:m.enums.length<=1000000)(hv2:∀ e∈m.enums,e.vals.length<=1000000)(nm:List Nat):Tot base 38 [.agg (mdE m),.str nm] (rnV (YS m.vars m.enums nm)):=by
 refine hb.tot ?_ (by simp[pa,pc,QY]) rfl;obtain⟨r,hr⟩:∃ r,r=YS m.vars m.enums nm:=⟨_,rfl⟩;have hd:=hr;unfold YS at hd;rw[<-hr];refine jF jsi (by rfl) (hb.pur 38 1 (by decide)) ?_;simp only[job,ju,Qai,Qaj,Qag,Qah];rw[(by unfold jjn;simp only[qq];rfl:jjn=_)];repeat'(first|apply jc<;>intro _|simp(disch:=first|exact dzG|fail) only[je,jj,ji,jd,jm,jn,jp,jq,jo,rzZ,Qab,Qac,Qad,Qaa,Qae])
 refine qp m.vars.length (λk L s=>(∀ j (hj:j<m.vars.length),j<k->decide (m.vars[j].name=nm)=false)/\3<=s.nx/\Cl s 0 (mdE m)/\Cl s 1 [.int .i64 0,.int .i64 0,.str [],.nils,.int .i64 0,.int .i64 0]/\Cl s 2 [.int .i64 0,.str [],.int .i64 0,.int .i64 0]/\Has L 1 (.str nm)/\Has L 2 (.ptr 0 0)/\Has L 4 (.ptr 1 0)/\Has L 5 (.ptr 2 0)/\Has L 14 (.lst m.vars.length (fl vaE m.vars))) (by first|assumption|omega) (by decide) (by simp(disch:=decide) only[jf,jb]) (by simp(disch:=decide) only[jf,jb]) ?_ (λk L s v h=>(by obtain⟨a1,a2,a3,a4,a5,a6,a7,a8,a9,a10⟩:=h;refine⟨a1,a2,a3,a4,a5,?_,?_,?_,?_,?_⟩<;>simp(disch:=decide) only[jb]<;>assumption)) (λk L s v h=>(by obtain⟨a1,a2,a3,a4,a5,a6,a7,a8,a9,a10⟩:=h;refine⟨a1,a2,a3,a4,a5,?_,?_,?_,?_,?_⟩<;>simp(disch:=decide) only[jb]<;>assumption)) (λk L s hk hI hi hn=>?_) (λL s hI=>?_)
 ·refine⟨λj _ hj=>absurd hj (Qbg _),by(first|omega|(simp only[jg,jh,jt,jr,jl];first|done|omega)),by(first|exact cyG|fail),by(first|exact cyG|fail),by(first|exact cyG|fail),?_,?_,?_,?_,?_⟩<;>simp(disch:=decide) only[jb,jf]
 ·obtain⟨h0,n4,C0,C1,C2,i1,i2,i4,i5,i14⟩:=hI;by_cases g:m.vars[k].name=nm
  ·have hv:jY m.vars nm=k:=wD hk (λj hj=>h0 j (by omega) hj) (by rw[decide_eq_true g]);have hv2:m.vars.getD (jY m.vars nm).toNat ⟨[],0,[],0,0,false,0⟩=m.vars[k]:=by
    rw[hv,Qcw,Qau,Qas hk];rfl
   dsimp only at hd;rw[hv2,hv,if_pos (by omega)] at hd
   (have zz:=aI @q6 (aI @yf (aI C0.r (aI C1.r C2.r)));(repeat'(first|apply jc<;>intro _|simp(disch:=first|exact jO|fail) only[ja i1,ja i2,ja i4,ja i5,ja i14,ja hi,ja hn,g,sm2,sm3,sm9,C0.q,C1.q,C2.q,q6,yf,C0.r,C1.r,C2.r,je,jj,ji,jd,jm,jn,jp,jq,jo,rzZ,Qab,Qac,Qad,Qaa,Qae]));all_goals clear zz)
   exact rnG (.inl rfl) rfl hd
  ·(have zz:=aI C0.r (aI C1.r C2.r);(repeat'(first|apply jc<;>intro _|simp(disch:=first|exact jO|fail) only[ja i1,ja i2,ja i4,ja i5,ja i14,ja hi,ja hn,g,C0.q,C1.q,C2.q,C0.r,C1.r,C2.r,je,jj,ji,jd,jm,jn,jp,jq,jo,rzZ,Qab,Qac,Qad,Qaa,Qae]));all_goals clear zz)
   refine⟨⟨λj hj hjk=>?_,by omega,(C0.nw _).wrO (by omega) _ _,(C1.nw _).wrO (by omega) _ _,(C2.nw _).wrO (by omega) _ _,?_,?_,?_,?_,?_⟩,?_,?_⟩
   ·rcases QaT j k with h2|h2
    ·exact of_decide_eq_false (h0 j hj h2)
    ·have:j=k:=by omega
     subst this;exact g
   all_goals(simp(disch:=decide) only[jb];assumption)
 ·obtain⟨h0,n4,C0,C1,C2,i1,i2,i4,i5,i14⟩:=hI;have hv:jY m.vars nm=-1:=wC λj hj=>h0 j hj hj;rw[hv,if_neg (by omega)] at hd;clear hv h0
  (have zz:=C0.r;(repeat'(first|apply jc<;>intro _|simp(disch:=first|exact jO|fail) only[ja i2,C0.q,C0.r,je,jj,ji,jd,jm,jn,jp,jq,jo,rzZ,Qab,Qac,Qad,Qaa,Qae]));all_goals clear zz)
  refine qp m.enums.length (λk L s=>(∀ j (hj:j<m.enums.length),j<k->fi (λv=>decide (nm=v)) m.enums[j].vals<0)/\3<=s.nx/\Cl s 1 [.int .i64 0,.int .i64 0,.str [],.nils,.int .i64 0,.int .i64 0]/\Cl s 2 [.int .i64 0,.str [],.int .i64 0,.int .i64 0]/\Has L 1 (.str nm)/\Has L 4 (.ptr 1 0)/\Has L 5 (.ptr 2 0)/\Has L 38 (.lst m.enums.length (fl enE m.enums))) (by first|assumption|omega) (by decide) (by simp(disch:=decide) only[jf,jb]) (by simp(disch:=decide) only[jf,jb]) ?_ (λk L s v h=>(by obtain⟨a1,a2,a3,a4,a5,a6,a7,a8⟩:=h;refine⟨a1,a2,a3,a4,?_,?_,?_,?_⟩<;>simp(disch:=decide) only[jb]<;>assumption)) (λk L s v h=>(by obtain⟨a1,a2,a3,a4,a5,a6,a7,a8⟩:=h;refine⟨a1,a2,a3,a4,?_,?_,?_,?_⟩<;>simp(disch:=decide) only[jb]<;>assumption)) (λk L s hk hI hi hn=>?_) (λL s hI=>?_)
  ·refine⟨λj _ hj=>absurd hj (Qbg _),n4,C1,C2,?_,?_,?_,?_⟩<;>simp(disch:=decide) only[jb,jf]<;>assumption
  ·obtain⟨h0,n4,C1,C2,i1,i4,i5,i38⟩:=hI;have hl:=hv2 _ (Qax hk);repeat'(first|apply jc<;>intro _|simp(disch:=first|exact dzG|fail) only[ja i38,ja hi,ja hn,je,jj,ji,jd,jm,jn,jp,jq,jo,rzZ,Qab,Qac,Qad,Qaa,Qae])
   refine qp m.enums[k].vals.length (λk2 L s=>(∀ j (hj:j<m.enums[k].vals.length),j<k2->decide (nm=m.enums[k].vals[j])=false)/\3<=s.nx/\Cl s 1 [.int .i64 0,.int .i64 0,.str [],.nils,.int .i64 0,.int .i64 0]/\Cl s 2 [.int .i64 0,.str [],.int .i64 0,.int .i64 0]/\(∃ b,Cl s b (enE m.enums[k])/\3<=b/\Has L 10 (.ptr b 0))/\Has L 1 (.str nm)/\Has L 4 (.ptr 1 0)/\Has L 5 (.ptr 2 0)/\Has L 38 (.lst m.enums.length (fl enE m.enums))/\Has L 40 (.int .i64 (k:Int))/\Has L 39 (.int .i64 (m.enums.length:Int))/\Has L 45 (.lst m.enums[k].vals.length (m.enums[k].vals.map AV.str))) (by first|assumption|omega) (by decide) (by simp(disch:=decide) only[jf,jb]) (by simp(disch:=decide) only[jf,jb]) ?_ (λk L s v h=>(by obtain⟨a1,a2,a3,a4,⟨b,a5,a6,a7⟩,a8,a9,a10,a11,a12,a13,a14⟩:=h;refine⟨a1,a2,a3,a4,⟨b,a5,a6,?_⟩,?_,?_,?_,?_,?_,?_,?_⟩<;>simp(disch:=decide) only[jb]<;>assumption)) (λk L s v h=>(by obtain⟨a1,a2,a3,a4,⟨b,a5,a6,a7⟩,a8,a9,a10,a11,a12,a13,a14⟩:=h;refine⟨a1,a2,a3,a4,⟨b,a5,a6,?_⟩,?_,?_,?_,?_,?_,?_,?_⟩<;>simp(disch:=decide) only[jb]<;>assumption)) (λkx Lx sx hkx hIx hix hnx=>?_) (λLx sx hIx=>?_)
   ·refine⟨λj _ hj=>absurd hj (Qbg _),by(first|omega|(simp only[jg,jh,jt,jr,jl];first|done|omega)),(C1.nw _).wrO (by omega) _ _,(C2.nw _).wrO (by omega) _ _,⟨s.nx,(Cl.new s _).wr0 (by rw[Jq];rfl),by omega,?_⟩,?_,?_,?_,?_,?_,?_,?_⟩;all_goals first
     |(simp(disch:=decide) only[jb,jf];done)
     |(simp(disch:=decide) only[jb];assumption)
   ·obtain⟨g0,n4,C1,C2,⟨b,Cb,hb3,j10⟩,j1,j4,j5,j38,j40,j39,j45⟩:=hIx;have eS:∀ (st:St) (K:AV->St->Prop),jk (qZ (.lptr (m.enums[k].vals.map AV.str) kx) st) K=K (.str m.enums[k].vals[kx]) st:=λst K=>jbx hkx;by_cases g:m.enums[k].vals[kx]=nm
    ·have hf:fi (λv=>decide (nm=v)) m.enums[k].vals=kx:=wD hkx (λj hj=>g0 j (by omega) hj) (by rw[decide_eq_true g.symm]);have hv:=kD hk h0 (by rw[hf];omega);rw[hf] at hv;rw[hv,if_neg (by dsimp only;omega)] at hd;have q0:rat sx.h b 0=.str m.enums[k].name:=Cb.cell 0 (by rw[Jq];decide);have q1:qr sx.h b=4:=by rw[Cb.len,Jq]
     (have zz:=aI @q0 (aI @q1 (aI @q6 (aI @yf (aI C1.r (aI C2.r @Cb.r)))));(repeat'(first|apply jc<;>intro _|simp(disch:=first|exact jO|fail) only[ja j1,ja j4,ja j5,ja j10,ja j45,ja hix,ja hnx,g,eS,sm2,sm3,sm9,C1.q,C2.q,Cb.q,q0,q1,q6,yf,C1.r,C2.r,Cb.r,je,jj,ji,jd,jm,jn,jp,jq,jo,rzZ,Qab,Qac,Qad,Qaa,Qae]));all_goals clear zz)
     exact rnG (.inl rfl) rfl hd
    ·(have zz:=aI C1.r (aI C2.r @Cb.r);(repeat'(first|apply jc<;>intro _|simp(disch:=first|exact jO|fail) only[ja j1,ja j4,ja j5,ja j10,ja j45,ja hix,ja hnx,g,eS,C1.q,C2.q,Cb.q,C1.r,C2.r,Cb.r,je,jj,ji,jd,jm,jn,jp,jq,jo,rzZ,Qab,Qac,Qad,Qaa,Qae]));all_goals clear zz)
     refine⟨⟨λj hj hjk=>?_,n4,C1,C2,⟨b,Cb,hb3,?_⟩,?_,?_,?_,?_,?_,?_,?_⟩,?_,?_⟩
     ·rcases QaT j kx with h2|h2
      ·first|exact g0 j hj h2|exact of_decide_eq_false (g0 j hj h2)
      ·have:j=kx:=by omega
       subst this;first|exact decide_eq_false (Ne.symm g)|exact Ne.symm g
     all_goals(simp(disch:=decide) only[jb];assumption)
   ·obtain⟨g0,n4,C1,C2,⟨b,Cb,hb3,j10⟩,j1,j4,j5,j38,j40,j39,j45⟩:=hIx;have hf:fi (λv=>decide (nm=v)) m.enums[k].vals=-1:=wC λj hj=>g0 j hj hj;repeat'(first|apply jc<;>intro _|simp(disch:=first|exact dzG|fail) only[je,jj,ji,jd,jm,jn,jp,jq,jo,rzZ,Qab,Qac,Qad,Qaa,Qae])
    refine⟨⟨λj hj hjk=>?_,n4,C1,C2,?_,?_,?_,?_⟩,?_,?_⟩
    ·rcases QaT j k with h2|h2
     ·exact h0 j hj h2
     ·have:j=k:=by omega
      subst this;rw[hf];decide
    all_goals first
     |assumption
     |(simp(disch:=decide) only[jb];assumption)
  ·obtain⟨h0,n4,C1,C2,i1,i4,i5,i38⟩:=hI;have hv:yx m.enums nm=([],-1):=kC λj hj=>h0 j hj hj;rw[hv,if_pos (by decide)] at hd
   (have zz:=aI C1.r C2.r;(repeat'(first|apply jc<;>intro _|simp(disch:=first|exact jO|fail) only[ja i4,ja i5,C1.q,C2.q,C1.r,C2.r,je,jj,ji,jd,jm,jn,jp,jq,jo,rzZ,Qab,Qac,Qad,Qaa,Qae]));all_goals clear zz)
   exact rnG (.inl rfl) rfl hd
section
variable {P:Program}
theorem jbq {b b2 i c d:Nat}{zz:Int}{body:XC}{L:Sl}{st:St}{Q:Out->Prop}{Kp:AV->Sl->St->Prop}(N:Nat)(I:Nat->Sl->St->Prop)(hN:N<=4611686018427387904)(hz:zz=(N:Int))(hne:c≠i/\d≠i/\b≠b2)
  (hi:Has L i (.int .i64 0)) (h0:I 0 L st) (hc:∀ k L s v,I k L s->I k ((c,v) :: L) s) (hI:∀ k L s v,I k L s->I k ((i,v) :: L) s)
  (step:∀ k L s,k<N->I k L s->Has L i (.int .i64 (k:Int))->Z6 (xC P base body L s (Gn b b2 (λL' s'=>I (k+1) L' s'/\Has L' i (.int .i64 (k:Int))) Q) Kp))
  (fin:∀ L s,I N L s->Z6 (Q (.go L s))) :
  xC P base (.loop (.seq (.ops [⟨some c,true,none,.i (.bin .lss (.t i) (.c (.int .i64 zz)))⟩]) (.seq (.cond (.t c) .skip (.exit b)) (.seq (.block b2 body) (.ops [⟨some d,false,none,.i (.bin .add (.t i) (.c (.int .i64 1)))⟩,⟨some i,true,none,.i (.mv (.t d))⟩]))))) L st (qo b Q) Kp:=by
 obtain⟨n1,n4,n5⟩:=hne;refine yH (λm L s=>∃ k,k<=N/\m=N - k/\I k L s/\Has L i (.int .i64 (k:Int))) ?_ N ⟨0,QaG _,rfl,h0,hi⟩;rintro m L s ⟨k,hk,rfl,hk',h1⟩;unfold Z6;simp only[vM,vN,Yu,x_i,uh,ja h1,WD,jas,vO,YB,Jb,Vo,KJ];by_cases hlt:k<N
 ·rw[decide_eq_true (by omega),Gr,Vk,Jb,vM,wP];refine Up _ _ _ _ _ (step k ((c,.bool true) :: L) s hlt (hc k L s _ hk') (by rw[jb n1];exact h1)) λo ho=>?_;have go:∀ L' s',(I (k+1) L' s'/\Has L' i (.int .i64 (k:Int)))->xO P base [⟨some d,false,none,.i (.bin .add (.t i) (.c (.int .i64 1)))⟩,⟨some i,true,none,.i (.mv (.t d))⟩] ⟨[],L'⟩ s' (λe st'=>zX (λL' st'=>∃ k',k'<N - k/\∃ k,k<=N/\k'=N - k/\I k L' st'/\Has L' i (.int .i64 (k:Int))) (qo b Q) (.go e.g st')) Kp:=by
   intro L' s' ⟨h3,h4⟩;simp only[Yu,x_i,uh,ja h4,WD,jg4 (show k+1<=9223372036854775807 by omega),wV,GD,UB,vO,YB,Jb];refine⟨N - (k+1),by omega,k+1,by omega,rfl,hI _ _ _ _ h3,Has.here _ _ _⟩
  cases o with
  |go L' s'=>exact go L' s' ho
  |rt L' s'=>exact ho
  |ex q L' s'=>
   rw[jbS] at ho;cases hq:Qat q b2
   ·rw[hq] at ho;have e1:qo b2 (zX (λL' st'=>xC P base (.ops [⟨some d,false,none,.i (.bin .add (.t i) (.c (.int .i64 1)))⟩,⟨some i,true,none,.i (.mv (.t d))⟩]) L' st' (zX (λL' st'=>∃ k',k'<N - k/\∃ k,k<=N/\k'=N - k/\I k L' st'/\Has L' i (.int .i64 (k:Int))) (qo b Q)) Kp) (zX (λL' st'=>∃ k',k'<N - k/\∃ k,k<=N/\k'=N - k/\I k L' st'/\Has L' i (.int .i64 (k:Int))) (qo b Q))) (.ex q L' s')=qo b Q (.ex q L' s'):=by
     simp only[qo,hq,cond_false,zX]
    show qo b2 _ _;rw[e1];exact ho
   ·rw[hq] at ho;have:=go L' s' ho;show qo b2 _ _;simp only[qo,hq,cond_true,Jb,vN];exact this
 ·have hkN:k=N:=by omega
  rw[decide_eq_false (by omega),Gs,Vn,YA,YA];subst hkN;show qo b Q (.ex b _ s);rw[ZN];exact fin _ _ (hc _ _ _ _ hk')
end
def Lx (lo hi:Nat)(s:St)(v w:AV)(n:Nat)(cs:List AV)(z:Nat):Prop:=Lv lo hi s w n cs z/\(v=w\/(w=.nils/\∃ b,v=.slice b 0 0 0 z true/\Cl s b []/\lo<=b/\b<hi))
theorem jja {lo hi n z bytes bv xc:Nat}{s:St}{v w:AV}{cs:List AV}{xx:Bool}{K:AV->St->Prop}(h:Lx lo hi s v w n cs z)(hz:0<z)(hby:(n+1) * bytes<=140737488355328)(h63:n+1<=9223372036854775807)(hv:z<=qr s.h bv) :
  jk (Un z bytes v (.slice bv 0 1 xc z xx) s) K=K (apv z w s) (aps w s (rats s.h bv 0 z)):=by
 obtain⟨V,rfl|⟨rfl,b,rfl,C,_,_⟩⟩:=h
 ·exact J5 V hz hby h63 hv
 ·have hn:n=0:=by
   rcases V with ⟨_,h0,_⟩|⟨b,e,_⟩
   ·exact h0
   ·cases e
  subst hn;obtain⟨m,zl,zz,ks,hg⟩:=Xd (h:=s.h) (b:=bv) (by omega);rw[JD hg] at hv;have e0:Qaw 1 z=z:=Nat.one_mul z;have e1:Qap (QaC 0 z) m=true:=yj (by show 0+z<=m;omega);have er:jU zl zz ks z 0=rats s.h bv 0 z:=by
   rw[Zk,qB];exact Qbr λi _=>by rw[Yz hg]
  have el:(rats s.h bv 0 z).length=z:=Qv _ _ _ _;have e3:Qat (jS (rats s.h bv 0 z)) z=true:=Vf (by rw[jT,el]);obtain⟨m',zl',zz',ks',hg'⟩:=C.row;have h4l:=C.len;rw[JD hg'] at h4l;have f4:Qap (QaC 0 1) 0=false:=rfl;have f5:Qap (Qaw (QaC 0 1) bytes) 140737488355328=true:=yj hby;have f6:Qap (QaC 0 1) 9223372036854775807=true:=rfl;have e7:Qap (QaC 0 (Qaw 0 z)) m'=true:=yj (by show 0+0 * z<=m';omega);have e8:jU zl' zz' ks' (Qaw 0 z) 0=[]:=by rw[qB,show Qaw 0 z=0 from Qbq z];rfl
  have e9:∀ l:List AV,zg [] l=l:=λl=>by rw[yN];rfl
  have e10:Qaw (QaC 0 1) z=z:=by show(0+1) * z=z;omega
  simp only[Un,Xv,firstCells,hg,hg',yS,jI,e0,e1,cond_true,er,yF,e3,f4,f5,f6,cond_false,e7,e8,e9,e10,St.alloc_eq,jk];unfold apv Go.Sy.aps nw;rw[el]
def uL (op a b:Int):Int:=if op=5 then wq (-a) else if op=15 then wq (a+b) else if op=16 then wq (a - b) else wq (a * b)
def XO (op:Int)(a b:MtT):List Int:=[uL op a.lo b.lo,uL op a.lo b.hi,uL op a.hi b.lo,uL op a.hi b.hi]
def WC (op:Int)(a b:MtT):Int×Int:=((XO op a b).foldl min (uL op a.lo b.lo),(XO op a b).foldl max (uL op a.lo b.lo))
theorem Lx.nwO {lo hi n z:Nat}{s:St}{v w:AV}{cs:List AV}(h:Lx lo hi s v w n cs z)(hh:hi<=s.nx)(ds:List AV):Lx lo hi (nw s ds) v w n cs z:=by
 obtain⟨V,e⟩:=h;refine⟨?_,e.imp id λ⟨h0,b,h1,C,h2,h3⟩=>⟨h0,b,h1,C.nw ds,h2,h3⟩⟩;simp(disch:=omega) only[jE];exact V
theorem Lx.lv {lo hi n z:Nat}{s:St}{v:AV}{cs:List AV}(h:Lv lo hi s v n cs z):Lx lo hi s v v n cs z:=⟨h,.inl rfl⟩
theorem ix2 {x y:Int}{k:Nat}(hk:k<2)(st:St)(K:AV->St->Prop):jk (jml 2 1 (.agg [.int .i64 x,.int .i64 y]) (.int .i64 (k:Int)) st) K=K (.int .i64 (if k=0 then x else y)) st:=by
 match k,hk with
 |0,_=>rfl
 |1,_=>rfl
theorem jqE {op:Int}{a b:MtT}{k j:Nat}(hk:k<2)(hj:j<2):(XO op a b).take (2 * k+j+1)=(XO op a b).take (2 * k+j) ++ [uL op (if k=0 then a.lo else a.hi) (if j=0 then b.lo else b.hi)]:=by
 match k,hk,j,hj with
 |0,_,0,_=>rfl
 |0,_,1,_=>rfl
 |1,_,0,_=>rfl
 |1,_,1,_=>rfl
set_option maxHeartbeats 8000000 in
theorem jqD (hb:NB base)(op:Int)(a b:MtT):Tot base 41 [.int .i64 op,.agg (mtE a),.agg (mtE b)] (.tup [.int .i64 (WC op a b).1,.int .i64 (WC op a b).2]):=by
 refine hb.tot ?_ (by simp[pa,pc,YX]) rfl;refine jF jsf (by rfl) (hb.pur 41 1 (by decide)) ?_;simp only[jn8,ju,Qai,Qaj,Qag,Qah];rw[(by unfold jjk;simp only[qq];rfl:jjk=_)];repeat'(first|apply jc<;>intro _|simp(disch:=first|exact dzG|fail) only[je,jj,ji,jd,jm,jn,jp,jq,jo,rzZ,Qab,Qac,Qad,Qaa,Qae])
 have f2:(nw (nw (nw st0 (mtE a)) (mtE b)) []).nx=3:=rfl;have hl2:∀ k,k<=4->((XO op a b).take k).length=k:=λk hk=>by rw[QaH];exact QbM hk
 refine jbq 2 (λk L s=>(∃ v w,Lx 2 s.nx s v w (2 * k) (((XO op a b).take (2 * k)).map (.int .i64)) 1/\Has L 8 v)/\3<=s.nx/\Cl s 1 (mtE b)/\Has L 0 (.int .i64 op)/\Has L 5 (.ptr 1 0)/\Has L 22 (.agg [.int .i64 a.lo,.int .i64 a.hi])) (by omega) rfl (by decide) (by simp(disch:=decide) only[jf,jb]) ?_ (λk L s v h=>?_) (λk L s v h=>?_) (λk L s hk hI hi=>?_) (λL s hI=>?_)
 ·refine⟨⟨_,.nils,⟨Lv.nil,.inr ⟨rfl,2,rfl,Cl.new (nw (nw st0 (mtE a)) (mtE b)) [],Qao _,by rw[f2];decide⟩⟩,?_⟩,by(first|omega|(simp only[jg,jh,jt,jr,jl];first|done|omega)),by(first|exact cyG|fail),?_,?_,?_⟩<;>simp(disch:=decide) only[jb,jf]
 ·obtain⟨⟨v,w,a1,a2⟩,a3,a4,a5,a6,a7⟩:=h;refine⟨⟨v,w,a1,?_⟩,a3,a4,?_,?_,?_⟩<;>simp(disch:=decide) only[jb]<;>assumption
 ·obtain⟨⟨v,w,a1,a2⟩,a3,a4,a5,a6,a7⟩:=h;refine⟨⟨v,w,a1,?_⟩,a3,a4,?_,?_,?_⟩<;>simp(disch:=decide) only[jb]<;>assumption
 ·obtain⟨⟨v,w,V,i8⟩,n3,C1,i0,i5,i22⟩:=hI;have I1:=λst K=>@ix2 a.lo a.hi k hk st K
  (have zz:=C1.r;(repeat'(first|apply jc<;>intro _|simp(disch:=first|exact jO|fail) only[ja i0,ja i5,ja i22,ja hi,I1,C1.q,C1.r,je,jj,ji,jd,jm,jn,jp,jq,jo,rzZ,Qab,Qac,Qad,Qaa,Qae]));all_goals clear zz)
  refine jbq 2 (λj L s=>(∃ v w,Lx 2 s.nx s v w (2 * k+j) (((XO op a b).take (2 * k+j)).map (.int .i64)) 1/\Has L 8 v)/\3<=s.nx/\Cl s 1 (mtE b)/\Has L 0 (.int .i64 op)/\Has L 5 (.ptr 1 0)/\Has L 22 (.agg [.int .i64 a.lo,.int .i64 a.hi])/\Has L 10 (.int .i64 (if k=0 then a.lo else a.hi))/\Has L 30 (.agg [.int .i64 b.lo,.int .i64 b.hi])/\Has L 23 (.int .i64 (k:Int))) (by omega) rfl (by decide) (by simp(disch:=decide) only[jf,jb]) ?_ (λk L s v h=>?_) (λk L s v h=>?_) (λj L s hj hI hij=>?_) (λL s hI=>?_)
  ·refine⟨⟨v,w,V,?_⟩,n3,C1,?_,?_,?_,?_,?_,?_⟩;all_goals first
    |(simp(disch:=decide) only[jb,jf];done)
    |(simp(disch:=decide) only[jb,jf];assumption)
  ·obtain⟨⟨v,w,a1,a2⟩,a3,a4,a5,a6,a7,a8,a9,a10⟩:=h;refine⟨⟨v,w,a1,?_⟩,a3,a4,?_,?_,?_,?_,?_,?_⟩<;>simp(disch:=decide) only[jb]<;>assumption
  ·obtain⟨⟨v,w,a1,a2⟩,a3,a4,a5,a6,a7,a8,a9,a10⟩:=h;refine⟨⟨v,w,a1,?_⟩,a3,a4,?_,?_,?_,?_,?_,?_⟩<;>simp(disch:=decide) only[jb]<;>assumption
  ·obtain⟨⟨v,w,V,j8⟩,n3,C1,j0,j5,j22,j10,j30,j23⟩:=hI;have I2:=λst K=>@ix2 b.lo b.hi j hj st K;have eS:=@jqE op a b k j hk hj;unfold uL at eS;generalize (if k=0 then a.lo else a.hi)=x at *;generalize (if j=0 then b.lo else b.hi)=y at *;obtain⟨m,hm⟩:∃ m,m=s.nx:=⟨_,rfl⟩;have VN:∀ q:Int,Lx 2 m (nw s [.int .i64 q]) v w (2 * k+j) (((XO op a b).take (2 * k+j)).map (.int .i64)) 1:=λq=>by
    rw[hm];exact V.nwO (Qao _) _
   have A:=λst bv xc xx K h hv=>@jja 2 m (2 * k+j) 1 8 bv xc st v w (((XO op a b).take (2 * k+j)).map (.int .i64)) xx K h (by decide) (by omega) (by omega) hv;have put:∀ q:Int,(if op=5 then wq (-x) else if op=15 then wq (x+y) else if op=16 then wq (x - y) else wq (x * y))=q->Lx 2 (s.nx+1+1) (aps w (nw s [.int .i64 q]) [.int .i64 q]) (apv 1 w (nw s [.int .i64 q])) (apv 1 w (nw s [.int .i64 q])) (2 * k+(j+1)) (((XO op a b).take (2 * k+(j+1))).map (.int .i64)) 1:=λq hq=>by
    have h:=(VN q).1.put (news:=[.int .i64 q]) rfl (by rw[jg];omega) (m:=s.nx+1+1) (by rw[jg]);rw[hq] at eS;rw[show 2 * k+(j+1)=2 * k+j+1 from rfl,eS,QbO];exact Lx.lv h
   have CN:∀ q:Int,Cl (aps w (nw s [.int .i64 q]) [.int .i64 q]) 1 (mtE b):=λq=>by
    rw[(VN q).1.cl _ _ _ 1 (.inl (by decide)) (by rw[jg];omega)];exact C1.nw _
   (have zz:=aI @VN C1.r;(repeat'(first|apply jc<;>intro _|simp(disch:=first|exact jO|fail) only[ja j0,ja j8,ja j10,ja j30,ja hij,I2,je9,jfb,jap,jfa,A,C1.q,VN,C1.r,je,jj,ji,jd,jm,jn,jp,jq,jo,rzZ,Qab,Qac,Qad,Qaa,Qae]));all_goals clear zz)
   all_goals
    refine⟨⟨⟨_,_,put _ (by simp[*]),?_⟩,by omega,?_,?_,?_,?_,?_,?_,?_⟩,?_⟩
    ·simp(disch:=decide) only[jb,jf]
    ·exact CN _
    all_goals(simp(disch:=decide) only[jb];assumption)
  ·obtain⟨⟨v,w,V,j8⟩,n3,C1,j0,j5,j22,j10,j30,j23⟩:=hI;repeat'(first|apply jc<;>intro _|simp(disch:=first|exact dzG|fail) only[je,jj,ji,jd,jm,jn,jp,jq,jo,rzZ,Qab,Qac,Qad,Qaa,Qae])
   refine⟨⟨⟨v,w,V,j8⟩,n3,C1,j0,j5,j22⟩,j23⟩
 ·obtain⟨⟨v,w,V,i8⟩,n3,C1,i0,i5,i22⟩:=hI;have e4:(XO op a b).take (2 * 2)=XO op a b:=rfl;rw[e4] at V;obtain⟨V,e⟩:=V;rcases V with ⟨_,h0,_⟩|⟨b',rfl,h0,_,C,hb1,hb2⟩
  ·cases h0
  have e:v=.slice b' 0 (2 * 2) (2 * 2) 1 false:=by
   rcases e with e|⟨h,_⟩
   ·exact e
   ·cases h
  subst e;have f0:rat s.h b' 0=.int .i64 (uL op a.lo b.lo):=C.cell 0 (by simp[XO]);have hlen:qr s.h b'=4:=C.len;have fk:∀ k (h:k<(XO op a b).length),rat s.h b' k=.int .i64 (XO op a b)[k]:=λk h=>by
   rw[C.cell k (by simpa using h)];simp[QaJ,h]
  unfold WC;generalize hl4:XO op a b=l at *;have hl5:l.length=4:=by rw[<-hl4];rfl
  generalize uL op a.lo b.lo=x at *
  (have zz:=@hlen;(repeat'(first|apply jc<;>intro _|simp(disch:=first|exact jO|fail) only[ja i8,f0,hlen,je,jj,ji,jd,jm,jn,jp,jq,jo,rzZ,Qab,Qac,Qad,Qaa,Qae]));all_goals clear zz)
  refine qp 4 (λk L s=>Has L 13 (.int .i64 ((l.take k).foldl min x))/\Has L 14 (.int .i64 ((l.take k).foldl max x))/\Cl s b' (l.map (.int .i64))/\Has L 72 (.slice b' 0 4 4 1 false)) (by first|assumption|omega) (by decide) (by simp(disch:=decide) only[jf,jb]) (by simp(disch:=decide) only[jf,jb]) ?_ (λk L s v h=>(by obtain⟨a1,a2,a3,a4⟩:=h;refine⟨?_,?_,a3,?_⟩<;>simp(disch:=decide) only[jb]<;>assumption)) (λk L s v h=>(by obtain⟨a1,a2,a3,a4⟩:=h;refine⟨?_,?_,a3,?_⟩<;>simp(disch:=decide) only[jb]<;>assumption)) (λk L s hk hI hi hn=>?_) (λL s hI=>?_)
  ·refine⟨?_,?_,C,?_⟩<;>simp(disch:=decide) only[jb,jf,QaZ,List.foldl_nil]
  ·obtain⟨i13,i14,C,i72⟩:=hI;have hk5:k<l.length:=by omega
   have g0:rat s.h b' k=.int .i64 l[k]:=by
    rw[C.cell k (by simpa using hk5)];simp[QaJ,hk5]
   have gl:qr s.h b'=4:=by rw[C.len,QaR,hl5]
   have et:l.take (k+1)=l.take k ++ [l[k]]:=yO hk5
   (have zz:=@gl;(repeat'(first|apply jc<;>intro _|simp(disch:=first|exact jO|fail) only[ja i13,ja i14,ja i72,ja hi,ja hn,g0,gl,je,jj,ji,jd,jm,jn,jp,jq,jo,rzZ,Qab,Qac,Qad,Qaa,Qae]));all_goals clear zz)
   refine⟨⟨?_,?_,C,?_⟩,?_,?_⟩;all_goals first
    |(simp(disch:=decide) only[jb,jf,et,QbX,List.foldl_cons,List.foldl_nil];done)
    |(simp(disch:=decide) only[jb];assumption)
  ·obtain⟨i13,i14,C,i72⟩:=hI;have et:l.take 4=l:=by rw[<-hl5,QaB]
   rw[et] at i13 i14;repeat'(first|apply jc<;>intro _|simp(disch:=first|exact dzG|fail) only[ja i13,ja i14,je,jj,ji,jd,jm,jn,jp,jq,jo,rzZ,Qab,Qac,Qad,Qaa,Qae])
   exact G0.tupi rfl
def clA (op:Int):Bool:=decide (op=5\/op=14\/op=15\/op=16)
def clB (op:Int):Bool:=decide (op=19\/op=20\/op=21\/op=22)
def clC (op:Int):Bool:=decide (op=17\/op=18)
def clD (op:Int):Bool:=decide (op=6\/op=27\/op=28\/op=29\/op=30)
def rok (fm:Bool)(op:Int)(a b:MtT):Bool:=(decide (a.kind=b.kind) && decide (a.enum=b.enum)) && (if clA op ||clB op then decide (a.kind=1) else if clC op then true else if clD op then decide (a.kind=2) else decide (a.kind=2) && fm)
def ZW (op:Int)(a b:MtT):MtT:=if clA op then⟨1,[],(WC op a b).1,(WC op a b).2⟩ else⟨2,[],0,0⟩
def WA (fm:Bool)(op num:Int)(name:List Nat)(l c:Int)(ys:List Ex)(a b:MtT):KR (Ex×MtT):=
 if rok fm op a b=false then .er 163 l c
 else if(ZW op a b).kind=1/\((ZW op a b).lo < -100000000\/100000000<(ZW op a b).hi) then .er 165 l c
 else .ok (.mk op num name ys l c,ZW op a b)
def jbL (vars:List VarT)(enums:List EnumT)(name:List Nat)(l c:Int):KR (Ex×MtT):=
 if(YS vars enums name).2.2=false then .er 161 l c else .ok (.mk (YS vars enums name).1.op (YS vars enums name).1.num [] [] l c,(YS vars enums name).2.1)
mutual
def Ja (vars:List VarT)(enums:List EnumT):Bool->Ex->KR (Ex×MtT)
 |fm,.mk op num name ks l c=>
  if op=1 then .ok (.mk op num name ks l c,⟨1,[],num,num⟩)
  else if op=2 then .ok (.mk op num name ks l c,⟨2,[],0,0⟩)
  else if op=3 then jbL vars enums name l c
  else match qT vars enums (fm && decide (op≠17) && decide (op≠18)) ks with
   |.er a b d=>.er a b d
   |.ok r=>WA fm op num name l c r.1 (r.2.getD 0 mt0) (r.2.getD (r.2.length - 1) mt0)
def qT (vars:List VarT)(enums:List EnumT):Bool->List Ex->KR (List Ex×List MtT)
 |_,[]=>.ok ([],[])
 |fm,x :: xs=>match Ja vars enums fm x with
  |.er a b d=>.er a b d
  |.ok y=>match qT vars enums fm xs with
   |.er a b d=>.er a b d
   |.ok r=>.ok (y.1 :: r.1,y.2 :: r.2)
end
theorem jkC (vars:List VarT)(enums:List EnumT)(fm:Bool)(x:Ex):Ja vars enums fm x=if x.op=1 then .ok (x,⟨1,[],x.num,x.num⟩) else if x.op=2 then .ok (x,⟨2,[],0,0⟩) else if x.op=3 then jbL vars enums x.name x.line x.col else match qT vars enums (fm && decide (x.op≠17) && decide (x.op≠18)) x.kids with
  |.er a b d=>.er a b d
  |.ok r=>WA fm x.op x.num x.name x.line x.col r.1 (r.2.getD 0 mt0) (r.2.getD (r.2.length - 1) mt0):=by
 cases x;rw[Ja];rfl
mutual
theorem kH {vars:List VarT}{enums:List EnumT}:∀ {fm:Bool} {x:Ex} {a b d:Int},Ja vars enums fm x=.er a b d->a≠0
 |fm,.mk op num name ks l c,a,b,d,h=>by
  rw[Ja] at h;split at h
  ·cases h
  ·split at h
   ·cases h
   ·split at h
    ·unfold jbL at h;split at h
     ·cases h;decide
     ·cases h
    ·split at h
     ·rename_i e;cases h;exact KB e
     ·unfold WA at h;split at h
      ·cases h;decide
      ·split at h
       ·cases h;decide
       ·cases h
theorem KB {vars:List VarT}{enums:List EnumT}:∀ {fm:Bool} {xs:List Ex} {a b d:Int},qT vars enums fm xs=.er a b d->a≠0
 |fm,[],a,b,d,h=>by rw[qT] at h;cases h
 |fm,x :: xs,a,b,d,h=>by
  rw[qT] at h;split at h
  ·rename_i e;cases h;exact kH e
  ·split at h
   ·rename_i e;cases h;exact KB e
   ·cases h
end
theorem Hf {vars:List VarT}{enums:List EnumT}{fm:Bool}:∀ {xs:List Ex} {ys:List Ex} {ms:List MtT} {x y:Ex} {m:MtT},qT vars enums fm xs=.ok (ys,ms)->Ja vars enums fm x=.ok (y,m)->qT vars enums fm (xs ++ [x])=.ok (ys ++ [y],ms ++ [m])
 |[],ys,ms,x,y,m,h,h2=>by
  simp only[qT] at h;cases h;simp only[QaF,qT,h2]
 |z :: xs,ys,ms,x,y,m,h,h2=>by
  simp only[qT] at h;cases hz:Ja vars enums fm z with
  |er a b d=>rw[hz] at h;cases h
  |ok w=>
   rw[hz] at h;cases hr:qT vars enums fm xs with
   |er a b d=>rw[hr] at h;cases h
   |ok r=>
    rw[hr] at h;cases h;obtain⟨r1,r2⟩:=r;simp only[Qay,qT,hz,Hf hr h2]
theorem Hg {vars:List VarT}{enums:List EnumT}{fm:Bool}:∀ {xs:List Ex} {ys:List Ex} {ms:List MtT} {x:Ex} {a b d:Int} (zs:List Ex),qT vars enums fm xs=.ok (ys,ms)->Ja vars enums fm x=.er a b d->qT vars enums fm (xs ++ x :: zs)=.er a b d
 |[],ys,ms,x,a,b,d,zs,h,h2=>by simp only[QaF,qT,h2]
 |z :: xs,ys,ms,x,a,b,d,zs,h,h2=>by
  simp only[qT] at h;cases hz:Ja vars enums fm z with
  |er a b d=>rw[hz] at h;cases h
  |ok w=>
   rw[hz] at h;cases hr:qT vars enums fm xs with
   |er a b d=>rw[hr] at h;cases h
   |ok r=>
    rw[hr] at h;cases h;obtain⟨r1,r2⟩:=r;simp only[Qay,qT,hz,Hg zs hr h2]
theorem WB {vars:List VarT}{enums:List EnumT}{fm:Bool}:∀ {xs:List Ex} {ys:List Ex} {ms:List MtT},qT vars enums fm xs=.ok (ys,ms)->ys.length=xs.length/\ms.length=xs.length
 |[],ys,ms,h=>by simp only[qT] at h;cases h;exact⟨rfl,rfl⟩
 |z :: xs,ys,ms,h=>by
  simp only[qT] at h;cases hz:Ja vars enums fm z with
  |er a b d=>rw[hz] at h;cases h
  |ok w=>
   rw[hz] at h;cases hr:qT vars enums fm xs with
   |er a b d=>rw[hr] at h;cases h
   |ok r=>
    rw[hr] at h;cases h;obtain⟨r1,r2⟩:=r;have:=WB hr;simp[this]
mutual
def kdB:Ex->Bool
 |.mk op _ _ ks _ _=>(decide (op=1\/op=2\/op=3) ||decide (ks≠[])) && decide (ks.length<=2) && jfH ks
def jfH:List Ex->Bool
 |[]=>true
 |x :: xs=>kdB x && jfH xs
end
theorem jco:∀ xs,jfH xs=xs.all kdB
 |[]=>rfl
 |x :: xs=>by rw[jfH,Qbb,jco]
theorem jh8 (x:Ex):kdB x=((decide (x.op=1\/x.op=2\/x.op=3) ||decide (x.kids≠[])) && decide (x.kids.length<=2) && x.kids.all kdB):=by cases x;rw[kdB,jco];rfl
def rxV:KR (Ex×MtT)->AV
 |.ok r=>.tup [.agg (eE r.1),.agg (mtE r.2),.agg [.int .i64 0,.int .i64 0,.int .i64 0]]
 |.er a b d=>.tup [.agg (eE (.mk 0 0 [] [] 0 0)),.agg (mtE mt0),.agg [.int .i64 a,.int .i64 b,.int .i64 d]]
theorem Kz {s:St}{r:KR (Ex×MtT)}{a b d:Int}{u:AV}(hu:u=.tup [.agg [.int .i64 0,.int .i64 0,.str [],.nils,.int .i64 0,.int .i64 0],.agg [.int .i64 0,.str [],.int .i64 0,.int .i64 0],.agg [.int .i64 a,.int .i64 b,.int .i64 d]])(h:r=.er a b d):G0 (rxV r) u s:=by
 subst hu h;exact FzD.tup (.cons (FzD.agg (.cons (.pc rfl) (.cons (.pc rfl) (.cons (.pc rfl) (.cons FzD.nils (.cons (.pc rfl) (.cons (.pc rfl) .nil))))))) (.cons (FzD.agg (.pc rfl)) (.cons (FzD.agg (.pc rfl)) .nil)))
theorem jaD {s:St}{r:KR (Ex×MtT)}{y:Ex}{m:MtT}{c:List AV}{u:AV}(hc:FzsD 0 7 s c (eE y))(hu:u=.tup [.agg c,.agg (mtE m),.agg [.int .i64 0,.int .i64 0,.int .i64 0]])(h:r=.ok (y,m)):G0 (rxV r) u s:=by
 subst hu h;exact FzD.tup (.cons (FzD.agg hc) (.cons (FzD.agg (.pc rfl)) (.cons (FzD.agg (.pc rfl)) .nil)))
theorem jrS:Go.Ev.isAgg Qaf 42=some true:=by kernel_rfl
theorem jrR:Go.Ev.sizeOf Qaf 42=some 4:=by kernel_rfl
theorem jku {b:Nat}{k lo hi:Int}{e:List Nat}{h:T AO}(ho:0+4<=qr h b)(hv:rats h b 0 4=[.int .i64 k,.str e,.int .i64 lo,.int .i64 hi]):(jZ Qaf 42 (.ptr b 0) (.agg [.int .i64 k,.str e,.int .i64 lo,.int .i64 hi]) h=true)=True:=eq_true (XP jrS jrR (by decide) ho hv rfl)
structure EX6 (x:Ex)(ys:List Ex)(vk:AV)(hi:Nat)(L:Sl)(s:St):Prop where
 n7:7<=hi
 nx:hi<=s.nx
 c1:Cl s 1 (eE x)
 c2:Cl s 2 z6
 c3:Cl s 3 z4
 c4:Cl s 4 [.int .i64 0,.int .i64 0,.int .i64 0]
 c5:Cl s 5 [.int .i64 x.op,.int .i64 x.num,.str x.name,vk,.int .i64 x.line,.int .i64 x.col]
 lk:Lv 7 hi s vk ys.length (fl eE ys) 6
 i4:Has L 4 (.ptr 1 0)
 i6:Has L 6 (.ptr 2 0)
 i7:Has L 7 (.ptr 3 0)
 i8:Has L 8 (.ptr 4 0)
 i12:Has L 12 (.ptr 5 0)
section
variable {x:Ex} {ys:List Ex} {vk:AV} {hi:Nat} {L:Sl} {s:St}
theorem EX6.nw (S:EX6 x ys vk hi L s)(ds:List AV):EX6 x ys vk hi L (Go.Sy.nw s ds):=by
 obtain⟨n7,nx,c1,c2,c3,c4,c5,lk,i4,i6,i7,i8,i12⟩:=S;exact⟨n7,by rw[jg];omega,c1.nw _,c2.nw _,c3.nw _,c4.nw _,c5.nw _,by rw[jE nx];exact lk,i4,i6,i7,i8,i12⟩
theorem EX6.wr (S:EX6 x ys vk hi L s){c o:Nat}{ds:List AV}(hc:hi<=c):EX6 x ys vk hi L (Go.Sy.wr s c o ds):=by
 obtain⟨n7,nx,c1,c2,c3,c4,c5,lk,i4,i6,i7,i8,i12⟩:=S;exact⟨n7,by rw[jh];omega,c1.wrO (by omega) _ _,c2.wrO (by omega) _ _,c3.wrO (by omega) _ _,c4.wrO (by omega) _ _,c5.wrO (by omega) _ _,by rw[jz (.inr hc)];exact lk,i4,i6,i7,i8,i12⟩
theorem EX6.push (S:EX6 x ys vk hi L s){c:Nat}{v:AV}(h:c≠4/\c≠6/\c≠7/\c≠8/\c≠12):EX6 x ys vk hi ((c,v) :: L) s:=by
 obtain⟨n7,nx,c1,c2,c3,c4,c5,lk,i4,i6,i7,i8,i12⟩:=S;obtain⟨h1,h2,h3,h4,h5⟩:=h;exact⟨n7,nx,c1,c2,c3,c4,c5,lk,by rw[jb h1];exact i4,by rw[jb h2];exact i6,by rw[jb h3];exact i7,by rw[jb h4];exact i8,by rw[jb h5];exact i12⟩
end
abbrev rxQ (r:KR (Ex×MtT)):Out->Prop:=QU Qaf jbl.res (Q1 G0 (.ok (rxV r)))
abbrev rxP (r:KR (Ex×MtT)):AV->Sl->St->Prop:=λv _ s=>QX G0 (.ok (rxV r)) v s.bare
set_option maxHeartbeats 8000000 in
theorem jpI (hb:NB base){x:Ex}{ys:List Ex}{vk:AV}{hi p:Nat}{L:Sl}{s:St}(S:EX6 x ys vk hi L s){ok:Bool}{own:MtT}(C:Cl s p (mtE own))(hp:6<=p)(i22:Has L 22 (.bool ok))(i23:Has L 23 (.ptr p 0)){r:KR (Ex×MtT)}
  (hr:r=if ok=false then .er 163 x.line x.col else if own.kind=1/\(own.lo < -100000000\/100000000<own.hi) then .er 165 x.line x.col else .ok (.mk x.op x.num x.name ys x.line x.col,own)):xC Qaf base Kb L s (rxQ r) (rxP r):=by
 obtain⟨n7,nx,c1,c2,c3,c4,c5,lk,i4,i6,i7,i8,i12⟩:=S;have hpn:=C.lt;have F:=jes hb;unfold z6 at c2;unfold z4 at c3;unfold rxQ rxP;unfold jbl;rw[(by unfold Kb;simp only[qq];rfl:Kb=_)];have vc:∀ l,lall AV.cell (vk :: l)=lall AV.cell l:=λl=>by show cond vk.cell _ false=_;rw[lk.cell];rfl
 have vk6:=λm d hm=>lk.fz (m:=m) (d:=d) hm (zp qO ys);have fin:∀ (s':St) (m:MtT),r=.ok (.mk x.op x.num x.name ys x.line x.col,m)->Lv 7 hi s' vk ys.length (fl eE ys) 6->G0 (rxV r) (.tup [.agg [.int .i64 x.op,.int .i64 x.num,.str x.name,vk,.int .i64 x.line,.int .i64 x.col],.agg (mtE m),.agg [.int .i64 0,.int .i64 0,.int .i64 0]]) s':=λs' m h V=>jaD (by
  rw[qE];exact .cons (.pc rfl) (.cons (.pc rfl) (.cons (.pc rfl) (.cons (V.fz (QaG _) (zp qO ys)) (.cons (.pc rfl) (.cons (.pc rfl) .nil)))))) rfl h
 cases ok with
 |false=>
  rw[if_pos rfl] at hr
  (have zz:=aI @c1.r (aI @c2.r (aI @c3.r @c4.r));(repeat'(first|apply jc<;>intro _|simp(disch:=first|exact jO|fail) only[ja i4,ja i6,ja i7,ja i8,ja i22,F,c1.q,c2.q,c3.q,c4.q,c1.r,c2.r,c3.r,c4.r,je,jj,ji,jd,jm,jn,jp,jq,jo,rzZ,Qab,Qac,Qad,Qaa,Qae]));all_goals clear zz)
  exact Kz rfl hr
 |true=>
  rw[if_neg (by decide)] at hr;obtain⟨k,e,lo,hiv⟩:=own;dsimp only at hr;have q1:rats s.h p 0 4=[.int .i64 k,.str e,.int .i64 lo,.int .i64 hiv]:=C.rats0 rfl;have q2:qr s.h p=4:=C.len;by_cases g1:k=1
  ·by_cases g2:lo < -100000000
   ·rw[if_pos ⟨g1,.inl g2⟩] at hr
    (have zz:=aI @c1.r (aI @c2.r (aI @c3.r (aI @c4.r C.r)));(repeat'(first|apply jc<;>intro _|simp(disch:=first|exact jO|fail) only[ja i4,ja i6,ja i7,ja i8,ja i22,ja i23,g1,g2,F,c1.q,c2.q,c3.q,c4.q,C.q,c1.r,c2.r,c3.r,c4.r,C.r,je,jj,ji,jd,jm,jn,jp,jq,jo,rzZ,Qab,Qac,Qad,Qaa,Qae]));all_goals clear zz)
    exact Kz rfl hr
   ·by_cases g3:100000000<hiv
    ·rw[if_pos ⟨g1,.inr g3⟩] at hr
     (have zz:=aI @c1.r (aI @c2.r (aI @c3.r (aI @c4.r C.r)));(repeat'(first|apply jc<;>intro _|simp(disch:=first|exact jO|fail) only[ja i4,ja i6,ja i7,ja i8,ja i22,ja i23,g1,g2,g3,F,c1.q,c2.q,c3.q,c4.q,C.q,c1.r,c2.r,c3.r,c4.r,C.r,je,jj,ji,jd,jm,jn,jp,jq,jo,rzZ,Qab,Qac,Qad,Qaa,Qae]));all_goals clear zz)
     exact Kz rfl hr
    ·rw[if_neg (λh=>h.2.elim g2 g3)] at hr;subst g1
     (have zz:=aI @q1 (aI @q2 (aI @vc (aI @lk.plain (aI @lk.cells (aI @c1.r (aI @c2.r (aI @c3.r (aI @c4.r (aI @c5.r C.r)))))))));(repeat'(first|apply jc<;>intro _|simp(disch:=first|exact jO|fail) only[ja i4,ja i6,ja i7,ja i8,ja i12,ja i22,ja i23,g2,g3,jku,Vt i23,c1.q,c2.q,c3.q,c4.q,c5.q,C.q,q1,q2,vc,lk.plain,lk.cells,c1.r,c2.r,c3.r,c4.r,c5.r,C.r,je,jj,ji,jd,jm,jn,jp,jq,jo,rzZ,Qab,Qac,Qad,Qaa,Qae]));all_goals clear zz)
     refine fin _ ⟨1,e,lo,hiv⟩ hr ?_;simp(disch:=omega) only[jG,jz];exact lk
  ·rw[if_neg (λh=>g1 h.1)] at hr
   (have zz:=aI @q1 (aI @q2 (aI @vc (aI @lk.plain (aI @lk.cells (aI @c1.r (aI @c2.r (aI @c3.r (aI @c4.r (aI @c5.r C.r)))))))));(repeat'(first|apply jc<;>intro _|simp(disch:=first|exact jO|fail) only[ja i4,ja i6,ja i7,ja i8,ja i12,ja i22,ja i23,g1,jku,Vt i23,c1.q,c2.q,c3.q,c4.q,c5.q,C.q,q1,q2,vc,lk.plain,lk.cells,c1.r,c2.r,c3.r,c4.r,c5.r,C.r,je,jj,ji,jd,jm,jn,jp,jq,jo,rzZ,Qab,Qac,Qad,Qaa,Qae]));all_goals clear zz)
   refine fin _ ⟨k,e,lo,hiv⟩ hr ?_;simp(disch:=omega) only[jG,jz];exact lk
set_option maxHeartbeats 16000000 in
theorem jpJ (hb:NB base){x:Ex}{ys:List Ex}{vk:AV}{hi p pa pb:Nat}{L:Sl}{s:St}{fm:Bool}{a b:MtT}(S:EX6 x ys vk hi L s)(C:Cl s p [.int .i64 2,.str [],.int .i64 0,.int .i64 0])(hp:hi<=p)(Ca:Cl s pa (mtE a))(Cb:Cl s pb (mtE b))(ha:pa≠p)(hb2:pb≠p)
  (i2:Has L 2 (.bool fm)) (i19:Has L 19 (.ptr pa 0)) (i20:Has L 20 (.ptr pb 0)) (i21:Has L 21 (.bool (decide (a.kind=b.kind) && decide (a.enum=b.enum)))) (i23:Has L 23 (.ptr p 0)) {r:KR (Ex×MtT)}
  (hr:r=WA fm x.op x.num x.name x.line x.col ys a b):xC Qaf base jal L s (rxQ r) (rxP r):=by
 have n7:=S.n7;have i4:=S.i4;have c1:=S.c1;have F:=jqD hb x.op a b;have hpn:=C.lt;unfold WA at hr;have D:∀ {L':Sl} {s':St} {ok:Bool} {own:MtT},EX6 x ys vk hi L' s'->Cl s' p (mtE own)->Has L' 22 (.bool ok)->Has L' 23 (.ptr p 0)->ok=rok fm x.op a b->own=ZW x.op a b->xC Qaf base Kb L' s' (rxQ r) (rxP r):=by
  intro L' s' ok own S' C' h22 h23 e1 e2;subst e1 e2;exact jpI hb S' C' (by omega) h22 h23 hr
 clear hr;unfold rok ZW clA clB clC clD at D;unfold mtE at F;rw[(by unfold jal;simp only[qq];rfl:jal=_)];generalize hsm:(decide (a.kind=b.kind) && decide (a.enum=b.enum))=same at *;by_cases gA:x.op=5\/x.op=14\/x.op=15\/x.op=16
 ·rcases gA with g|g|g|g
  all_goals
   cases same;all_goals
    rw[g] at F
    (have zz:=aI @ha (aI @hb2 (aI @c1.r (aI @Ca.r (aI @Cb.r C.r))));(repeat'(first|apply jc<;>intro _|simp(disch:=first|exact jO|fail) only[ja i2,ja i4,ja i19,ja i20,ja i21,ja i23,g,F,c1.q,Ca.q,Cb.q,C.q,ha,hb2,c1.r,Ca.r,Cb.r,C.r,je,jj,ji,jd,jm,jn,jp,jq,jo,rzZ,Qab,Qac,Qad,Qaa,Qae]));all_goals clear zz)
    refine D (own:=⟨1,[],(WC x.op a b).1,(WC x.op a b).2⟩) ?_ ?_ (Has.here _ _ _) ?_ ?_ ?_
    ·repeat' first|exact S|(refine EX6.push ?_ (by decide))|(refine EX6.wr ?_ (by assumption))
    ·rw[g];exact((C.wr 0 _).wr 2 _).wr 3 _
    ·simp(disch:=decide) only[jb];exact i23
    ·simp[g]
    ·simp[g]
 ·by_cases gB:x.op=19\/x.op=20\/x.op=21\/x.op=22
  ·rcases gB with g|g|g|g
   all_goals
    cases same;all_goals
     (have zz:=aI @c1.r (aI @Ca.r (aI @Cb.r C.r));(repeat'(first|apply jc<;>intro _|simp(disch:=first|exact jO|fail) only[ja i2,ja i4,ja i19,ja i20,ja i21,ja i23,g,c1.q,Ca.q,Cb.q,C.q,c1.r,Ca.r,Cb.r,C.r,je,jj,ji,jd,jm,jn,jp,jq,jo,rzZ,Qab,Qac,Qad,Qaa,Qae]));all_goals clear zz)
     all_goals
      refine D (own:=⟨2,[],0,0⟩) ?_ C (Has.here _ _ _) ?_ ?_ ?_
      ·repeat' first|exact S|(refine EX6.push ?_ (by decide))
      ·simp(disch:=decide) only[jb];exact i23
      ·simp[g]
      ·simp[g]
  ·by_cases gC:x.op=17\/x.op=18
   ·rcases gC with g|g
    all_goals
     (have zz:=aI @c1.r (aI @Ca.r (aI @Cb.r C.r));(repeat'(first|apply jc<;>intro _|simp(disch:=first|exact jO|fail) only[ja i2,ja i4,ja i19,ja i20,ja i21,ja i23,g,c1.q,Ca.q,Cb.q,C.q,c1.r,Ca.r,Cb.r,C.r,je,jj,ji,jd,jm,jn,jp,jq,jo,rzZ,Qab,Qac,Qad,Qaa,Qae]));all_goals clear zz)
     refine D (own:=⟨2,[],0,0⟩) ?_ C (Has.here _ _ _) ?_ ?_ ?_
     ·repeat' first|exact S|(refine EX6.push ?_ (by decide))
     ·simp(disch:=decide) only[jb];exact i23
     ·simp[g]
     ·simp[g]
   ·by_cases gD:x.op=6\/x.op=27\/x.op=28\/x.op=29\/x.op=30
    ·rcases gD with g|g|g|g|g
     all_goals
      cases same;all_goals
       (have zz:=aI @c1.r (aI @Ca.r (aI @Cb.r C.r));(repeat'(first|apply jc<;>intro _|simp(disch:=first|exact jO|fail) only[ja i2,ja i4,ja i19,ja i20,ja i21,ja i23,g,c1.q,Ca.q,Cb.q,C.q,c1.r,Ca.r,Cb.r,C.r,je,jj,ji,jd,jm,jn,jp,jq,jo,rzZ,Qab,Qac,Qad,Qaa,Qae]));all_goals clear zz)
       all_goals
        refine D (own:=⟨2,[],0,0⟩) ?_ C (Has.here _ _ _) ?_ ?_ ?_
        ·repeat' first|exact S|(refine EX6.push ?_ (by decide))
        ·simp(disch:=decide) only[jb];exact i23
        ·simp[g]
        ·simp[g]
    ·simp only[not_or] at gA gB gC gD;obtain⟨g1,g2,g3,g4⟩:=gA;obtain⟨g5,g6,g7,g8⟩:=gB;obtain⟨g9,g10⟩:=gC;obtain⟨g11,g12,g13,g14,g15⟩:=gD;cases same;all_goals
      (have zz:=aI @c1.r (aI @Ca.r (aI @Cb.r C.r));(repeat'(first|apply jc<;>intro _|simp(disch:=first|exact jO|fail) only[ja i2,ja i4,ja i19,ja i20,ja i21,ja i23,g1,g2,g3,g4,g5,g6,g7,g8,g9,g10,g11,g12,g13,g14,g15,c1.q,Ca.q,Cb.q,C.q,c1.r,Ca.r,Cb.r,C.r,je,jj,ji,jd,jm,jn,jp,jq,jo,rzZ,Qab,Qac,Qad,Qaa,Qae]));all_goals clear zz)
      all_goals
       refine D (own:=⟨2,[],0,0⟩) ?_ C (Has.here _ _ _) ?_ ?_ ?_
       ·repeat' first|exact S|(refine EX6.push ?_ (by decide))
       ·simp(disch:=decide) only[jb];exact i23
       ·simp[*]
       ·simp[*]
end Go.Sy
end
noncomputable section
set_option maxRecDepth 100000
namespace Go.Sy
open Go.Ev Go.Proofs
variable {base:Bs}
set_option maxHeartbeats 8000000 in
theorem jpK (hb:NB base){x:Ex}{ys:List Ex}{ms:List MtT}{vk:AV}{hi bm:Nat}{L:Sl}{s:St}{fm:Bool}(S:EX6 x ys vk hi L s)(C:Cl s bm (fl mtE ms))(hm:bm<hi)(hn:0<ms.length)(hl:ms.length<=1000000)
  (i2:Has L 2 (.bool fm)) (i13:Has L 13 (.slice bm 0 ms.length ms.length 4 false)) {r:KR (Ex×MtT)}
  (hr:r=WA fm x.op x.num x.name x.line x.col ys (ms.getD 0 mt0) (ms.getD (ms.length - 1) mt0)):xC Qaf base jam L s (rxQ r) (rxP r):=by
 have q0:rats s.h bm 0 4=mtE ms[0]:=by
  rw[C.ratsP 4 0 (by rw[zF JL];omega)];exact gy (i:=0) JL hn
 have q1:rats s.h bm ((ms.length - 1) * 4) 4=mtE (ms[ms.length - 1]'(by omega)):=by
  rw[C.ratsP 4 _ (by rw[zF JL];omega)];exact gy JL (by omega)
 have q2:qr s.h bm=ms.length * 4:=by rw[C.len,zF JL]
 rw[Qau,Qas hn,Qau,Qas (show ms.length - 1<ms.length by omega)] at hr;dsimp only[Qbc] at hr;generalize ms[0]=a at *;generalize ms[ms.length - 1]'(_)=b at *;have nx:=S.nx;have n7:=S.n7;have hbn:=C.lt;have e1:((ms.length:Int) - 1).toNat=ms.length - 1:=by omega
 obtain⟨t1,h1⟩:∃ t,t=wr (nw s [.int .i64 0,.str [],.int .i64 0,.int .i64 0]) s.nx 0 (mtE a):=⟨_,rfl⟩;obtain⟨t2,h2⟩:∃ t,t=wr (nw t1 [.int .i64 0,.str [],.int .i64 0,.int .i64 0]) (s.nx+1) 0 (mtE b):=⟨_,rfl⟩;obtain⟨t3,h3⟩:∃ t,t=wr (nw t2 [.int .i64 0,.str [],.int .i64 0,.int .i64 0]) (s.nx+1+1) 0 [.int .i64 2,.str [],.int .i64 0,.int .i64 0]:=⟨_,rfl⟩;have n1:t1.nx=s.nx+1:=by rw[h1,jh,jg]
 have n2:t2.nx=s.nx+1+1:=by rw[h2,jh,jg,n1]
 have S1:EX6 x ys vk hi L t1:=by rw[h1];exact(S.nw _).wr nx
 have S2:EX6 x ys vk hi L t2:=by rw[h2];exact(S1.nw _).wr (by omega)
 have S3:EX6 x ys vk hi L t3:=by rw[h3];exact(S2.nw _).wr (by omega)
 have A1:Cl t1 s.nx (mtE a):=by rw[h1];exact(Cl.new s [.int .i64 0,.str [],.int .i64 0,.int .i64 0]).wr0 rfl
 have A2:Cl t2 s.nx (mtE a):=by rw[h2];exact(A1.nw _).wrO (by omega) _ _
 have A3:Cl t3 s.nx (mtE a):=by rw[h3];exact(A2.nw _).wrO (by omega) _ _
 have B2:Cl t2 (s.nx+1) (mtE b):=by rw[h2,<-n1];exact(Cl.new t1 [.int .i64 0,.str [],.int .i64 0,.int .i64 0]).wr0 rfl
 have B3:Cl t3 (s.nx+1) (mtE b):=by rw[h3];exact(B2.nw _).wrO (by omega) _ _
 have D3:Cl t3 (s.nx+1+1) [.int .i64 2,.str [],.int .i64 0,.int .i64 0]:=by rw[h3,<-n2];exact(Cl.new t2 [.int .i64 0,.str [],.int .i64 0,.int .i64 0]).wr0 rfl
 rw[(by unfold jam;simp only[qq];rfl:jam=_)]
 (have zz:=aI @q0 (aI @q1 @q2);(repeat'(first|apply jc<;>intro _|simp(disch:=first|exact jO|fail) only[ja i13,e1,q0,q1,q2,je,jj,ji,jd,jm,jn,jp,jq,jo,rzZ,Qab,Qac,Qad,Qaa,Qae]));all_goals clear zz)
 all_goals
  rw[<-h1,<-h2,<-h3];refine jpJ hb (vk:=vk) (p:=s.nx+1+1) (pa:=s.nx) (pb:=s.nx+1) (fm:=fm) (hi:=hi) (a:=a) (b:=b) (((((S3.push (by decide)).push (by decide)).push (by decide)).push (by decide)).push (by decide)) D3 (by omega) A3 B3 (by omega) (by omega) ?_ ?_ ?_ ?_ ?_ hr;all_goals clear S S1 S2 S3 A1 A2 A3 B2 B3 D3 C hr q0 q1 q2 h1 h2 h3 e1
  all_goals first
   |(simp(disch:=decide) only[jb];assumption)
   |(simp(disch:=decide) only[jb,jf];done)
   |(simp(disch:=decide) only[jb];simp[*];exact Has.here _ _ _)
end Go.Sy
end
noncomputable section
set_option maxRecDepth 100000
namespace Go.Sy
open Go.Ev Go.Proofs
variable {base:Bs}
structure EL (m:ModT)(x:Ex)(fm:Bool)(ys:List Ex)(ms:List MtT)(vk vm wm:AV)(hi:Nat)(L:Sl)(s:St):Prop where
 e:EX6 x ys vk hi L s
 c0:Cl s 0 (mdE m)
 lm:Lv 7 hi s wm ms.length (fl mtE ms) 4
 le:vm=wm\/(wm=.nils/\vm=.slice 6 0 0 0 4 true/\Cl s 6 [])
 df:Df vk wm
 i2:Has L 2 (.bool fm)
 i3:Has L 3 (.ptr 0 0)
 i13:Has L 13 vm
section
variable {m:ModT} {x:Ex} {fm:Bool} {ys:List Ex} {ms:List MtT} {vk vm wm:AV} {hi:Nat} {L:Sl} {s:St}
theorem EL.nw (S:EL m x fm ys ms vk vm wm hi L s)(ds:List AV):EL m x fm ys ms vk vm wm hi L (Go.Sy.nw s ds):=by
 obtain⟨e,c0,lm,le,df,i2,i3,i13⟩:=S;exact⟨e.nw ds,c0.nw _,by rw[jE e.nx];exact lm,le.imp id λ⟨a,b,C⟩=>⟨a,b,C.nw _⟩,df,i2,i3,i13⟩
theorem EL.wr (S:EL m x fm ys ms vk vm wm hi L s){c o:Nat}{ds:List AV}(hc:hi<=c):EL m x fm ys ms vk vm wm hi L (Go.Sy.wr s c o ds):=by
 obtain⟨e,c0,lm,le,df,i2,i3,i13⟩:=S;have:=e.n7;exact⟨e.wr hc,c0.wrO (by omega) _ _,by rw[jz (.inr hc)];exact lm,le.imp id λ⟨a,b,C⟩=>⟨a,b,C.wrO (by omega) _ _⟩,df,i2,i3,i13⟩
theorem EL.push (S:EL m x fm ys ms vk vm wm hi L s){c:Nat}{v:AV}(h:(c≠4/\c≠6/\c≠7/\c≠8/\c≠12)/\c≠2/\c≠3/\c≠13):EL m x fm ys ms vk vm wm hi ((c,v) :: L) s:=by
 obtain⟨e,c0,lm,le,df,i2,i3,i13⟩:=S;exact⟨e.push h.1,c0,lm,le,df,by rw[jb h.2.1];exact i2,by rw[jb h.2.2.1];exact i3,by rw[jb h.2.2.2];exact i13⟩
theorem EL.kid (S:EL m x fm ys ms vk vm wm hi L s)(y:Ex):EL m x fm (ys ++ [y]) ms (apv 6 vk s) vm wm (s.nx+1) L (Go.Sy.wr (Go.Sy.aps vk s (eE y)) 5 3 [apv 6 vk s]):=by
 obtain⟨⟨n7,nx,c1,c2,c3,c4,c5,lk,i4,i6,i7,i8,i12⟩,c0,lm,le,df,i2,i3,i13⟩:=S;have hn:(Go.Sy.wr (Go.Sy.aps vk s (eE y)) 5 3 [apv 6 vk s]).nx=s.nx+1:=by rw[jh,jr]
 have cq:∀ c ds,Cl s c ds->c<7->c≠5->Cl (Go.Sy.wr (Go.Sy.aps vk s (eE y)) 5 3 [apv 6 vk s]) c ds:=λc ds C h h3=>by
  rw[jB h3,lk.cl s (eE y) ds c (.inl h) (by omega)];exact C
 refine⟨⟨by omega,by omega,cq _ _ c1 (by omega) (by omega),cq _ _ c2 (by omega) (by omega),cq _ _ c3 (by omega) (by omega),cq _ _ c4 (by omega) (by omega),?_,?_,i4,i6,i7,i8,i12⟩,cq _ _ c0 (by omega) (by omega),?_,le.imp id λ⟨a,b,C⟩=>⟨a,b,cq _ _ C (by omega) (by omega)⟩,(Df.put lm nx).1,i2,i3,i13⟩
 ·have:=(cast (lk.cl s (eE y) _ 5 (.inl (by omega)) (by omega)).symm c5:Cl (Go.Sy.aps vk s (eE y)) 5 _);exact this.wr 3 [apv 6 vk s]
 ·rw[jz (.inl (by omega)),Qal,Qd,JG];exact lk.put (zw y) (by omega) rfl
 ·rw[jz (.inl (by omega))];exact(lm.apsD df).up (by omega)
theorem EL.mt (S:EL m x fm ys ms vk vm wm hi L s)(t:MtT):EL m x fm ys (ms ++ [t]) vk (apv 4 wm s) (apv 4 wm s) (s.nx+1) ((13,apv 4 wm s) :: L) (Go.Sy.aps wm s (mtE t)):=by
 obtain⟨⟨n7,nx,c1,c2,c3,c4,c5,lk,i4,i6,i7,i8,i12⟩,c0,lm,le,df,i2,i3,i13⟩:=S;have hn:(Go.Sy.aps wm s (mtE t)).nx=s.nx+1:=by rw[jr]
 have cq:∀ c ds,Cl s c ds->c<7->Cl (Go.Sy.aps wm s (mtE t)) c ds:=λc ds C h=>by
  rw[lm.cl s (mtE t) ds c (.inl h) (by omega)];exact C
 refine⟨⟨by omega,by omega,cq _ _ c1 (by omega),cq _ _ c2 (by omega),cq _ _ c3 (by omega),cq _ _ c4 (by omega),cq _ _ c5 (by omega),(lk.apsD (Df.symm df)).up (by omega),?_,?_,?_,?_,?_⟩,cq _ _ c0 (by omega),?_,.inl rfl,(Df.put lk nx).2,?_,?_,by rw[jf];trivial⟩;all_goals first
  |(rw[jb (by decide)];assumption)
  |skip
 rw[Qal,Qd,JG];exact lm.put (JL t) (by omega) rfl
theorem EL.lx (S:EL m x fm ys ms vk vm wm hi L s):Lx 6 hi s vm wm ms.length (fl mtE ms) 4:=⟨S.lm.low (by omega),S.le.imp id λ⟨a,b,C⟩=>⟨a,6,b,C,Qao _,by have:=S.e.n7;omega⟩⟩
end
def RE (base:Bs)(m:ModT)(x:Ex):Prop:=∀ fm,Tot base 14 [.agg (mdE m),.agg (eE x),.bool fm] (rxV (Ja m.vars m.enums fm x))
set_option maxHeartbeats 16000000 in
theorem jpL (hb:NB base){m:ModT}{x:Ex}{fm:Bool}{vm:AV}{hi:Nat}{L:Sl}{s:St}(ih:∀ k∈x.kids,RE base m k)(hk0:x.kids≠[])(hw:x.kids.length<=1000000)(S:EL m x fm [] [] .nils vm .nils hi L s){r:KR (Ex×MtT)}
  (hr:r=match qT m.vars m.enums (fm && decide (x.op≠17) && decide (x.op≠18)) x.kids with
   |.er a b d=>.er a b d
   |.ok r=>WA fm x.op x.num x.name x.line x.col r.1 (r.2.getD 0 mt0) (r.2.getD (r.2.length - 1) mt0)):xC Qaf base jan L s (rxQ r) (rxP r):=by
 have c1:=S.e.c1;have i4:=S.e.i4;rw[(by unfold jan;simp only[qq];rfl:jan=_)]
 (have zz:=@c1.r;(repeat'(first|apply jc<;>intro _|simp(disch:=first|exact jO|fail) only[ja i4,c1.q,c1.r,je,jj,ji,jd,jm,jn,jp,jq,jo,rzZ,Qab,Qac,Qad,Qaa,Qae]));all_goals clear zz)
 obtain⟨fm2,hf2⟩:∃ b,b=(fm && decide (x.op≠17) && decide (x.op≠18)):=⟨_,rfl⟩;rw[<-hf2] at hr;have h3:(fm=false/\fm2=false/\True)\/(fm=true/\fm2=false/\x.op=17)\/(fm=true/\fm2=decide (¬ x.op=18)/\¬ x.op=17):=by
  rw[hf2];cases fm<;>by_cases h:x.op=17<;>simp[h]
 refine qp x.kids.length (λk L s=>∃ ys ms vk vm wm hi,EL m x fm ys ms vk vm wm hi L s/\qT m.vars m.enums fm2 (x.kids.take k)=.ok (ys,ms)/\Has L 82 (.lst x.kids.length (fl eE x.kids))) (by first|assumption|omega) (by decide) (by simp(disch:=decide) only[jf,jb]) (by simp(disch:=decide) only[jf,jb]) ?_ (λk L s v h=>(by obtain⟨ys,ms,vk,vm,wm,hi,h1,h2,h3⟩:=h;exact⟨ys,ms,vk,vm,wm,hi,h1.push (by decide),h2,by simp(disch:=decide) only[jb];exact h3⟩)) (λk L s v h=>(by obtain⟨ys,ms,vk,vm,wm,hi,h1,h2,h3⟩:=h;exact⟨ys,ms,vk,vm,wm,hi,h1.push (by decide),h2,by simp(disch:=decide) only[jb];exact h3⟩)) (λk L s hk hI hi hn=>?_) (λL s hI=>?_)
 ·refine⟨[],[],.nils,vm,.nils,hi,((S.push (by decide)).push (by decide)).push (by decide),by rw[QaZ,qT],?_⟩;simp(disch:=decide) only[jb,jf]
 ·rename_i hi0 _;obtain⟨ys,ms,vk,vm,wm,hb2,S,he,j82⟩:=hI;have n7:=S.e.n7;have nx:=S.e.nx;have c0:=S.c0;have c1:=S.e.c1;have c2:=S.e.c2;have c3:=S.e.c3;have c4:=S.e.c4;have c5:=S.e.c5;have j2:=S.i2;have j3:=S.i3;have j4:=S.e.i4;have j6:=S.e.i6;have j7:=S.e.i7;have j8:=S.e.i8;have j12:=S.e.i12;have j13:=S.i13;have E:=ih x.kids[k] (Qax hk) fm2;have hlen:=WB he;rw[QaH,QbM (by omega)] at hlen;unfold z6 at c2;unfold z4 at c3;cases hx:Ja m.vars m.enums fm2 x.kids[k] with
  |er a b d=>
   rw[hx] at E;have E:Tot base 14 [.agg (mdE m),.agg (eE x.kids[k]),.bool fm2] (.tup [.agg (eE (.mk 0 0 [] [] 0 0)),.agg (mtE mt0),.agg [.int .i64 a,.int .i64 b,.int .i64 d]]):=E;have e:qT m.vars m.enums fm2 x.kids=.er a b d:=by
    have:=Hg (x.kids.drop (k+1)) he hx;rwa [Qby,Qbn] at this
   have ha:=kH hx;have N:=jhP hb a b d;rw[decide_eq_false (λh=>ha h.1)] at N;unfold mdE at E;rw[e] at hr;dsimp only at hr;rcases h3 with ⟨rfl,e2,g⟩|⟨rfl,e2,g⟩|⟨rfl,e2,g⟩
   all_goals
    rw[e2] at E
    (have zz:=aI @c0.r (aI @c1.r (aI @c2.r (aI @c3.r @c4.r)));(repeat'(first|apply jc<;>intro _|simp(disch:=first|exact jO|fail) only[ja j2,ja j3,ja j4,ja j82,ja hi,ja hn,g,E,vS,vR,vQ,N,Yl,ja j6,ja j7,ja j8,c0.q,c1.q,c2.q,c3.q,c4.q,c0.r,c1.r,c2.r,c3.r,c4.r,je,jj,ji,jd,jm,jn,jp,jq,jo,rzZ,Qab,Qac,Qad,Qaa,Qae]));all_goals clear zz)
    unfold jbl
    (have zz:=aI @c0.r (aI @c1.r (aI @c2.r (aI @c3.r @c4.r)));(repeat'(first|apply jc<;>intro _|simp(disch:=first|exact jO|fail) only[ja j6,ja j7,ja j8,c0.q,c1.q,c2.q,c3.q,c4.q,c0.r,c1.r,c2.r,c3.r,c4.r,je,jj,ji,jd,jm,jn,jp,jq,jo,rzZ,Qab,Qac,Qad,Qaa,Qae]));all_goals clear zz)
    exact Kz rfl hr
  |ok w=>
   obtain⟨y,t⟩:=w;rw[hx] at E;have E:Tot base 14 [.agg (mdE m),.agg (eE x.kids[k]),.bool fm2] (.tup [.agg (eE y),.agg (mtE t),.agg [.int .i64 0,.int .i64 0,.int .i64 0]]):=E;have he':qT m.vars m.enums fm2 (x.kids.take (k+1))=.ok (ys ++ [y],ms ++ [t]):=by
    rw[yO hk];exact Hf he hx
   have N:=jhP hb 0 0 0;rw[decide_eq_true ⟨rfl,rfl,rfl⟩] at N;unfold mdE at E;obtain⟨t1,h1⟩:∃ u,u=wr (nw s [.int .i64 0,.int .i64 0,.str [],.nils,.int .i64 0,.int .i64 0]) s.nx 0 (eE x.kids[k]):=⟨_,rfl⟩;obtain⟨t2,h2⟩:∃ u,u=wr (wr (wr (nw (nw (nw t1 [.int .i64 0,.int .i64 0,.str [],.nils,.int .i64 0,.int .i64 0]) [.int .i64 0,.str [],.int .i64 0,.int .i64 0]) [.int .i64 0,.int .i64 0,.int .i64 0]) (s.nx+1) 0 (eE y)) (s.nx+1+1) 0 (mtE t)) (s.nx+1+1+1) 0 [.int .i64 0,.int .i64 0,.int .i64 0]:=⟨_,rfl⟩;have n1:t1.nx=s.nx+1:=by rw[h1,jh,jg]
   have n2:t2.nx=s.nx+1+1+1+1:=by rw[h2,jh,jh,jh,jg,jg,jg,n1]
   have SP:=((((S.push (c:=15) (v:=.ptr s.nx 0) (by decide)).push (c:=16) (v:=.ptr (s.nx+1) 0) (by decide)).push (c:=17) (v:=.ptr (s.nx+1+1) 0) (by decide)).push (c:=18) (v:=.ptr (s.nx+1+1+1) 0) (by decide)).push (c:=108) (v:=.bool false) (by decide);have S1:=(SP.nw [.int .i64 0,.int .i64 0,.str [],.nils,.int .i64 0,.int .i64 0]).wr (c:=s.nx) (o:=0) (ds:=eE x.kids[k]) nx;rw[<-h1] at S1;have S2:=(((((S1.nw [.int .i64 0,.int .i64 0,.str [],.nils,.int .i64 0,.int .i64 0]).nw [.int .i64 0,.str [],.int .i64 0,.int .i64 0]).nw [.int .i64 0,.int .i64 0,.int .i64 0]).wr (c:=s.nx+1) (o:=0) (ds:=eE y) (by omega)).wr (c:=s.nx+1+1) (o:=0) (ds:=mtE t) (by omega)).wr (c:=s.nx+1+1+1) (o:=0) (ds:=[.int .i64 0,.int .i64 0,.int .i64 0]) (by omega);rw[<-h2] at S2;have S3:=S2.nw (eE y);have S4:=S3.kid y;have S5:=S4.nw (mtE t);have A1:=λst bv xc xx K h hv=>@J5 7 hb2 ys.length 6 st vk (fl eE ys) K 72 bv xc xx h (by decide) (by omega) (by omega) hv;have A2:=λbv xc xx K hv=>@jja 6 _ ms.length 4 40 bv xc _ vm wm (fl mtE ms) xx K S5.lx (by decide) (by omega) (by omega) hv;have S6:=S5.mt t;rw[h2,h1] at A2 S6;have lk:=S.e.lk;rcases h3 with ⟨rfl,e2,g⟩|⟨rfl,e2,g⟩|⟨rfl,e2,g⟩
   all_goals
    rw[e2] at E
    (have zz:=aI @lk.ln (aI @lk.rts (aI @jz (aI @jE (aI @lk (aI @jA (aI @jH (aI @jK (aI @c0.r (aI @c1.r (aI @c2.r (aI @c3.r (aI @c4.r @c5.r))))))))))));(repeat'(first|apply jc<;>intro _|simp(disch:=first|exact jO|fail) only[ja j2,ja j3,ja j4,ja j12,ja j13,ja j82,ja hi,ja hn,g,E,vS,vR,vQ,N,A1,A2,lk.at,jA,c0.q,c1.q,c2.q,c3.q,c4.q,c5.q,lk.ln,lk.rts,jz,jE,lk,jA,jH,jK,c0.r,c1.r,c2.r,c3.r,c4.r,c5.r,je,jj,ji,jd,jm,jn,jp,jq,jo,rzZ,Qab,Qac,Qad,Qaa,Qae]));all_goals clear zz)
    refine⟨⟨_,_,_,_,_,_,S6,he',?_⟩,?_,?_⟩;all_goals(simp(disch:=decide) only[jb];assumption)
 ·obtain⟨ys,ms,vk,vm,wm,hi,S,he,j82⟩:=hI;rw[QaB] at he;rw[he] at hr;have hlen:=WB he;have hpos:0<x.kids.length:=by
   cases hc:x.kids with
   |nil=>exact absurd hc hk0
   |cons _ _=>simp
  have V:=S.lm;have i13:=S.i13;rcases V with ⟨_,h0,_⟩|⟨b,rfl,h0,_,C,hb1,hb2⟩
  ·omega
  ·rcases S.le with rfl|⟨h,_⟩
   ·exact jpK hb S.e C hb2 (by omega) (by omega) S.i2 i13 hr
   ·cases h
theorem jfm (vars:List VarT)(enums:List EnumT)(s:List Nat):∃ op num,(YS vars enums s).1=.mk op num [] [] 0 0:=by
 unfold YS;split
 ·exact⟨_,_,rfl⟩
 ·split<;>exact⟨_,_,rfl⟩
set_option maxHeartbeats 16000000 in
theorem jnZ (hb:NB base)(m:ModT)(hv:m.vars.length<=1000000)(he:m.enums.length<=1000000)(hv2:∀ e∈m.enums,e.vals.length<=1000000):∀ x:Ex,kdB x=true->RE base m x:=by
 refine Ex.indk λx ih hx=>?_;intro fm;refine hb.tot ?_ (by simp[pa,pc,QY,qO]) rfl;obtain⟨r,hr⟩:∃ r,r=Ja m.vars m.enums fm x:=⟨_,rfl⟩;have hd:=hr;rw[jkC] at hd;rw[jh8] at hx;simp only[Qaq,QaO,decide_eq_true_eq,Qaz] at hx;rw[<-hr];have N:=jp0 hb m hv he hv2 x.name;have F:=jes hb;refine jF jsm (by rfl) (hb.pur 14 1 (by decide)) ?_;simp only[jbl,ju,Qai,Qaj,Qag,Qah];rw[(by unfold jjr;simp only[qq];rfl:jjr=_)];by_cases g1:x.op=1
 ·rw[if_pos g1] at hd
  (have zz:=@q6;(repeat'(first|apply jc<;>intro _|simp(disch:=first|exact jO|fail) only[g1,sm2,q6,je,jj,ji,jd,jm,jn,jp,jq,jo,rzZ,Qab,Qac,Qad,Qaa,Qae]));all_goals clear zz)
  exact jaD (FzsD.pc (qO x)) rfl hd
 ·by_cases g2:x.op=2
  ·rw[if_neg g1,if_pos g2] at hd;repeat'(first|apply jc<;>intro _|simp(disch:=first|exact dzG|fail) only[g1,g2,je,jj,ji,jd,jm,jn,jp,jq,jo,rzZ,Qab,Qac,Qad,Qaa,Qae])
   exact jaD (FzsD.pc (qO x)) rfl hd
  ·by_cases g3:x.op=3
   ·rw[if_neg g1,if_neg g2,if_pos g3] at hd;unfold jbL at hd;obtain⟨op',num',hl⟩:=jfm m.vars m.enums x.name;generalize YS m.vars m.enums x.name=nm at N hd hl;obtain⟨y,⟨tk,te,tl,th⟩,q⟩:=nm;dsimp only at hl;subst hl;dsimp only at hd;have eL:eE (.mk op' num' [] [] 0 0)=[.int .i64 op',.int .i64 num',.str [],.lst 0 [],.int .i64 0,.int .i64 0]:=rfl;unfold rnV at N;dsimp only at N;rw[eL] at N;unfold mtE at N;cases q with
    |false=>
     rw[if_pos rfl] at hd;repeat'(first|apply jc<;>intro _|simp(disch:=first|exact dzG|fail) only[g1,g2,g3,N,vS,vR,vQ,F,je,jj,ji,jd,jm,jn,jp,jq,jo,rzZ,Qab,Qac,Qad,Qaa,Qae])
     exact Kz rfl hd
    |true=>
     rw[if_neg (by decide)] at hd;repeat'(first|apply jc<;>intro _|simp(disch:=first|exact dzG|fail) only[g1,g2,g3,N,vS,vR,vQ,F,jku,je,jj,ji,jd,jm,jn,jp,jq,jo,rzZ,Qab,Qac,Qad,Qaa,Qae])
     exact jaD (y:=.mk op' num' [] [] x.line x.col) (m:=⟨tk,te,tl,th⟩) (FzsD.pc rfl) rfl hd
   ·rw[if_neg g1,if_neg g2,if_neg g3] at hd;have hx3:x.kids≠[]:=hx.1.1.resolve_left (λh=>h.elim g1 λh=>h.elim g2 g3);have e:∃ L s,EL m x fm [] [] .nils (.slice 6 0 0 0 4 true) .nils 7 L s/\L=[(13,.slice 6 0 0 0 4 true),(12,.ptr 5 0),(42,.bool (decide False)),(36,.bool (decide False)),(26,.bool (decide False)),(8,.ptr 4 0),(7,.ptr 3 0),(6,.ptr 2 0),(4,.ptr 1 0),(3,.ptr 0 0),(0,.agg (mdE m)),(1,.agg (eE x)),(2,.bool fm)]/\s=nw (wr (nw (nw (nw (nw (nw (nw st0 (mdE m)) (eE x)) [.int .i64 0,.int .i64 0,.str [],.nils,.int .i64 0,.int .i64 0]) [.int .i64 0,.str [],.int .i64 0,.int .i64 0]) [.int .i64 0,.int .i64 0,.int .i64 0]) [.int .i64 0,.int .i64 0,.str [],.nils,.int .i64 0,.int .i64 0]) 5 0 [.int .i64 x.op,.int .i64 x.num,.str x.name,.nils,.int .i64 x.line,.int .i64 x.col]) []:=by
     refine⟨_,_,⟨⟨by decide,by(first|omega|(simp only[jg,jh,jt,jr,jl];first|done|omega)),by(first|exact cyG|fail),by unfold z6;(first|exact cyG|fail),by unfold z4;(first|exact cyG|fail),by(first|exact cyG|fail),by(first|exact cyG|fail),Lv.nil,?_,?_,?_,?_,?_⟩,by(first|exact cyG|fail),Lv.nil,.inr ⟨rfl,rfl,?_⟩,?_,?_,?_,?_⟩,rfl,rfl⟩;all_goals first
      |(simp(disch:=decide) only[jb,jf];done)
      |trivial
      |exact Cl.new (wr (nw (nw (nw (nw (nw (nw st0 (mdE m)) (eE x)) [.int .i64 0,.int .i64 0,.str [],.nils,.int .i64 0,.int .i64 0]) [.int .i64 0,.str [],.int .i64 0,.int .i64 0]) [.int .i64 0,.int .i64 0,.int .i64 0]) [.int .i64 0,.int .i64 0,.str [],.nils,.int .i64 0,.int .i64 0]) 5 0 _) []
    obtain⟨L,s,E,hL,hs⟩:=e;repeat'(first|apply jc<;>intro _|simp(disch:=first|exact dzG|fail) only[g1,g2,g3,je,jj,ji,jd,jm,jn,jp,jq,jo,rzZ,Qab,Qac,Qad,Qaa,Qae])
    rw[<-hL,<-hs];exact jpL hb (λk hk=>ih k hk (hx.2 k hk)) hx3 (by have:=hx.1.2;omega) E hd
mutual
def tmB:Ex->Bool
 |.mk op _ _ ks _ _=>zS op ||uE ks
def uE:List Ex->Bool
 |[]=>false
 |x :: xs=>tmB x ||uE xs
end
structure RvX (vars:List VarT)(s:List Int)(x y:Ex)(t:MtT):Prop where
 non:tmB x=true->qC s y=none
 som:tmB x=false->∃ n,qC s y=some n/\zt s y=n/\(t.kind=2->Jp n)
 nb:wo vars.length y=true
 sz:szE y<=szE x
theorem Ha {op:Int}{a b:MtT}(h:(ZW op a b).kind=2):clA op=false:=by
 unfold ZW at h;cases hc:clA op with
 |false=>rfl
 |true=>rw[hc,if_pos rfl] at h;cases h
theorem Gp {fm:Bool}{op num:Int}{name:List Nat}{l c:Int}{ys:List Ex}{a b:MtT}{y:Ex}{t:MtT}(h:WA fm op num name l c ys a b=.ok (y,t)):y=.mk op num name ys l c/\t=ZW op a b/\rok fm op a b=true:=by
 unfold WA at h;split at h
 ·cases h
 ·rename_i h1;split at h
  ·cases h
  ·cases h;exact⟨rfl,rfl,by cases hr:rok fm op a b<;>simp_all⟩
theorem jdO {s:List Int}{op num:Int}{name:List Nat}{l c:Int}{y:Ex}:qC s (.mk op num name [y] l c)=match qC s y with|none=>none|some n=>opV s op num [n]:=by
 rw[qC,qu,qu];cases qC s y<;>rfl
theorem jdN {s:List Int}{op num:Int}{name:List Nat}{l c:Int}{y z:Ex}:qC s (.mk op num name [y,z] l c)=match qC s y with|none=>none|some a=>(match qC s z with|none=>none|some b=>Wt op a b):=by
 rw[qC,qu,qu,qu];cases qC s y with
 |none=>rfl
 |some a=>
  cases qC s z with
  |none=>rfl
  |some b=>simp[opV]
theorem jpN {s:List Int}{op num:Int}{name:List Nat}{l c:Int}{y:Ex}(h:op≠4):zt s (.mk op num name [y] l c)=JR op (zt s y) (zt s y):=by
 rw[zt,if_neg h,if_neg (by simp)];rfl
theorem jpM {s:List Int}{op num:Int}{name:List Nat}{l c:Int}{y z:Ex}(h:op≠4):zt s (.mk op num name [y,z] l c)=JR op (zt s y) (zt s z):=by
 rw[zt,if_neg h,if_neg (by simp)];rfl
theorem jmb {s:List Int}{op num n:Int}:opV s op num [n]=if op=5 then some (wq (-n)) else if op=6 then some (wq (1 - n)) else none:=by
 simp[opV]
set_option maxHeartbeats 2000000 in
theorem jhv {vars:List VarT}{enums:List EnumT}(hv:Ys vars){s:List Int}(hs:QH vars s=true):∀ (x:Ex) (fm:Bool) (y:Ex) (t:MtT),wkB x=true->Ja vars enums fm x=.ok (y,t)->RvX vars s x y t:=by
 refine Ex.indk λx ih=>?_;intro fm y t hx h;obtain⟨op,num,name,ks,l,c⟩:=x;have hx0:=hx;rw[wkB] at hx0;simp only[Qaq,decide_eq_true_eq] at hx0;obtain⟨⟨hk,hleaf⟩,hks⟩:=hx0;have nk:(op=1\/op=2\/op=3\/op=4)->ks=[]:=λho=>by
  unfold Jn at hk;rw[if_pos (by omega)] at hk;exact QaS (by omega)
 rw[Ja] at h;by_cases g1:op=1
 ·rw[if_pos g1] at h;cases h;have e:=nk (.inl g1);subst e g1;refine⟨λh=>by simp[tmB,uE,zS] at h,λ_=>⟨num,by simp[qC,qu,opV],by simp[zt],λh=>by simp at h⟩,by simp[wo,Q8],Qao _⟩
 rw[if_neg g1] at h;by_cases g2:op=2
 ·rw[if_pos g2] at h;cases h;have e:=nk (.inr (.inl g2));subst e g2;refine⟨λh=>by simp[tmB,uE,zS] at h,λ_=>⟨num,by simp[qC,qu,opV],by simp[zt],λ_=>?_⟩,by simp[wo,Q8],Qao _⟩;simp at hleaf;unfold Jp;omega
 rw[if_neg g2] at h;by_cases g3:op=3
 ·rw[if_pos g3] at h;have e:=nk (.inr (.inr (.inl g3)));subst e g3;have htm:tmB (.mk 3 num name [] l c)=false:=by simp[tmB,uE,zS]
  have hsz:∀ o n,szE (.mk o n [] [] l c)<=szE (.mk 3 num name [] l c):=λo n=>by rw[zW,zW];simp[Ex.name,Ex.kids]
  unfold jbL YS at h;by_cases h2:0<=jY vars name
  ·simp only[if_pos h2] at h;rw[if_neg (by simp)] at h;cases h;have hlt:jY vars name<(vars.length:Int):=ZD;have hlt2:(jY vars name).toNat<vars.length:=by omega
   obtain⟨r1,r2⟩:=jbN hs;have r2:=r2 _ hlt2;refine⟨(λh=>by rw[htm] at h;cases h),λ_=>⟨s.getD (jY vars name).toNat 0,?_,by simp[zt,Ex.op,Ex.num],λhk2=>?_⟩,?_,hsz _ _⟩
   ·have hlt3:jY vars name<(s.length:Int):=by rw[r1];exact hlt
    simp only[qC,qu,opV,Ex.op,Ex.num];rw[if_neg (by simp),if_pos ⟨by simp,by simp,h2,hlt3⟩]
   ·have hm:vars.getD (jY vars name).toNat ⟨[],0,[],0,0,false,0⟩∈vars:=by
     rw[Qau,Qas hlt2];exact Qax hlt2
    have:=hv _ hm hk2;unfold Jp;omega
   ·rw[WO];simp[Ex.op,Ex.num,Ex.kids,Q8];exact⟨decide_eq_false (by omega),decide_eq_false (by omega)⟩
  ·simp only[if_neg h2] at h;by_cases h4:(yx enums name).2<0
   ·simp only[if_pos h4] at h;simp at h
   ·simp only[if_neg h4] at h;rw[if_neg (by simp)] at h;cases h;refine⟨(λh=>by rw[htm] at h;cases h),λ_=>⟨(yx enums name).2,by simp[qC,qu,opV,Ex.op,Ex.num],by simp[zt,Ex.op,Ex.num],λh=>by simp at h⟩,by simp[wo,Q8,Ex.op],hsz _ _⟩
 rw[if_neg g3] at h;have hk4:Jn op=if op=4 then 0 else Jn op:=by
  split
  ·rename_i e;subst e;rfl
  ·rfl
 cases ks with
 |nil=>
  exfalso;have h4:op=4:=by
   unfold Jn at hk;simp only[Qan] at hk;repeat' split at hk
   all_goals omega
  subst h4;simp only[qT] at h;obtain⟨_,_,h3⟩:=Gp h;simp[rok,clA,clB,clC,clD,mt0] at h3
 |cons k1 ks=>
  have w1:wkB k1=true:=by rw[Wo,Qaq] at hks;exact hks.1
  cases ks with
  |nil=>
   have h13:5<=op/\op<=13:=by
    unfold Jn at hk;simp only[Qak,Qan] at hk;repeat' split at hk
    all_goals omega
   simp only[qT] at h;cases hr1:Ja vars enums (fm && decide (op≠17) && decide (op≠18)) k1 with
   |er a b d=>rw[hr1] at h;cases h
   |ok w1'=>
    obtain⟨y1,t1⟩:=w1';rw[hr1] at h;obtain⟨rfl,rfl,h3⟩:=Gp h;have I:=ih k1 (by simp[Ex.kids]) _ y1 t1 w1 hr1;clear h
    replace h3:rok fm op t1 t1=true:=h3
    show RvX vars s (.mk op num name [k1] l c) (.mk op num name [y1] l c) (ZW op t1 t1);have hn:=I.nb;have hz:=I.sz;have tm:tmB (.mk op num name [k1] l c)=(zS op ||tmB k1):=by simp[tmB,uE]
    refine⟨λh=>?_,λh=>?_,?_,?_⟩
    ·rw[tm,QaO] at h;rw[jdO];cases hs1:qC s y1 with
     |none=>rfl
     |some n=>
      rcases h with h|h
      ·dsimp only;rw[jmb,if_neg (by rintro rfl;cases h),if_neg (by rintro rfl;cases h)]
      ·rw[I.non h] at hs1;cases hs1
    ·rw[tm,Qbo] at h;obtain⟨n,e1,e2,e3⟩:=I.som h.2;have hop:op=5\/op=6:=by
      have:=h.1;unfold zS at this;simp at this;omega
     rw[jdO,e1,jpN (by omega),e2];dsimp only;rw[jmb];rcases hop with rfl|rfl
     ·exact⟨_,if_pos rfl,by simp[JR],λh=>by have:=Ha h;cases this⟩
     ·have hb:Jp n:=e3 (by simp[rok,clA,clB,clC,clD] at h3;exact h3);rw[if_neg (by decide),if_pos rfl];refine⟨_,rfl,?_,λ_=>?_⟩
      ·rcases hb with rfl|rfl<;>decide
      ·rcases hb with rfl|rfl
       ·exact .inr js8
       ·exact .inl js7
    ·rw[WO];simp[Ex.op,Ex.kids,Q8,hn,g3];exact .inl (decide_eq_false (by omega))
    ·rw[zW,zW];simp[Ex.name,Ex.kids,yu];exact hz
  |cons k2 ks=>
   have h14:14<=op/\op<=30/\ks=[]:=by
    unfold Jn at hk;simp only[Qak] at hk;repeat' split at hk
    all_goals first|omega|exact⟨by omega,by omega,QaS (by omega)⟩
   obtain⟨ho1,ho2,rfl⟩:=h14;have w2:wkB k2=true:=by rw[Wo,Qaq,Wo,Qaq] at hks;exact hks.2.1
   simp only[qT] at h;cases hr1:Ja vars enums (fm && decide (op≠17) && decide (op≠18)) k1 with
   |er a b d=>rw[hr1] at h;cases h
   |ok w1'=>
    obtain⟨y1,t1⟩:=w1';rw[hr1] at h;cases hr2:Ja vars enums (fm && decide (op≠17) && decide (op≠18)) k2 with
    |er a b d=>rw[hr2] at h;cases h
    |ok w2'=>
     obtain⟨y2,t2⟩:=w2';rw[hr2] at h;obtain⟨rfl,rfl,h3⟩:=Gp h;have I:=ih k1 (by simp[Ex.kids]) _ y1 t1 w1 hr1;have J:=ih k2 (by simp[Ex.kids]) _ y2 t2 w2 hr2;clear h
     replace h3:rok fm op t1 t2=true:=h3
     show RvX vars s (.mk op num name [k1,k2] l c) (.mk op num name [y1,y2] l c) (ZW op t1 t2);have hn:=I.nb;have hz:=I.sz;have hn2:=J.nb;have hz2:=J.sz;have tm:tmB (.mk op num name [k1,k2] l c)=(zS op ||(tmB k1 ||tmB k2)):=by simp[tmB,uE]
     refine⟨λh=>?_,λh=>?_,?_,?_⟩
     ·rw[tm,QaO,QaO] at h;rw[jdN];cases hs1:qC s y1 with
      |none=>rfl
      |some a=>
       cases hs2:qC s y2 with
       |none=>rfl
       |some b=>
        rcases h with h|h|h
        ·dsimp only;unfold zS at h;simp at h;unfold Wt;simp only[if_neg (show ¬ op=14 by omega),if_neg (show ¬ op=15 by omega),if_neg (show ¬ op=16 by omega),if_neg (show ¬ (op=17\/op=30) by omega),if_neg (show ¬ op=18 by omega),if_neg (show ¬ op=19 by omega),if_neg (show ¬ (op=20\/op=29) by omega),if_neg (show ¬ op=21 by omega),if_neg (show ¬ op=22 by omega),if_neg (show ¬ op=27 by omega),if_neg (show ¬ op=28 by omega)]
        ·rw[I.non h] at hs1;cases hs1
        ·rw[J.non h] at hs2;cases hs2
     ·rw[tm,Qbo,Qbo] at h;obtain⟨a,e1,e2,e3⟩:=I.som h.2.1;obtain⟨b,f1,f2,f3⟩:=J.som h.2.2;rw[jdN,e1,f1,jpM (by omega),e2,f2];dsimp only;have hop:¬ (23<=op/\op<=26):=by
       have:=h.1;unfold zS at this;simp at this;omega
      have hw:(qJ op).1=2->Jp a/\Jp b:=λhw=>by
       unfold qJ at hw;repeat' split at hw
       all_goals first|(exfalso;revert hw;decide)|skip
       rename_i q1 q2 q3;unfold rok at h3;rw[show clA op=false from decide_eq_false q1,show clB op=false from decide_eq_false q2,show clC op=false from decide_eq_false q3] at h3;have h4:(t1.kind=t2.kind/\t1.enum=t2.enum)/\t1.kind=2:=by
        cases hD:clD op<;>rw[hD] at h3<;>simp at h3
        ·exact⟨h3.1,h3.2.1⟩
        ·exact h3
       exact⟨e3 h4.2,f3 (by rw[<-h4.1.1];exact h4.2)⟩
      have h2:(ZW op t1 t2).kind=2->(qJ op).2=2:=λhk2=>by
       have:=Ha hk2;unfold clA at this;have q1:=of_decide_eq_false this;unfold qJ;rw[if_neg q1];repeat' split
       all_goals rfl
      cases ht:Wt op a b with
      |none=>
       exfalso;have hop2:op=14\/op=15\/op=16\/op=17\/op=18\/op=19\/op=20\/op=21\/op=22\/op=27\/op=28\/op=29\/op=30:=by omega
       rcases hop2 with h|h|h|h|h|h|h|h|h|h|h|h|h<;>(subst h;simp[Wt] at ht)
      |some n=>
       have:=jdI ht hw;exact⟨n,rfl,this.1,λhk2=>this.2 (h2 hk2)⟩
     ·rw[WO];simp[Ex.op,Ex.kids,Q8,hn,hn2,g3];exact .inl (decide_eq_false (by omega))
     ·rw[zW,zW];simp[Ex.name,Ex.kids,yu];omega
section
variable {P:Program} {base:Bs}
theorem jgx {b b2 i a c d e:Nat}{z zz:Int}{body:XC}{L:Sl}{st:St}{Q:Out->Prop}{Kp:AV->Sl->St->Prop}(N:Nat)(I:Nat->Sl->St->Prop)(hN : -4611686018427387904<=z/\z+N<=4611686018427387904)(hz:zz=z+N - 1)(hne:c≠i/\e≠i/\b≠b2)
  (hi:Has L i (.int .i64 z)) (h0:I 0 L st) (hc:∀ k L s v,I k L s->I k ((c,v) :: L) s) (hI:∀ k L s v,I k L s->I k ((i,v) :: L) s)
  (step:∀ k L s,k<N->I k L s->Has L i (.int .i64 (z+(k:Int)))->Z6 (xC P base body L s (Gn b b2 (λL' s'=>I (k+1) L' s'/\Has L' i (.int .i64 (z+(k:Int)))) Q) Kp))
  (fin:∀ L s,I N L s->Z6 (Q (.go L s))) :
  xC P base (.loop (.seq (.seq (.ops [⟨some a,false,none,.i (.mv (.t i))⟩,⟨some c,true,none,.i (.bin .leq (.t a) (.c (.int .i64 zz)))⟩]) (.cond (.t c) .skip (.exit b))) (.seq (.block b2 body) (.ops [⟨some d,false,none,.i (.mv (.t i))⟩,⟨some e,false,none,.i (.bin .add (.t d) (.c (.int .i64 1)))⟩,⟨some i,true,none,.i (.mv (.t e))⟩])))) L st (qo b Q) Kp:=by
 obtain⟨n1,n4,n5⟩:=hne;refine yH (λm L s=>∃ k,k<=N/\m=N - k/\I k L s/\Has L i (.int .i64 (z+(k:Int)))) ?_ N ⟨0,QaG _,rfl,h0,by rw[Qam,Int.add_zero];exact hi⟩;rintro m L s ⟨k,hk,rfl,hk',h1⟩;unfold Z6;simp only[vM,vN,Yu,x_i,GD,uh,ja h1,wV,UB,WD,jfd,vO,YB,Jb,Vo,KJ];by_cases hlt:k<N
 ·rw[decide_eq_true (by omega),Gr,Vk,Jb,vM,wP];refine Up _ _ _ _ _ (step k ((c,.bool true) :: L) s hlt (hc k L s _ hk') (by rw[jb n1];exact h1)) λo ho=>?_;have go:∀ L' s',(I (k+1) L' s'/\Has L' i (.int .i64 (z+(k:Int))))->xO P base [⟨some d,false,none,.i (.mv (.t i))⟩,⟨some e,false,none,.i (.bin .add (.t d) (.c (.int .i64 1)))⟩,⟨some i,true,none,.i (.mv (.t e))⟩] ⟨[],L'⟩ s' (λe st'=>zX (λL' st'=>∃ k',k'<N - k/\∃ k,k<=N/\k'=N - k/\I k L' st'/\Has L' i (.int .i64 (z+(k:Int)))) (qo b Q) (.go e.g st')) Kp:=by
   intro L' s' ⟨h3,h4⟩;simp only[Yu,x_i,GD,uh,ja h4,wV,UB,WD,jbB (show -9223372036854775808<=z+(k:Int)+1 by omega) (by omega),vO,YB,Jb];refine⟨N - (k+1),by omega,k+1,by omega,rfl,hI _ _ _ _ h3,by rw[show z+(k:Int)+1=z+((k+1:Nat):Int) by omega];exact Has.here _ _ _⟩
  cases o with
  |go L' s'=>exact go L' s' ho
  |rt L' s'=>exact ho
  |ex q L' s'=>
   rw[jbS] at ho;cases hq:Qat q b2
   ·rw[hq] at ho;have e1:qo b2 (zX (λL' st'=>xC P base (.ops [⟨some d,false,none,.i (.mv (.t i))⟩,⟨some e,false,none,.i (.bin .add (.t d) (.c (.int .i64 1)))⟩,⟨some i,true,none,.i (.mv (.t e))⟩]) L' st' (zX (λL' st'=>∃ k',k'<N - k/\∃ k,k<=N/\k'=N - k/\I k L' st'/\Has L' i (.int .i64 (z+(k:Int)))) (qo b Q)) Kp) (zX (λL' st'=>∃ k',k'<N - k/\∃ k,k<=N/\k'=N - k/\I k L' st'/\Has L' i (.int .i64 (z+(k:Int)))) (qo b Q))) (.ex q L' s')=qo b Q (.ex q L' s'):=by
     simp only[qo,hq,cond_false,zX]
    show qo b2 _ _;rw[e1];exact ho
   ·rw[hq] at ho;have:=go L' s' ho;show qo b2 _ _;simp only[qo,hq,cond_true,Jb,vN];exact this
 ·have hkN:k=N:=by omega
  rw[decide_eq_false (by omega),Gs,Vn,YA,YA];subst hkN;show qo b Q (.ex b _ s);rw[ZN];exact fin _ _ (hc _ _ _ _ hk')
end
def jln (x:Ex):Bool:=((QaN 7).any λk=>zu (7+(k:Int)) x) ||(QaN 4).any λk=>zu (23+(k:Int)) x
mutual
theorem jhb:∀ x:Ex,tmB x=true↔∃ o,zS o=true/\zu o x=true
 |.mk op num name ks l c=>by
  rw[tmB,QaO,jdJ ks];constructor
  ·rintro (h|⟨o,h1,h2⟩)
   ·exact⟨op,h,by rw[zu];simp⟩
   ·exact⟨o,h1,by rw[zu,h2,Bool.or_true]⟩
  ·rintro ⟨o,h1,h2⟩;rw[zu,QaO,decide_eq_true_eq] at h2;rcases h2 with h2|h2
   ·exact .inl (h2▸h1)
   ·exact .inr ⟨o,h1,h2⟩
theorem jdJ:∀ xs:List Ex,uE xs=true↔∃ o,zS o=true/\zV o xs=true
 |[]=>by simp[uE,zV]
 |x :: xs=>by
  rw[uE,QaO,jhb x,jdJ xs];constructor
  ·rintro (⟨o,h1,h2⟩|⟨o,h1,h2⟩)
   ·exact⟨o,h1,by rw[zV,h2,Bool.true_or]⟩
   ·exact⟨o,h1,by rw[zV,h2,Bool.or_true]⟩
  ·rintro ⟨o,h1,h2⟩;rw[zV,QaO] at h2;exact h2.imp (λh=>⟨o,h1,h⟩) λh=>⟨o,h1,h⟩
end
theorem jq5 (x:Ex):jln x=tmB x:=by
 rw[QaW,jhb];unfold jln;rw[QaO,List.any_eq_true,List.any_eq_true];constructor
 ·rintro (⟨k,h1,h2⟩|⟨k,h1,h2⟩)
  ·have:=QbI.1 h1;exact⟨_,by unfold zS;simp;omega,h2⟩
  ·have:=QbI.1 h1;exact⟨_,by unfold zS;simp;omega,h2⟩
 ·rintro ⟨o,h1,h2⟩;unfold zS at h1;simp at h1;rcases h1 with ⟨h3,h4⟩|⟨h3,h4⟩
  ·exact .inl ⟨(o - 7).toNat,QbI.2 (by omega),by rw[show 7+((o - 7).toNat:Int)=o by omega];exact h2⟩
  ·exact .inr ⟨(o - 23).toNat,QbI.2 (by omega),by rw[show 23+((o - 23).toNat:Int)=o by omega];exact h2⟩
theorem HP {op:Int}:∀ {xs:List Ex} {k:Ex},k∈xs->zu op k=true->zV op xs=true
 |x :: xs,k,h,hq=>by
  rw[zV];rcases Qbs.1 h with rfl|h
  ·rw[hq];rfl
  ·rw[HP h hq,Bool.or_true]
theorem jdy:∀ (d:Nat) (x:Ex),yG d x=true->zu 4 x=false->kdB x=true
 |0,_,h,_=>by cases h
 |d+1,.mk op num name ks l c,h,h4=>by
  rw[vj] at h;simp only[Qaq,decide_eq_true_eq] at h;obtain⟨⟨⟨⟨h1,h2⟩,h3⟩,_⟩,h5⟩:=h;have h1:(1:Int)<=op:=h1;have h2:op<31:=h2;have h3:(ks.length:Int)=if 5<=op/\op<=13 then 1 else if 14<=op/\op<31 then 2 else 0:=h3
  rw[zu,Qbo,decide_eq_false_iff_not] at h4;rw[jh8];simp only[Qaq,QaO,decide_eq_true_eq,Qaz];refine⟨⟨?_,?_⟩,λk hk=>jdy d k (Qaz.1 h5 k hk) ?_⟩
  ·by_cases g:op=1\/op=2\/op=3
   ·exact .inl g
   ·refine .inr λe=>?_;have e:ks=[]:=e;subst e;have h4:=h4.1;repeat' split at h3
    all_goals simp at h3
    omega
  ·show ks.length<=2;repeat' split at h3
   all_goals omega
  ·have:=h4.2;cases hq:zu 4 k with
   |false=>rfl
   |true=>
    have:zV 4 ks=true:=HP hk hq;rw[h4.2] at this;cases this
end Go.Sy
end
