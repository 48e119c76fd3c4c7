/-
  Contracts: the code lowered, what it does told by rules, and the contracts of the functions that the law reaches.
-/
import Derived.Test.YtndojkghlhllpaaGreatDoorSbSyD
import Derived.Test.YtndojkghlhllpaaGreatDoorProg
import Derived.KernelRfl
import Derived.Lib.ItoaNum
set_option linter.unusedVariables false
set_option linter.unusedSimpArgs false
open Go.Proofs.Tryz renaming prog → γ
open Nat renaming reduceAdd → δ, reduceSub → ε, reduceMul → ζ, reduceBEq → θ, le_refl → τ, le_trans → Qab, zero_le → Qae, zero_add → Qam, le_max_left → Qas, le_max_right → Qat, lt_or_ge → Qav, lt_of_lt_of_le → Qaw, mul_le_mul_right → Qax, not_lt_zero → Qay, mul_one → QaI, add_mul → QaL, sub_zero → QaN, le_of_eq → QaO, succ_mul → QaQ, zero_mul → QaU, succ_pos → QaY, ne_of_lt → Qbh, lt_irrefl → Qbj, min_eq_left → Qbr, add_assoc → Qbs, add_zero → Qbt, mod_eq_of_lt → Qbv, one_mul → Qbx, add_comm → Qby, lt_succ_self → Qbz, succ_lt_succ → QbD, le_of_lt → QbS, lt_trichotomy → Qcm, le_succ_of_le → Qcq, beq → Qcw, succ → Qcx, ble → Qcy, add → Qcz, mul → QcA, sub → QcB
open Int renaming reduceToNat → η, natCast_zero → χ, zero_add → ψ, ofNat → QaB, eq_ofNat_of_zero_le → QbA, natCast_nonneg → QbX, toNat_natCast → Qcj
open List renaming map_cons → κ, map_nil → μ, getD_cons_zero → ν, getD_cons_succ → ξ, length_append → υ, length_cons → φ, length_nil → ω, getElem_mem → Qac, getD → Qad, take_length → Qaf, getElem?_eq_getElem → Qag, length_map → Qah, range' → Qai, cons_append → Qaj, range → Qak, all_eq_true → Qal, nil_append → Qan, cons → Qao, length_take → Qap, getD_eq_getElem?_getD → Qaq, mem_append → Qau, length_drop → QaD, all_cons → QaF, append_assoc → QaG, mem_map → QaH, take_zero → QaJ, mem_singleton → QaK, mem_cons → QaS, append_nil → QaT, map_congr_left → QaW, all_append → QaZ, map_append → Qba, foldl_append → Qbb, eq_nil_of_length_eq_zero → Qbc, mem_iff_getElem → Qbd, flatMap_cons → Qbf, drop_zero → Qbg, map_map → Qbi, length_singleton → Qbk, range'_succ → Qbl, getElem?_eq_some_iff → Qbm, getElem?_append_left → Qbn, mem_range → Qbo, take_append_drop → Qbp, ext_getElem → Qbq, drop_drop → Qbu, getElem_cons_zero → QbB, length_pos_iff → QbE, getElem_append_left → QbF, drop_length → QbG, length_eq_zero_iff → QbH, getElem?_take → QbI, getElem?_drop → QbJ, any_cons → QbL, getElem?_map → QbM, foldl_cons → QbN, take_add_one → QbO, getElem_map → QbP, map_toArray → QbQ, getElem_cons_succ → QbT, getElem_cons_drop → QbU, mem_of_mem_take → QbV, take_take → QbW, foldr_cons → QbY, length_range → Qca, getElem?_append_right → Qcb, mem_append_left → Qcd, mem_cons_of_mem → Qce, drop_eq_getElem_cons → Qcf, take_of_length_le → Qcg, getElem_append_right → Qci, countP_singleton → Qco, take_succ_cons → Qcp, nodup_append → Qcr, dropLast_concat_getLast → Qcv
open Bool renaming and_eq_true → Qaa, or_eq_true → QaC, eq_iff_iff → QaE, false_eq_true → QaR, not_eq_true' → QaV, true_eq_false → QbC, or_eq_false_iff → QbZ, eq_false_iff → Qch
open Array renaming length_toList → Qar, getElem?_eq_some_iff → Qaz, replicate → QaM, toList_map → Qbw, getElem?_toList → QbR, getD_eq_getD_getElem? → Qcc, toList_append → Qcl, mem_toList_iff → Qcn, getElem?_eq_getElem → Qct, getElem?_setIfInBounds_ne → Qcu
open Option renaming map_some → QaA, getD_some → QaP, bind_some → QaX, map_none → Qbe, map_eq_some_iff → QbK, isSome_iff_exists → Qcs
open Function renaming comp_def → Qck
noncomputable section
set_option maxRecDepth 100000
namespace Go.Sy
open Go.Ev Go.Proofs
variable {base:Bs}
structure Kq (p mb lo:Nat)(s s':St):Prop where
 nx:s.nx<=s'.nx
 fr:s'.fr=s.fr
 get:∀ b,b<lo->b≠p->b≠mb->jv s'.h b=jv s.h b
section
variable {p mb lo:Nat} {s t u:St}
theorem Kq.refl:Kq p mb lo s s:=⟨τ _,rfl,λ_ _ _ _=>rfl⟩
theorem Kq.trans (h:Kq p mb lo s t)(k:Kq p mb lo t u):Kq p mb lo s u:=⟨Qab h.nx k.nx,k.fr.trans h.fr,λb h1 h2 h3=>(k.get b h1 h2 h3).trans (h.get b h1 h2 h3)⟩
theorem Kq.nw (h:Kq p mb lo s t)(hl:lo<=t.nx)(ds:List AV):Kq p mb lo s (Go.Sy.nw t ds):=⟨Qcq h.nx,h.fr,λb h1 h2 h3=>(q6 om).trans (h.get b h1 h2 h3)⟩
theorem Kq.wr (h:Kq p mb lo s t){c:Nat}(hc:c=p\/lo<=c)(o:Nat)(vs:List AV):Kq p mb lo s (Go.Sy.wr t c o vs):=⟨h.nx,h.fr,λb h1 h2 h3=>(zG om).trans (h.get b h1 h2 h3)⟩
theorem Kq.kl (h:Kq p mb lo s t){c:Nat}(hc:lo<=c):Kq p mb lo s (Go.Sy.kl c t):=⟨h.nx,h.fr,λb h1 h2 h3=>(vO om).trans (h.get b h1 h2 h3)⟩
theorem Kq.mp (h:Kq p mb lo s t)(es:List (AV×AV)):Kq p mb lo s (Go.Sy.mp t mb es):=⟨h.nx,h.fr,λb h1 h2 h3=>by rw[Wq,if_neg h3];exact h.get b h1 h2 h3⟩
theorem Kq.aps (h:Kq p mb lo s t){hi n z:Nat}{v:AV}{ds:List AV}{u:St}(V:Lv lo hi u v n ds z)(hl:lo<=t.nx)(news:List AV):Kq p mb lo s (Go.Sy.aps v t news):=⟨by rw[jq];exact Qcq h.nx,by rw[Ze];exact h.fr,λb h1 h2 h3=>(V.get t news b (.inl h1) om).trans (h.get b h1 h2 h3)⟩
theorem Kq.keep (h:Kq p mb lo s t)(k:Keep p t u)(hl:lo<=t.nx):Kq p mb lo s u:=⟨Qab h.nx k.nx,k.fr.trans h.fr,λb h1 h2 h3=>(k.get b om h2).trans (h.get b h1 h2 h3)⟩
theorem Kq.cl (h:Kq p mb lo s t){b:Nat}{cs:List AV}(C:Cl s b cs)(h1:b<lo)(h2:b≠p)(h3:b≠mb):Cl t b cs:=C.keep h.nx (h.get b h1 h2 h3)
theorem Kq.bk (h:Kq p mb lo s.bare t):Kq p mb lo s (bk s t):=⟨h.nx,rfl,h.get⟩
end
theorem Mp.nw {s:St}{b:Nat}{ts:List (List Nat)}(h:Mp s b ts)(ds:List AV):Mp (Go.Sy.nw s ds) b ts:=h.keep (Nat.le_succ _) (q6 (by have:=h.lt;omega))
theorem Mp.wr {s:St}{b:Nat}{ts:List (List Nat)}(h:Mp s b ts){c:Nat}(hc:b≠c)(o:Nat)(ds:List AV):Mp (Go.Sy.wr s c o ds) b ts:=h.keep (τ _) (zG hc)
theorem Vm {s:St}{b c:Nat}{es:List (AV×AV)}{cs:List AV}(h:c≠b):Cl (mp s b es) c cs=Cl s c cs:=propext ⟨λC=>C.keep (QaO (jgc s b es)) (by rw[Wq,if_neg h]),λC=>C.keep (τ _) (by rw[Wq,if_neg h])⟩
structure MS (p mb lo hi:Nat)(m:ModT)(ts:List (List Nat))(v1 v2 v3:AV)(s:St):Prop where
 cp:Cl s p [v1,v2,v3,.map mb,.bool false]
 mp:Mp s mb ts
 l1:Lv lo hi s v1 m.vars.length (fl vaE m.vars) 7
 l2:Lv lo hi s v2 m.enums.length (fl enE m.enums) 4
 l3:Lv lo hi s v3 m.moves.length (fl moE m.moves) 7
 d12:Df v1 v2
 d13:Df v1 v3
 d23:Df v2 v3
 hp:p<lo
 hm:mb<lo
 pm:p≠mb
 lo:lo<=hi
 hi:hi<=s.nx
def MX (p mb lo:Nat)(m:ModT)(ts:List (List Nat))(s:St):Prop:=∃ v1 v2 v3,MS p mb lo s.nx m ts v1 v2 v3 s
section
variable {p mb lo hi:Nat} {m:ModT} {ts us:List (List Nat)} {v1 v2 v3:AV} {s t:St}
theorem Lv.mp {n z:Nat}{v:AV}{cs:List AV}{es:List (AV×AV)}(h:Lv lo hi s v n cs z)(hm:mb<lo):Lv lo hi (Go.Sy.mp s mb es) v n cs z:=h.imp id λ⟨c,h1,h2,h3,h4,h5,h6⟩=>⟨c,h1,h2,h3,by rw[Vm om];exact h4,h5,h6⟩
theorem MS.nw (S:MS p mb lo hi m ts v1 v2 v3 s)(ds:List AV):MS p mb lo hi m ts v1 v2 v3 (Go.Sy.nw s ds):=by
 obtain⟨C,M,l1,l2,l3,d12,d13,d23,hp,hm,pm,h1,h2⟩:=S;exact⟨ckX,M.nw ds,ckX,ckX,ckX,d12,d13,d23,hp,hm,pm,h1,by rw[jg];omega⟩
theorem MS.wr (S:MS p mb lo hi m ts v1 v2 v3 s){c:Nat}(hc:hi<=c)(o:Nat)(ds:List AV):MS p mb lo hi m ts v1 v2 v3 (Go.Sy.wr s c o ds):=by
 obtain⟨C,M,l1,l2,l3,d12,d13,d23,hp,hm,pm,h1,h2⟩:=S;exact⟨ckX,M.wr om o ds,ckX,ckX,ckX,d12,d13,d23,hp,hm,pm,h1,by rw[jj];omega⟩
theorem MS.take (S:MS p mb lo hi m ts v1 v2 v3 s)(us:List (List Nat)):MS p mb lo hi m us v1 v2 v3 (Go.Sy.mp s mb (mpl us)):=by
 obtain⟨C,M,l1,l2,l3,d12,d13,d23,hp,hm,pm,h1,h2⟩:=S;exact⟨by rw[Vm pm];exact C,M.put,l1.mp hm,l2.mp hm,l3.mp hm,d12,d13,d23,hp,hm,pm,h1,h2⟩
theorem MS.keep (S:MS p mb lo hi m ts v1 v2 v3 s)(k:Keep p s t)(C':Cl t p [v1,v2,v3,.map mb,.bool false]):MS p mb lo hi m ts v1 v2 v3 t:=by
 obtain⟨C,M,l1,l2,l3,d12,d13,d23,hp,hm,pm,h1,h2⟩:=S;exact⟨C',M.keep k.nx (k.get mb M.lt om),k.lv l1 (.inl hp),k.lv l2 (.inl hp),k.lv l3 (.inl hp),d12,d13,d23,hp,hm,pm,h1,Qab h2 k.nx⟩
theorem MS.up (S:MS p mb lo hi m ts v1 v2 v3 s){hi':Nat}(h:hi<=hi')(h2:hi'<=s.nx):MS p mb lo hi' m ts v1 v2 v3 s:=by
 obtain⟨C,M,l1,l2,l3,d12,d13,d23,hp,hm,pm,h1,h3⟩:=S;exact⟨C,M,l1.up h,l2.up h,l3.up h,d12,d13,d23,hp,hm,pm,Qab h1 h,h2⟩
theorem MS.bare (S:MS p mb lo hi m ts v1 v2 v3 s):MS p mb lo hi m ts v1 v2 v3 s.bare:=by
 obtain⟨C,M,l1,l2,l3,d12,d13,d23,hp,hm,pm,h1,h2⟩:=S;exact⟨C.bar,⟨M.lt,M.get⟩,by rw[jH];exact l1,by rw[jH];exact l2,by rw[jH];exact l3,d12,d13,d23,hp,hm,pm,h1,h2⟩
theorem MS.ofbk {u:St}(S:MS p mb lo hi m ts v1 v2 v3 s):MS p mb lo hi m ts v1 v2 v3 (bk u s):=by
 obtain⟨C,M,l1,l2,l3,d12,d13,d23,hp,hm,pm,h1,h2⟩:=S;have e:∀ b cs,Cl s b cs->Cl (bk u s) b cs:=λb cs h=>⟨h.lt,h.row,h.len,h.cell⟩;have el:∀ v n cs z,Lv lo hi s v n cs z->Lv lo hi (bk u s) v n cs z:=λv n cs z h=>h.imp id λ⟨c,h1,h2,h3,h4,h5,h6⟩=>⟨c,h1,h2,h3,e _ _ h4,h5,h6⟩;exact⟨e _ _ C,⟨M.lt,M.get⟩,el _ _ _ _ l1,el _ _ _ _ l2,el _ _ _ _ l3,d12,d13,d23,hp,hm,pm,h1,h2⟩
theorem MS.enum (S:MS p mb lo hi m ts v1 v2 v3 s)(e:EnumT):MS p mb lo (s.nx+1) { m with enums:=m.enums ++ [e] } ts v1 (apv 4 v2 s) v3 (Go.Sy.wr (Go.Sy.aps v2 s (enE e)) p 1 [apv 4 v2 s]):=by
 obtain⟨C,M,l1,l2,l3,d12,d13,d23,hp,hm,pm,h1,h2⟩:=S;have h4:=C.lt;have hn:(Go.Sy.wr (Go.Sy.aps v2 s (enE e)) p 1 [apv 4 v2 s]).nx=s.nx+1:=by rw[jj,jq]
 refine⟨?_,?_,?_,?_,?_,(Df.put l1 h2).2,d13,(Df.put l3 h2).1,hp,hm,pm,om,by rw[hn];exact τ _⟩
 ·exact(cast (l2.cl s (enE e) _ p (.inl hp) h4).symm C:Cl (Go.Sy.aps v2 s (enE e)) p _).wr 1 [apv 4 v2 s]
 ·exact M.keep (by rw[hn];omega) (by rw[zG (λh=>pm h.symm)];exact l2.get s (enE e) mb (.inl hm) M.lt)
 ·rw[jA (.inl hp)];exact(l1.apsD (Df.symm d12)).up om
 ·rw[jA (.inl hp),υ,Q1,J5];exact l2.put (Qj e) om rfl
 ·rw[jA (.inl hp)];exact(l3.apsD d23).up om
end
def KM (p mb lo:Nat)(st:St)(r:KR (ModT×List (List Nat)))(K Kp:AV->St->Prop):Prop:=match r with
 |.ok y=>∀ s',Kq p mb lo st s'->MX p mb lo y.1 y.2 s'->K (.tup []) s'
 |.er c l k=>∀ s',Kq p mb lo st s'->Kp (kf c l k) s'
def XG (ts:List (List Nat))(nm:List Nat)(l c:Int):KR (List (List Nat)):=if nm∈ts then .er 162 l c else .ok (ts ++ [nm])
def zw (l c:Int):List (List Nat)->List (List Nat)->KR (List (List Nat))
 |ts,[]=>.ok ts
 |ts,n :: ns=>match XG ts n l c with
  |.er a b d=>.er a b d
  |.ok ts=>zw l c ts ns
def wS (m:ModT)(ts:List (List Nat))(e:EnumT):KR (ModT×List (List Nat)):=match zw e.line e.col ts (e.name :: e.vals) with
 |.er a b d=>.er a b d
 |.ok ts=>.ok ({ m with enums:=m.enums ++ [e] },ts)
theorem WM {l c:Int}:∀ {xs ys:List (List Nat)} {ts:List (List Nat)},zw l c ts (xs ++ ys)=match zw l c ts xs with | .er a b d=>.er a b d | .ok us=>zw l c us ys
 |[],ys,ts=>rfl
 |x :: xs,ys,ts=>by
  simp only[Qaj,zw];cases XG ts x l c with
  |er a b d=>rfl
  |ok us=>exact WM
set_option maxHeartbeats 4000000 in
theorem jr8 (hb:NB base)(hcl:∀ vs:List (List Nat),0<vs.length->vs.length<=1000000->Tot base 91 [.lst vs.length (vs.map .str)] (.lst vs.length (vs.map .str))){p mb lo:Nat}{m:ModT}{ts:List (List Nat)}{st:St}(e:EnumT)(hv:0<e.vals.length)(hv2:e.vals.length<=1000000)(hE:m.enums.length<=1000000)(H:MX p mb lo m ts st)(K Kp:AV->St->Prop)(hK:KM p mb lo st (wS m ts e) K Kp):XB γ base 68 [.ptr p 0,.agg (enE e)] st K Kp:=by
 obtain⟨v1,v2,v3,S⟩:=H;obtain⟨C,M,l1,l2,l3,d12,d13,d23,hp,hm,pm,lo0,hi0⟩:=id S;refine zH x61 (by rfl) (hb.at0 68 dc dc _ _) ?_;simp only[y61,jr,κ,μ,ν,ξ];rw[(by unfold z61;simp only[qq];rfl:z61=_)];have q0:Kq p mb lo st.bare st.bare:=Kq.refl;have hnx:st.bare.nx=st.nx:=rfl;have S0:=S.bare.nw (enE e);have q1:=q0.nw lo0 (enE e);have Cb:Cl (Go.Sy.nw st.bare (enE e)) st.nx (enE e):=Cl.new st.bare (enE e);unfold wS at hK;repeat'(first|apply jb<;>intro _|simp(disch:=first|exact dzG|fail) only[r8,δ,ε,ζ,η,θ])
 refine KX hb S0.cp S0.mp _ _ _ _ _ ?_;by_cases h:e.name∈ts
 ·rw[if_pos h];have e1:zw e.line e.col ts (e.name :: e.vals)=.er 162 e.line e.col:=by simp only[zw,XG,if_pos h]
  rw[e1] at hK;exact hK _ q1.bk
 ·rw[if_neg h];have e1:zw e.line e.col ts (e.name :: e.vals)=zw e.line e.col (ts ++ [e.name]) e.vals:=by simp only[zw,XG,if_neg h]
  rw[e1] at hK
  replace S0:=S0.take (ts ++ [e.name])
  replace q1:=q1.mp (mpl (ts ++ [e.name]))
  have Cb:Cl (Go.Sy.mp (Go.Sy.nw st.bare (enE e)) mb (mpl (ts ++ [e.name]))) st.nx (enE e):=by rw[Vm om];exact Cb
  have hn1:(Go.Sy.mp (Go.Sy.nw st.bare (enE e)) mb (mpl (ts ++ [e.name]))).nx=st.nx+1:=rfl;generalize Go.Sy.mp (Go.Sy.nw st.bare (enE e)) mb (mpl (ts ++ [e.name]))=s1 at *
  (have zz:=@Cb.r;(repeat'(first|apply jb<;>intro _|simp(disch:=first|exact jZ|fail) only[Cb.q,Cb.r,r8,δ,ε,ζ,η,θ]));all_goals clear zz)
  refine jX e.vals.length (λk L s=>∃ us,zw e.line e.col (ts ++ [e.name]) (e.vals.take k)=.ok us/\MS p mb lo st.nx m us v1 v2 v3 s/\Kq p mb lo st.bare s/\st.nx+1<=s.nx/\Cl s st.nx (enE e)/\Has L 0 (.ptr p 0)/\Has L 3 (.ptr st.nx 0)/\Has L 15 (.lst e.vals.length (e.vals.map .str))) ?_ (λk L s hk hI hi hn=>?_) (λL s hI=>?_)
  ·refine⟨_,by rw[QaJ,zw],S0,q1,om,Cb,?_,?_,?_⟩<;>exact hsX
  ·obtain⟨us,h1,S1,q1,hnn,Cb,i0,i3,i15⟩:=hI;have tk:e.vals.take (k+1)=e.vals.take k ++ [e.vals[k]]:=yz hk
   (have zz:=@Cb.r;(repeat'(first|apply jb<;>intro _|simp(disch:=first|exact jZ|fail) only[ja i0,ja i3,ja i15,ja hi,ja hn,jhn hk,Cb.q,Cb.r,r8,δ,ε,ζ,η,θ]));all_goals clear zz)
   refine KX hb S1.cp S1.mp _ _ _ _ _ ?_;by_cases h:e.vals[k]∈us
   ·rw[if_pos h];have e2:zw e.line e.col (ts ++ [e.name]) e.vals=.er 162 e.line e.col:=by
     have e3:e.vals=e.vals.take k ++ (e.vals[k] :: e.vals.drop (k+1)):=by rw[QbU,Qbp]
     rw[e3,WM,h1];simp only[zw,XG,if_pos h]
    rw[e2] at hK;exact hK _ q1.bk
   ·rw[if_neg h];have e2:zw e.line e.col (ts ++ [e.name]) (e.vals.take (k+1))=.ok (us ++ [e.vals[k]]):=by
     rw[tk,WM,h1];simp only[zw,XG,if_neg h]
    repeat'(first|apply jb<;>intro _|simp(disch:=first|exact dzG|fail) only[r8,δ,ε,ζ,η,θ])
    refine⟨⟨_,e2,S1.take _,q1.mp _,by rw[jgc];exact hnn,by rw[Vm om];exact Cb,?_,?_,?_⟩,?_,?_⟩<;>exact hsX
  ·obtain⟨us,h1,S1,q1,hnn,Cb,i0,i3,i15⟩:=hI;rw[Qaf] at h1;rw[h1] at hK;have T:=λ(h:0<e.vals.length)=>hcl e.vals h hv2;have Cp:=S1.cp;have V2:=S1.l2;have ve2:=V2.eqs;have Ap:=λst' bv xc xx K h hv=>@JT lo st.nx m.enums.length 4 st' v2 (fl enE m.enums) K 56 bv xc xx h dc om om hv;have hqp:st.nx≠p:=om
   have S2:=(S1.nw (enE e)).enum e;have S2:=(S2.up (by(first|omega|(simp only[jg,jj,jt,jq,jp];first|done|omega))) (τ _)).ofbk (u:=st);have q2:=(((q1.nw om (enE e)).aps V2 (by(first|omega|(simp only[jg,jj,jt,jq,jp];first|done|omega))) (enE e)).wr (.inl rfl) 1 [apv 4 v2 (Go.Sy.nw s (enE e))]).bk;have g0:rat s.h st.nx 0=.str e.name:=(Cb.cell 0 (by rw[Qj];decide)).trans (by rw[Vk];rfl);have g2:rat s.h st.nx 2=.int .i64 e.line:=(Cb.cell 2 (by rw[Qj];decide)).trans (by rw[Vk];rfl);have g3:rat s.h st.nx 3=.int .i64 e.col:=(Cb.cell 3 (by rw[Qj];decide)).trans (by rw[Vk];rfl);have gp:rat s.h p 1=v2:=Cp.cell 1 (by simp only[φ,ω];omega);have ln:qv s.h st.nx=4:=by rw[Cb.len,Qj]
   (have zz:=a8 V2.ln V2.rts @jA @jE @jJ @V2 @jC (a4 @jI @jM @Cb.r @Cp.r);(repeat'(first|apply jb<;>intro _|simp(disch:=first|exact jZ|fail) only[ja i0,ja i3,T hv,Ap,GK,sm9,GJ,sm3,ve2,V2.at,jC,Cb.q,Cp.q,V2.ln,V2.rts,jA,jE,jJ,V2,jC,jI,jM,Cb.r,Cp.r,r8,δ,ε,ζ,η,θ]));all_goals clear zz)
   have a9:=(sm9 om g0 rfl).mpr trivial;have a2:=(sm3 om g2 rfl).mpr trivial;have a3:=(sm3 om g3 rfl).mpr trivial;have a23:=(GK (by rw[Cp.len];simp only[φ,ω];omega) gp ve2).mpr trivial;repeat' apply aI
   all_goals first|exact a9|exact a23|exact a2|exact a3|exact hK _ q2 ⟨_,_,_,S2⟩
mutual
def J6:Ex->Option Ex
 |.mk op num name ks l c=>if op=4 then some (.mk op num name ks l c) else zZ ks
def zZ:List Ex->Option Ex
 |[]=>none
 |x :: xs=>match J6 x with
  |some y=>some y
  |none=>zZ xs
end
theorem uB (x:Ex):J6 x=if x.op=4 then some x else zZ x.kids:=by cases x;rw[J6];rfl
theorem uW:∀ {xs ys:List Ex},zZ (xs ++ ys)=match zZ xs with|some y=>some y|none=>zZ ys
 |[],ys=>rfl
 |x :: xs,ys=>by
  simp only[Qaj,zZ];cases J6 x with
  |some y=>rfl
  |none=>exact uW
def Ju (x:Ex):Ex×Bool:=match J6 x with
 |some y=>(y,true)
 |none=>(x,false)
theorem G0.exb {s:St}{a:List AV}{b:Bool}{u:AV}(h:u=.tup [.agg a,.bool b])(ha:a.all pc=true):G0 u (.tup [.agg a,.bool b]) s:=by
 subst h;exact FzD.tup (.cons (.agg (.pc ha)) (.cons (.pc rfl) .nil))
set_option maxHeartbeats 4000000 in
theorem joX (hb:NB base):∀ x:Ex,wy x=true->Tot base 95 [.agg (eE x)] (.tup [.agg (eE (Ju x).1),.bool (Ju x).2]):=by
 refine Ex.indk λx ih hw=>?_;have hw':x.kids.length<=1000000/\YX x.kids=true:=by cases x;rw[wy,Qaa,decide_eq_true_eq] at hw;exact hw
 refine hb.tot ?_ (by first|rfl|simp[pa,pc,q9,Xe,J7,JI,Yj,wC,wH,J2,ZS]) rfl;refine jG juR (by rfl) (hb.pur 95 1 dc) ?_;simp only[jqt,jr,κ,μ,ν,ξ];rw[(by unfold jkZ;simp only[qq];rfl:jkZ=_)];repeat'(first|apply jb<;>intro _|simp(disch:=first|exact dzG|fail) only[r8,δ,ε,ζ,η,θ])
 ·rename_i h;have e:Ju x=(x,true):=by unfold Ju;rw[uB,if_pos h]
  rw[e];exact G0.exb rfl (q9 x)
 rename_i h;have e0:J6 x=zZ x.kids:=by rw[uB,if_neg h]
 refine jX x.kids.length (λk L s=>zZ (x.kids.take k)=none/\2<=s.nx/\Cl s 0 (eE x)/\Cl s 1 z6/\Has L 1 (.ptr 0 0)/\Has L 2 (.ptr 1 0)/\Has L 13 (.lst x.kids.length (fl eE x.kids))) ?_ (λk L s hk hI hi hn=>?_) (λL s hI=>?_)
 ·refine⟨by rw[QaJ,zZ],by(first|omega|(simp only[jg,jj,jt,jq,jp];first|done|omega)),?_,Cl.new _ _,?_,?_,?_⟩
  ·have n0:=Cl.new st0 (eE x);exact n0.nw _
  all_goals simp(disch:=decide) only[ji,ju]
 ·obtain⟨h1,h2,C0,C1,i1,i2,i13⟩:=hI;have E:=ih x.kids[k] (Qac hk) (Vz hk hw'.2);have tk:x.kids.take (k+1)=x.kids.take k ++ [x.kids[k]]:=yz hk;cases hf:J6 x.kids[k] with
  |some y=>
   have e:Ju x=(y,true):=by
    unfold Ju;have e3:x.kids=x.kids.take k ++ (x.kids[k] :: x.kids.drop (k+1)):=by rw[QbU,Qbp]
    rw[e0,e3,uW,h1];simp only[zZ,hf]
   have e2:Ju x.kids[k]=(y,true):=by unfold Ju;rw[hf]
   rw[e2] at E;unfold z6 at C1
   (have zz:=aI C0.r C1.r;(repeat'(first|apply jb<;>intro _|simp(disch:=first|exact jZ|fail) only[ja i1,ja i2,ja i13,ja hi,ja hn,E,C0.q,C1.q,C0.r,C1.r,r8,δ,ε,ζ,η,θ]));all_goals clear zz)
   rw[e];exact G0.exb rfl (q9 y)
  |none=>
   have e2:Ju x.kids[k]=(x.kids[k],false):=by unfold Ju;rw[hf]
   rw[e2] at E
   (have zz:=aI C0.r C1.r;(repeat'(first|apply jb<;>intro _|simp(disch:=first|exact jZ|fail) only[ja i1,ja i2,ja i13,ja hi,ja hn,E,C0.q,C1.q,C0.r,C1.r,r8,δ,ε,ζ,η,θ]));all_goals clear zz)
   refine⟨⟨?_,by(first|omega|(simp only[jg,jj,jt,jq,jp];first|done|omega)),ckX,ckX,?_,?_,?_⟩,?_,?_⟩
   ·rw[tk,uW,h1];simp only[zZ,hf]
   all_goals exact hsX
 ·obtain⟨h1,h2,C0,C1,i1,i2,i13⟩:=hI;rw[Qaf] at h1;have e:Ju x=(x,false):=by unfold Ju;rw[e0,h1]
  unfold z6 at C1
  (have zz:=aI C0.r C1.r;(repeat'(first|apply jb<;>intro _|simp(disch:=first|exact jZ|fail) only[ja i1,ja i2,C0.q,C1.q,C0.r,C1.r,r8,δ,ε,ζ,η,θ]));all_goals clear zz)
  rw[e,<-qJ];exact G0.exb rfl (q9 x)
section
variable {st:St} {K:AV->St->Prop}
theorem jhI (k:IntKind)(a b:Int):jh (Jm .add (.int k a) (.int k b) st) K=K (.int k (qN k (a+b))) st:=by
 cases k<;>rfl
theorem jhm (k:IntKind)(a b:Int):jh (Jm .sub (.int k a) (.int k b) st) K=K (.int k (qN k (a - b))) st:=by
 cases k<;>rfl
theorem jhv (k:IntKind)(a b:Int):jh (Jm .mul (.int k a) (.int k b) st) K=K (.int k (qN k (a * b))) st:=by
 cases k<;>rfl
theorem jqJ (k:IntKind)(a:Int):jh (unV .neg (.int k a) st) K=K (.int k (qN k (-a))) st:=by
 have e:k.wrap (0 - a)=qN k (-a):=by rw[<-JK,Int.zero_sub]
 simp only[unV,Yl,O,e,jh]
theorem jhG (k j:IntKind)(a:Int):jh (jsk k (.int j a) st) K=K (.int k (qN k a)) st:=by
 cases k<;>cases j<;>rfl
end
def Kw (b:Bool):Int:=if b then 1 else 0
def jgP (op num a b:Int):Int:=
 if op=5 then qN .i64 (-a) else if op=6 then qN .i64 (1 - a) else if op=14 then qN .i64 (a * b) else if op=15 then qN .i64 (a+b) else if op=16 then qN .i64 (a - b)
 else if op=17\/op=30 then Kw (decide (a=b)) else if op=18 then Kw (decide (a≠b)) else if op=19 then Kw (decide (a<b)) else if op=20\/op=29 then Kw (decide (a<=b))
 else if op=21 then Kw (decide (b<a)) else if op=22 then Kw (decide (b<=a)) else if op=27 then qN .i64 (a * b) else if op=28 then max a b else num
mutual
def Jv:Ex->Int
 |.mk op num _ ks _ _=>jgP op num ((Qw ks).getD 0 0) ((Qw ks).getD 1 0)
def Qw:List Ex->List Int
 |[]=>[]
 |x :: xs=>Jv x :: Qw xs
end
mutual
def Qf:Ex->Bool
 |.mk _ _ _ ks _ _=>decide (ks.length<=2) && JY ks
def JY:List Ex->Bool
 |[]=>true
 |x :: xs=>Qf x && JY xs
end
theorem jjC (x:Ex):Jv x=jgP x.op x.num ((Qw x.kids).getD 0 0) ((Qw x.kids).getD 1 0):=by cases x;rw[Jv];rfl
theorem Hu:∀ {xs:List Ex} {k:Nat} (h:k<xs.length),JY xs=true->Qf xs[k]=true
 |x :: xs,0,_,h=>by rw[JY,Qaa] at h;exact h.1
 |x :: xs,k+1,hk,h=>by rw[JY,Qaa] at h;exact Hu (xs:=xs) (k:=k) (by simpa using hk) h.2
theorem hZ:∀ {xs:List Ex} {k:Nat} (h:k<xs.length),zZ xs=none->J6 xs[k]=none
 |x :: xs,0,_,h=>by
  rw[zZ] at h;cases hx:J6 x with
  |none=>exact hx
  |some y=>rw[hx] at h;cases h
 |x :: xs,k+1,hk,h=>by
  rw[zZ] at h;cases hx:J6 x with
  |none=>rw[hx] at h;exact hZ (xs:=xs) (k:=k) (by simpa using hk) h
  |some y=>rw[hx] at h;cases h
def Kz (ks:List Ex)(k:Nat):List AV:=[.int .i64 ((Qw (ks.take k)).getD 0 0),.int .i64 ((Qw (ks.take k)).getD 1 0)]
theorem jdH (ks:List Ex)(k:Nat):(Kz ks k).length=2:=nr rfl
theorem jpd {ks:List Ex}{k:Nat}(hk:k<ks.length)(h2:ks.length<=2):upd (Kz ks k) k [.int .i64 (Jv ks[k])]=Kz ks (k+1):=by
 match ks,k with
 |[a],0=>rfl
 |[a,b],0=>rfl
 |[a,b],1=>rfl
 |[a],k+1=>simp at hk
 |[a,b],k+2=>exact absurd hk (by simp)
 |a :: b :: c :: l,_=>simp at h2
theorem jtK (hb:NB base)(q:Bool):Tot base 124 [.bool q] (.int .i64 (Kw q)):=by
 refine hb.tot ?_ rfl rfl;refine jG juv (by rfl) (hb.pur 124 1 dc) ?_;simp only[jp7,jr,κ,μ,ν,ξ];rw[(by unfold jkD;simp only[qq];rfl:jkD=_)];repeat'(first|apply jb<;>intro _|simp(disch:=first|exact dzG|fail) only[r8,δ,ε,ζ,η,θ])
 ·rename_i h;subst h;exact G0.v rfl rfl
 ·rename_i h;have h:q=false:=by simpa using h
  subst h;exact G0.v rfl rfl
set_option maxHeartbeats 4000000 in
theorem jgR (hb:NB base):∀ x:Ex,Qf x=true->J6 x=none->Tot base 96 [.agg (eE x)] (.int .i64 (Jv x)):=by
 refine Ex.indk λx ih ht hf=>?_;have ht':x.kids.length<=2/\JY x.kids=true:=by cases x;rw[Qf,Qaa,decide_eq_true_eq] at ht;exact ht
 have hop:x.op≠4:=λh=>by rw[uB,if_pos h] at hf;cases hf
 rw[uB,if_neg hop] at hf;refine hb.tot ?_ (by first|rfl|simp[pa,pc,q9,Xe,J7,JI,Yj,wC,wH,J2,ZS]) rfl;refine jG juQ (by rfl) (hb.pur 96 1 dc) ?_;simp only[jqs,jr,κ,μ,ν,ξ];rw[(by unfold jkY;simp only[qq];rfl:jkY=_)];repeat'(first|apply jb<;>intro _|simp(disch:=first|exact dzG|fail) only[r8,δ,ε,ζ,η,θ])
 refine jX x.kids.length (λk L s=>2<=s.nx/\Cl s 0 (eE x)/\Cl s 1 (Kz x.kids k)/\Has L 1 (.ptr 0 0)/\Has L 3 (.ptr 1 0)/\Has L 8 (.lst x.kids.length (fl eE x.kids))) ?_ (λk L s hk hI hi hn=>?_) (λL s hI=>?_)
 ·refine⟨by(first|omega|(simp only[jg,jj,jt,jq,jp];first|done|omega)),?_,Cl.new _ _,?_,?_,?_⟩
  ·have n0:=Cl.new st0 (eE x);exact n0.nw _
  all_goals simp(disch:=decide) only[ji,ju]
 ·obtain⟨h2,C0,C1,i1,i3,i8⟩:=hI;have E:=ih x.kids[k] (Qac hk) (Hu hk ht'.2) (hZ hk hf);have ap:=jpd hk ht'.1;have hk2:k<2:=om
  (have zz:=aI @jdH (aI C0.r C1.r);(repeat'(first|apply jb<;>intro _|simp(disch:=first|exact jZ|fail) only[ja i1,ja i3,ja i8,ja hi,ja hn,E,jdH,C0.q,C1.q,jdH,C0.r,C1.r,r8,δ,ε,ζ,η,θ]));all_goals clear zz)
  refine⟨⟨by(first|omega|(simp only[jg,jj,jt,jq,jp];first|done|omega)),ckX,Cl.cv (Cl.wr (?_:Cl _ 1 (Kz x.kids k)) k _) ap,?_,?_,?_⟩,?_,?_⟩
  ·exact ckX
  all_goals exact hsX
 ·obtain⟨h2,C0,C1,i1,i3,i8⟩:=hI;have hc:=jjC x;have ea:Kz x.kids x.kids.length=[.int .i64 ((Qw x.kids).getD 0 0),.int .i64 ((Qw x.kids).getD 1 0)]:=by unfold Kz;rw[Qaf]
  rw[ea] at C1;generalize (Qw x.kids).getD 0 0=a at *;generalize (Qw x.kids).getD 1 0=b at *;rw[hc];have B:=jtK hb
  (have zz:=aI C0.r C1.r;(repeat'(first|apply jb<;>intro _|simp(disch:=first|exact jZ|fail) only[ja i1,ja i3,ja i8,B,jqJ,jhm,jhv,jhI,C0.q,C1.q,C0.r,C1.r,r8,δ,ε,ζ,η,θ]));all_goals clear zz)
  all_goals(refine G0.v (congrArg _ ?_) rfl;unfold jgP;simp_all)
def stW (n:Int)(v:VarT):Int:=qN .u64 (n * qN .u64 (qN .u64 (qN .u64 v.hi - qN .u64 v.lo)+1))
def JF (vars:List VarT):Int:=qN .i64 (vars.foldl stW 1)
set_option maxHeartbeats 4000000 in
theorem jcd (hb:NB base)(vars:List VarT)(hl:vars.length<=1000000)(n2 n3:Nat)(c2 c3:List AV):PL γ base 36 [.agg [.lst vars.length (fl vaE vars),.lst n2 c2,.lst n3 c3]] (.ok (.int .i64 (JF vars))):=by
 refine zg x33 (by rfl) (hb.pur 36 5 dc) rfl ?_;simp only[y33,jr,κ,μ,ν,ξ];rw[(by unfold z33;simp only[qq];rfl:z33=_)];repeat'(first|apply jb<;>intro _|simp(disch:=first|exact dzG|fail) only[r8,δ,ε,ζ,η,θ])
 refine jX vars.length (λk L s=>1<=s.nx/\Has L 3 (.int .u64 ((vars.take k).foldl stW 1))/\Has L 7 (.lst vars.length (fl vaE vars))) ?_ (λk L s hk hI hi hn=>?_) (λL s hI=>?_)
 ·refine⟨by(first|omega|(simp only[jg,jj,jt,jq,jp];first|done|omega)),?_,?_⟩<;>simp(disch:=decide) only[ji,ju,QaJ,List.foldl_nil]
 ·obtain⟨h1,i3,i7⟩:=hI;have tk:vars.take (k+1)=vars.take k ++ [vars[k]]:=yz hk;have A1:=λa b st K=>@jhI st K .u64 a b;have A2:=λa b st K=>@jhm st K .u64 a b;repeat'(first|apply jb<;>intro _|simp(disch:=first|exact dzG|fail) only[ja i3,ja i7,ja hi,ja hn,jhG,jhv,A1,A2,r8,δ,ε,ζ,η,θ])
  refine⟨⟨by(first|omega|(simp only[jg,jj,jt,jq,jp];first|done|omega)),?_,?_⟩,?_,?_⟩
  ·rw[tk,Qbb];exact⟨rfl,rfl⟩
  all_goals exact hsX
 ·obtain⟨h1,i3,i7⟩:=hI;rw[Qaf] at i3;repeat'(first|apply jb<;>intro _|simp(disch:=first|exact dzG|fail) only[ja i3,jhG,r8,δ,ε,ζ,η,θ])
  exact G0.v rfl rfl
def Jb (vars:List VarT)(enums:List EnumT):VarT->List Ex->KR VarT
 |v,[]=>.ok v
 |v,x :: xs=>match yy vars enums false x v.kind v.enum with
  |.er a b c=>.er a b c
  |.ok y=>match J6 y with
   |some z=>.er 161 z.line z.col
   |none=>if Jv y<v.lo\/v.hi<Jv y then .er 164 x.line x.col else Jb vars enums { v with beg:=true,first:=Jv y } xs
theorem Kx {vars:List VarT}{enums:List EnumT}:∀ {xs ys:List Ex} {v:VarT},Jb vars enums v (xs ++ ys)=match Jb vars enums v xs with | .er a b c=>.er a b c | .ok u=>Jb vars enums u ys
 |[],ys,v=>rfl
 |x :: xs,ys,v=>by
  simp only[Qaj,Jb];cases yy vars enums false x v.kind v.enum with
  |er a b c=>rfl
  |ok y=>
   dsimp only;cases J6 y with
   |some z=>rfl
   |none=>
    dsimp only;split
    ·rfl
    ·exact Kx
def en0:EnumT:=⟨[],[],0,0⟩
def Jz (enums:List EnumT)(nm:List Nat):Int:=fi (λx=>decide (x.name=nm)) enums
def ZU (enums:List EnumT)(d:DeclT):KR VarT:=
 if d.ty=[98,111,111,108] then .ok ⟨d.name,2,[],0,1,false,0⟩
 else if 0<=Jz enums d.ty then .ok ⟨d.name,3,d.ty,0,((enums.getD (Jz enums d.ty).toNat en0).vals.length:Int) - 1,false,0⟩
 else if d.ty≠[] then .er 161 d.line d.col
 else if d.hi<d.lo then .er 164 d.line d.col
 else if 1024<=d.hi - d.lo then .er 165 d.line d.col
 else .ok ⟨d.name,1,[],d.lo,d.hi,false,0⟩
def VZ (m:ModT)(ts:List (List Nat))(d:DeclT)(v:VarT):KR (ModT×List (List Nat)):=
 if 281474976710656<JF (m.vars ++ [v]) then .er 165 d.line d.col else .ok ({ m with vars:=m.vars ++ [v] },ts)
def ZZ (m:ModT)(ts:List (List Nat))(d:DeclT)(v:VarT):KR (ModT×List (List Nat)):=match Jb m.vars m.enums v d.begins with
 |.er a b c=>.er a b c
 |.ok v=>VZ m ts d v
def QO (m:ModT)(ts:List (List Nat))(d:DeclT):KR (ModT×List (List Nat)):=match XG ts d.name d.line d.col with
 |.er a b c=>.er a b c
 |.ok ts=>match ZU m.enums d with
  |.er a b c=>.er a b c
  |.ok v=>ZZ m ts d v
section
variable {p mb lo hi:Nat} {m:ModT} {ts us:List (List Nat)} {v1 v2 v3:AV} {s t:St}
theorem MS.ck (S:MS p mb lo hi m ts v1 v2 v3 s):Ck p v1 v2 v3 (.map mb) m.vars m.enums false s:=by
 obtain⟨C,M,l1,l2,l3,d12,d13,d23,hp,hm,pm,h1,h2⟩:=S;refine⟨C,l1.lr,l2.lr,?_,?_⟩
 ·intro b k z x e;rcases l1 with ⟨h,_⟩|⟨c,h,h2,_⟩
  ·rw[h] at e;cases e
  ·rw[h] at e;cases e;omega
 ·intro b k z x e;rcases l2 with ⟨h,_⟩|⟨c,h,h2,_⟩
  ·rw[h] at e;cases e
  ·rw[h] at e;cases e;omega
theorem MS.var (S:MS p mb lo hi m ts v1 v2 v3 s)(e:VarT):MS p mb lo (s.nx+1) { m with vars:=m.vars ++ [e] } ts (apv 7 v1 s) v2 v3 (Go.Sy.wr (Go.Sy.aps v1 s (vaE e)) p 0 [apv 7 v1 s]):=by
 obtain⟨C,M,l1,l2,l3,d12,d13,d23,hp,hm,pm,h1,h2⟩:=S;have h4:=C.lt;have hn:(Go.Sy.wr (Go.Sy.aps v1 s (vaE e)) p 0 [apv 7 v1 s]).nx=s.nx+1:=by rw[jj,jq]
 refine⟨?_,?_,?_,?_,?_,(Df.put l2 h2).1,(Df.put l3 h2).1,d23,hp,hm,pm,om,by rw[hn];exact τ _⟩
 ·exact(cast (l1.cl s (vaE e) _ p (.inl hp) h4).symm C:Cl (Go.Sy.aps v1 s (vaE e)) p _).wr 0 [apv 7 v1 s]
 ·exact M.keep (by rw[hn];omega) (by rw[zG (λh=>pm h.symm)];exact l1.get s (vaE e) mb (.inl hm) M.lt)
 ·rw[jA (.inl hp),υ,Q1,J5];exact l1.put (XE e) om rfl
 ·rw[jA (.inl hp)];exact(l2.apsD d12).up om
 ·rw[jA (.inl hp)];exact(l3.apsD d13).up om
end
def va0:List AV:=[.str [],.int .i64 0,.str [],.int .i64 0,.int .i64 0,.bool false,.int .i64 0]
def dQ (st:St)(K:AV->St->Prop):Out->Prop:=Xw γ y62.res λv s=>K v (back st s)
def dP (st:St)(Kp:AV->St->Prop):AV->Sl->St->Prop:=λv _ s=>Kp v (bk st s)
structure DS (p mb lo q:Nat)(m:ModT)(ts:List (List Nat))(v1 v2 v3:AV)(d:DeclT)(v:VarT)(st:St)(L:Sl)(s:St):Prop where
 S:MS p mb lo q m ts v1 v2 v3 s
 k:Kq p mb lo st.bare s
 nx:q+2<=s.nx
 c3:Cl s q (qm d)
 c4:Cl s (q+1) (vaE v)
 i0:Has L 0 (.ptr p 0)
 i3:Has L 3 (.ptr q 0)
 i4:Has L 4 (.ptr (q+1) 0)
theorem jlk (hb:NB base)(vars:List VarT)(hl:vars.length<=1000000){st:St}{v1 v2 v3:AV}{n2 n3:Nat}{c2 c3:List AV}(h1:Lr st v1 vars.length (fl vaE vars))(h2:Lr st v2 n2 c2)(h3:Lr st v3 n3 c3)(p2:c2.all pc=true)(p3:c3.all pc=true)(K Kp:AV->St->Prop) :
  XB γ base 36 [.agg [v1,v2,v3]] st K Kp=K (.int .i64 (JF vars)) st:=by
 refine(jcd hb vars hl n2 n3 c2 c3).xb (q8 (jiM (jgp (h1.fz (d:=6) (y7 Yj vars)) (jgp (h2.fz (d:=6) p2) (jgp (h3.fz (d:=6) p3) jtB)))) JE) (λst=>hb.no 36 dc _ _) K Kp
set_option maxHeartbeats 4000000 in
theorem jsh (hb:NB base){p mb lo q:Nat}{m:ModT}{ts:List (List Nat)}{v1 v2 v3:AV}{d:DeclT}{v:VarT}{st:St}{L:Sl}{s:St}(D:DS p mb lo q m ts v1 v2 v3 d v st L s)(hV:m.vars.length<=900000)(K Kp:AV->St->Prop)(hK:KM p mb lo st (VZ m ts d v) K Kp):xC γ base jfC L s (dQ st K) (dP st Kp):=by
 obtain⟨S,k,nx,C3,C4,i0,i3,i4⟩:=D;obtain⟨C,M,l1,l2,l3,d12,d13,d23,hp,hm,pm,lo0,hi0⟩:=id S;have ve1:=l1.eqs;have Ap:=λst' bv xc xx K h hv=>@JT lo q m.vars.length 7 st' v1 (fl vaE m.vars) K 72 bv xc xx h dc om om hv;have hqp:q≠p:=om
 have hqp1:q+1≠p:=om
 have S3:=(S.nw (vaE v)).var v;have q2:=(((k.nw om (vaE v)).aps l1 (by(first|omega|(simp only[jg,jj,jt,jq,jp];first|done|omega))) (vaE v)).wr (.inl rfl) 0 [apv 7 v1 (Go.Sy.nw s (vaE v))]).bk;have S33:=λK Kp=>jlk hb (m.vars ++ [v]) (by simp;omega) S3.l1.lr S3.l2.lr S3.l3.lr (y7 J7 _) (y7 wH _) K Kp;have S2:=(S3.up (by(first|omega|(simp only[jg,jj,jt,jq,jp];first|done|omega))) (τ _)).ofbk (u:=st);have gp:rat s.h p 0=v1:=C.cell 0 (by simp only[φ,ω];omega);clear S3;simp only[WH] at S33;unfold dQ dP y62;rw[(by unfold jfC;simp only[qq];rfl:jfC=_)];unfold VZ at hK;by_cases hs:281474976710656<JF (m.vars ++ [v])
 ·rw[if_pos hs] at hK
  (have zz:=a8 @l1.ln @l1.rts @jA @jE @jJ @l1 @jC (a4 @jI @jM C3.r (aI C4.r C.r));(repeat'(first|apply jb<;>intro _|simp(disch:=first|exact jZ|fail) only[ja i0,ja i3,ja i4,Ap,l1.at,S33,hs,Ja hb,jC,C3.q,C4.q,C.q,l1.ln,l1.rts,jA,jE,jJ,l1,jC,jI,jM,C3.r,C4.r,C.r,r8,δ,ε,ζ,η,θ]));all_goals clear zz)
  exact hK _ q2
 ·rw[if_neg hs] at hK
  (have zz:=a8 @l1.ln @l1.rts @jA @jE @jJ @l1 @jC (a4 @jI @jM C3.r (aI C4.r C.r));(repeat'(first|apply jb<;>intro _|simp(disch:=first|exact jZ|fail) only[ja i0,ja i3,ja i4,Ap,l1.at,S33,hs,jC,C3.q,C4.q,C.q,l1.ln,l1.rts,jA,jE,jJ,l1,jC,jI,jM,C3.r,C4.r,C.r,r8,δ,ε,ζ,η,θ]));all_goals clear zz)
  exact hK _ q2 ⟨_,_,_,S2⟩
mutual
theorem gP {vars:List VarT}{enums:List EnumT}:∀ (fm:Bool) (x y:Ex) (m:MtT),Qf x=true->yt vars enums fm x=.ok (y,m)->Qf y=true
 |fm,.mk op num name ks l c,y,m,ht,h=>by
  rw[yt] at h;split at h
  ·cases h;exact ht
  ·split at h
   ·cases h;exact ht
   ·split at h
    ·unfold zN at h;split at h
     ·cases h;rfl
     ·split at h
      ·cases h
      ·cases h;rfl
    ·split at h
     ·cases h
     ·rename_i r hr;rw[Qf,Qaa,decide_eq_true_eq] at ht;have h2:=kR _ _ r.1 r.2 ht.2 hr;have h3:r.1.length=ks.length:=(J3 hr).1;unfold Zc at h;have e:∀ o n nm l c,Qf (.mk o n nm r.1 l c)=true:=λo n nm l c=>by rw[Qf,Qaa,decide_eq_true_eq];exact⟨om,h2⟩
      split at h
      ·cases h
      ·split at h
       ·cases h;exact e _ _ _ _ _
       ·split at h
        ·cases h
        ·cases h;exact e _ _ _ _ _
theorem kR {vars:List VarT}{enums:List EnumT}:∀ (fm:Bool) (xs ys:List Ex) (ms:List MtT),JY xs=true->qw vars enums fm xs=.ok (ys,ms)->JY ys=true
 |fm,[],ys,ms,_,h=>by rw[qw] at h;cases h;rfl
 |fm,x :: xs,ys,ms,ht,h=>by
  rw[JY,Qaa] at ht;rw[qw] at h;cases hx:yt vars enums fm x with
  |er a b d=>rw[hx] at h;cases h
  |ok y=>
   rw[hx] at h;cases hr:qw vars enums fm xs with
   |er a b d=>rw[hr] at h;cases h
   |ok r=>
    rw[hr] at h;cases h;rw[JY,Qaa];exact⟨gP fm x y.1 y.2 ht.1 hx,kR fm xs r.1 r.2 ht.2 hr⟩
end
theorem jdV {vars:List VarT}{enums:List EnumT}{fm:Bool}{x y:Ex}{w:Int}{en:List Nat}(ht:Qf x=true)(h:yy vars enums fm x w en=.ok y):Qf y=true:=by
 unfold yy at h;split at h
 ·cases h
 ·rename_i r hr;split at h
  ·cases h
  ·cases h;exact gP fm x r.1 r.2 ht hr
mutual
theorem YM:∀ x:Ex,Qf x=true->wy x=true
 |.mk op num name ks l c,h=>by
  rw[Qf,Qaa,decide_eq_true_eq] at h;rw[wy,Qaa,decide_eq_true_eq];exact⟨om,KU ks h.2⟩
theorem KU:∀ xs:List Ex,JY xs=true->YX xs=true
 |[],_=>rfl
 |x :: xs,h=>by
  rw[JY,Qaa] at h;rw[YX,Qaa];exact⟨YM x h.1,KU xs h.2⟩
end
def OkE (x:Ex):Prop:=Qf x=true/\ZR x=true
section
variable {p mb lo q:Nat} {m:ModT} {ts:List (List Nat)} {v1 v2 v3:AV} {d:DeclT} {v:VarT} {st:St} {L:Sl} {s:St}
theorem DS.push (D:DS p mb lo q m ts v1 v2 v3 d v st L s){c:Nat}{w:AV}(h:c≠0/\c≠3/\c≠4):DS p mb lo q m ts v1 v2 v3 d v st ((c,w) :: L) s:=by
 obtain⟨S,k,nx,c3,c4,i0,i3,i4⟩:=D;exact⟨S,k,nx,c3,c4,by rw[ji h.1];exact i0,by rw[ji h.2.1];exact i3,by rw[ji h.2.2];exact i4⟩
end
set_option maxHeartbeats 4000000 in
theorem jsi (hb:NB base){p mb lo q:Nat}{m:ModT}{ts:List (List Nat)}{v1 v2 v3:AV}{d:DeclT}{v:VarT}{st:St}{L:Sl}{s:St}(D:DS p mb lo q m ts v1 v2 v3 d v st L s)(V:VarsOK m.vars m.enums)(hV:m.vars.length<=900000)(hx:∀ x∈d.begins,OkE x)(hbl:d.begins.length<=1000000)(K Kp:AV->St->Prop)(hK:KM p mb lo st (ZZ m ts d v) K Kp):xC γ base jbK L s (dQ st K) (dP st Kp):=by
 have i0:=D.i0;have i3:=D.i3;have i4:=D.i4;have C3:=D.c3;have C4:=D.c4;rw[(by unfold jbK;simp only[qq];rfl:jbK=_)]
 (have zz:=aI C3.r C4.r;(repeat'(first|apply jb<;>intro _|simp(disch:=first|exact jZ|fail) only[ja i0,ja i3,ja i4,C3.q,C4.q,C3.r,C4.r,r8,δ,ε,ζ,η,θ]));all_goals clear zz)
 refine jX d.begins.length (λk L s=>(∃ u,Jb m.vars m.enums v (d.begins.take k)=.ok u/\DS p mb lo q m ts v1 v2 v3 d u st L s)/\Has L 93 (.lst d.begins.length (fl eE d.begins))) ?_ (λk L s hk hI hi hn=>?_) (λL s hI=>?_) (hc:=(λk L s v h=>(by obtain⟨⟨u,h1,h2⟩,h3⟩:=h;refine⟨⟨u,h1,h2.push dc⟩,?_⟩;simp(disch:=decide) only[ji];assumption))) (hI:=(λk L s v h=>(by obtain⟨⟨u,h1,h2⟩,h3⟩:=h;refine⟨⟨u,h1,h2.push dc⟩,?_⟩;simp(disch:=decide) only[ji];assumption)))
 ·refine⟨⟨v,by rw[QaJ,Jb],((D.push dc).push dc).push dc⟩,?_⟩;simp(disch:=decide) only[ji,ju]
 ·obtain⟨⟨u,h1,D⟩,i93⟩:=hI;obtain⟨S,k0,nx,C3,C4,i0,i3,i4⟩:=D;have tk:d.begins.take (k+1)=d.begins.take k ++ [d.begins[k]]:=yz hk;obtain⟨x1,x2⟩:=hx _ (Qac hk);have hqm:q≠p/\q+1≠p:=by have:=S.hp;have:=S.lo;omega
  have hqn:=S.hi;have hlq:=S.lo;have z6l:(eE d.begins[k]).length=([.int .i64 0,.int .i64 0,.str [],.nils,.int .i64 0,.int .i64 0]:List AV).length:=by rw[Jl];rfl
  have S1:=(S.nw [.int .i64 0,.int .i64 0,.str [],.nils,.int .i64 0,.int .i64 0]).wr hqn 0 (eE d.begins[k]);have k1:=(k0.nw om [.int .i64 0,.int .i64 0,.str [],.nils,.int .i64 0,.int .i64 0]).wr (c:=s.nx) (.inr om) 0 (eE d.begins[k]);have C7:=(Cl.new s [.int .i64 0,.int .i64 0,.str [],.nils,.int .i64 0,.int .i64 0]).wr0 z6l;have D3:Cl (Go.Sy.wr (Go.Sy.nw s [.int .i64 0,.int .i64 0,.str [],.nils,.int .i64 0,.int .i64 0]) s.nx 0 (eE d.begins[k])) q (qm d):=ckX
  have D4:Cl (Go.Sy.wr (Go.Sy.nw s [.int .i64 0,.int .i64 0,.str [],.nils,.int .i64 0,.int .i64 0]) s.nx 0 (eE d.begins[k])) (q+1) (vaE u):=ckX
  (have zz:=aI C3.r C4.r;(repeat'(first|apply jb<;>intro _|simp(disch:=first|exact jZ|fail) only[ja i0,ja i3,ja i4,ja i93,ja hi,ja hn,C3.q,C4.q,C3.r,C4.r,r8,δ,ε,ζ,η,θ]));all_goals clear zz)
  have hn1:(Go.Sy.wr (Go.Sy.nw s [.int .i64 0,.int .i64 0,.str [],.nils,.int .i64 0,.int .i64 0]) s.nx 0 (eE d.begins[k])).nx=s.nx+1:=rfl;generalize Go.Sy.wr (Go.Sy.nw s [.int .i64 0,.int .i64 0,.str [],.nils,.int .i64 0,.int .i64 0]) s.nx 0 (eE d.begins[k])=t1 at *;refine UM hb V _ x2 (YM _ x1) u.kind u.enum S1.ck _ _ ?_;have e3:d.begins=d.begins.take k ++ (d.begins[k] :: d.begins.drop (k+1)):=by rw[QbU,Qbp]
  have bk1:Jb m.vars m.enums v d.begins=Jb m.vars m.enums u (d.begins[k] :: d.begins.drop (k+1)):=by
   have e:=congrArg (Jb m.vars m.enums v) e3;rw[Kx,h1] at e;exact e
  have bk2:Jb m.vars m.enums v (d.begins.take (k+1))=Jb m.vars m.enums u [d.begins[k]]:=by
   rw[tk,Kx,h1]
  unfold ZZ at hK;rw[bk1,Jb] at hK;rw[Jb] at bk2;cases hr:yy m.vars m.enums false d.begins[k] u.kind u.enum with
  |er a b c=>
   rw[hr] at hK;intro s' k2;exact hK _ (k1.keep k2 om).bk
  |ok y=>
   have y1:=jdV x1 hr;have y2:=YM _ y1;rw[hr] at hK bk2;dsimp only at hK bk2;intro s' k2 C2;have hs':=k2.nx;have k3:=k1.keep k2 om;have S3:=S1.keep k2 C2;have E3:=k2.cl D3 hqm.1;have E4:=k2.cl D4 hqm.2;have E7:=k2.cl C7 (by have:=S.cp.lt;omega);have F:=joX hb y y2;clear S1 k1 k2 C2 C7 D3 D4 C3 C4 S k0;cases hf:J6 y with
   |some z=>
    rw[show Ju y=(z,true) by unfold Ju;rw[hf]] at F;rw[hf] at hK
    (have zz:=aI E3.r (aI E4.r E7.r);(repeat'(first|apply jb<;>intro _|simp(disch:=first|exact jZ|fail) only[ja i0,ja i3,ja i4,F,Ja hb,E3.q,E4.q,E7.q,E3.r,E4.r,E7.r,r8,δ,ε,ζ,η,θ]));all_goals clear zz)
    exact hK _ (((((k3.nw om _).wr (c:=s'.nx) (.inr om) 0 _).nw (by(first|omega|(simp only[jg,jj,jt,jq,jp];first|done|omega))) _).wr (.inr (by(first|omega|(simp only[jg,jj,jt,jq,jp];first|done|omega)))) 0 _)).bk
   |none=>
    rw[show Ju y=(y,false) by unfold Ju;rw[hf]] at F;rw[hf] at hK bk2;dsimp only at hK bk2;have G:=jgR hb y y1 hf;by_cases hc:Jv y<u.lo\/u.hi<Jv y
    ·rw[if_pos hc] at hK
     (have zz:=aI E3.r (aI E4.r E7.r);(repeat'(first|apply jb<;>intro _|simp(disch:=first|exact jZ|fail) only[ja i0,ja i3,ja i4,F,G,Ja hb,E3.q,E4.q,E7.q,E3.r,E4.r,E7.r,r8,δ,ε,ζ,η,θ]));all_goals clear zz)
     all_goals exact hK _ ((((((k3.nw om _).wr (c:=s'.nx) (.inr om) 0 _).nw (by(first|omega|(simp only[jg,jj,jt,jq,jp];first|done|omega))) _).wr (.inr (by(first|omega|(simp only[jg,jj,jt,jq,jp];first|done|omega)))) 0 _).wr (c:=q+1) (.inr om) 5 _).wr (c:=q+1) (.inr om) 6 _).bk
    ·rw[if_neg hc] at bk2;have hc1:¬ Jv y<u.lo:=λh=>hc (.inl h);have hc2:¬ u.hi<Jv y:=λh=>hc (.inr h)
     (have zz:=aI E3.r (aI E4.r E7.r);(repeat'(first|apply jb<;>intro _|simp(disch:=first|exact jZ|fail) only[ja i0,ja i3,ja i4,ja hi,F,G,hc1,hc2,E3.q,E4.q,E7.q,E3.r,E4.r,E7.r,r8,δ,ε,ζ,η,θ]));all_goals clear zz)
     have S5:=((((((S3.nw [.int .i64 0,.int .i64 0,.str [],.nils,.int .i64 0,.int .i64 0]).wr (c:=s'.nx) om 0 (eE y)).nw [.int .i64 0,.int .i64 0,.str [],.nils,.int .i64 0,.int .i64 0]).wr (c:=s'.nx+1) om 0 (eE y)).wr (c:=q+1) om 5 [.bool true]).wr (c:=q+1) om 6 [.int .i64 (Jv y)]);have k5:=((((((k3.nw om [.int .i64 0,.int .i64 0,.str [],.nils,.int .i64 0,.int .i64 0]).wr (c:=s'.nx) (.inr om) 0 (eE y)).nw (by(first|omega|(simp only[jg,jj,jt,jq,jp];first|done|omega))) [.int .i64 0,.int .i64 0,.str [],.nils,.int .i64 0,.int .i64 0]).wr (c:=s'.nx+1) (.inr om) 0 (eE y)).wr (c:=q+1) (.inr om) 5 [.bool true]).wr (c:=q+1) (.inr om) 6 [.int .i64 (Jv y)]);refine⟨⟨⟨{ u with beg:=true,first:=Jv y },?_,S5,k5,by(first|omega|(simp only[jg,jj,jt,jq,jp];first|done|omega)),?_,Cl.wr (Cl.wr (?_:Cl _ (q+1) (vaE u)) 5 [.bool true]) 6 [.int .i64 (Jv y)],?_,?_,?_⟩,?_⟩,?_,?_⟩
     ·rw[bk2];rfl
     ·exact ckX
     ·exact ckX
     all_goals exact hsX
 ·obtain⟨⟨u,h1,D⟩,i93⟩:=hI;rw[Qaf] at h1;unfold ZZ at hK;rw[h1] at hK;repeat'(first|apply jb<;>intro _|simp(disch:=first|exact dzG|fail) only[r8,δ,ε,ζ,η,θ])
  exact jsh hb D hV K Kp hK
theorem jgw (hb:NB base)(enums:List EnumT)(hl:enums.length<=1000000)(d:DeclT){v2:AV}(st:St){q:Nat}(h:Lr st v2 enums.length (fl enE enums))(C:Cl st q (qm d))(K Kp:AV->St->Prop) :
  XB γ base 92 [v2,.fn 93 [.ptr q 0]] st K Kp=K (.int .i64 (Jz enums d.ty)) st:=by
 refine(jgv hb enums (by unfold BIG;omega) d).xb (q8 (h.lend (y7 J7 enums)) (q8 ?_ JE)) (λst=>hb.no 92 dc _ _) K Kp;show(Qs st.h [.ptr q 0]).map (AV.fn 93)=_;have:ZT st.h (.ptr q 0)=some (.lptr (qm d) 0):=vL C (Qu (Vd 8 rfl) rfl (Qu (Vd 8 rfl) rfl (Qu (Vd 8 rfl) rfl (Qu (Vd 8 rfl) rfl (Qu (Vd 8 rfl) rfl (Qu (Vd 8 rfl) rfl (Qu (Vd 8 rfl) rfl G7)))))));simp only[Qs,this];rfl
set_option maxHeartbeats 4000000 in
theorem jsg (hb:NB base){p mb lo:Nat}{m:ModT}{ts:List (List Nat)}{st:St}(d:DeclT)(V:VarsOK m.vars m.enums)(hV:m.vars.length<=900000)(hx:∀ x∈d.begins,OkE x)(hbl:d.begins.length<=1000000)(hlo : -100000000<=d.lo/\d.lo<=100000000)(hhi : -100000000<=d.hi/\d.hi<=100000000)(H:MX p mb lo m ts st)(K Kp:AV->St->Prop)(hK:KM p mb lo st (QO m ts d) K Kp):XB γ base 69 [.ptr p 0,.agg (qm d)] st K Kp:=by
 obtain⟨v1,v2,v3,S⟩:=H;obtain⟨C,M,l1,l2,l3,d12,d13,d23,hp,hm,pm,lo0,hi0⟩:=id S;refine zH x62 (by rfl) (hb.at0 69 dc dc _ _) ?_;simp only[y62,jr,κ,μ,ν,ξ];rw[(by unfold z62;simp only[qq];rfl:z62=_)];have hnx:st.bare.nx=st.nx:=rfl;have S0:=S.bare.nw (qm d);have q1:=(Kq.refl:Kq p mb lo st.bare st.bare).nw (Qab lo0 hi0) (qm d);have Cb:Cl (Go.Sy.nw st.bare (qm d)) st.nx (qm d):=Cl.new st.bare (qm d);unfold QO XG at hK;repeat'(first|apply jb<;>intro _|simp(disch:=first|exact dzG|fail) only[r8,δ,ε,ζ,η,θ])
 refine KX hb S0.cp S0.mp _ _ _ _ _ ?_;by_cases h:d.name∈ts
 ·rw[if_pos h] at hK ⊢;exact hK _ q1.bk
 ·rw[if_neg h] at hK ⊢
  replace S0:=S0.take (ts ++ [d.name])
  replace q1:=q1.mp (mpl (ts ++ [d.name]))
  have Cb:Cl (Go.Sy.mp (Go.Sy.nw st.bare (qm d)) mb (mpl (ts ++ [d.name]))) st.nx (qm d):=by rw[Vm om];exact Cb
  have hn1:(Go.Sy.mp (Go.Sy.nw st.bare (qm d)) mb (mpl (ts ++ [d.name]))).nx=st.nx+1:=rfl;generalize Go.Sy.mp (Go.Sy.nw st.bare (qm d)) mb (mpl (ts ++ [d.name]))=s1 at *;dsimp only at hK;have Cv:=(Cl.new s1 va0).wr0 (c':=vaE ⟨d.name,1,[],d.lo,d.hi,false,0⟩) rfl;have S1:=(S0.nw va0).wr (c:=s1.nx) om 0 (vaE ⟨d.name,1,[],d.lo,d.hi,false,0⟩);have q2:=(q1.nw om va0).wr (c:=s1.nx) (.inr om) 0 (vaE ⟨d.name,1,[],d.lo,d.hi,false,0⟩);have Cd:Cl (Go.Sy.wr (Go.Sy.nw s1 va0) s1.nx 0 (vaE ⟨d.name,1,[],d.lo,d.hi,false,0⟩)) st.nx (qm d):=ckX
  have FE:=λK Kp=>jgw hb m.enums V.len2 d _ S1.l2.lr Cd K Kp;have C0:=S0.cp;have C1:=S1.cp;have hmp:st.nx≠p/\st.nx+1≠p:=om
  simp only[WH,hn1] at FE;simp only[hn1] at S1 q2 Cv Cd C1;unfold va0 at *;have mk:∀ (v:VarT) (L:Sl) (s:St),MS p mb lo st.nx m (ts ++ [d.name]) v1 v2 v3 s->Kq p mb lo st.bare s->st.nx+2<=s.nx->Cl s st.nx (qm d)->Cl s (st.nx+1) (vaE v)->Has L 0 (.ptr p 0)->Has L 3 (.ptr st.nx 0)->Has L 4 (.ptr (st.nx+1) 0)->KM p mb lo st (ZZ m (ts ++ [d.name]) d v) K Kp->xC γ base jbK L s (dQ st K) (dP st Kp):=λv L s a1 a2 a3 a4 a5 a6 a7 a8 hK=>jsi hb ⟨a1,a2,a3,a4,a5,a6,a7,a8⟩ V hV hx hbl K Kp hK;unfold ZU at hK;by_cases h1:d.ty=[98,111,111,108]
  ·rw[if_pos h1] at hK;have S2:=(((S1.wr (c:=st.nx+1) om 1 [.int .i64 2]).wr (c:=st.nx+1) om 3 [.int .i64 0]).wr (c:=st.nx+1) om 4 [.int .i64 1]);have q3:=(((q2.wr (c:=st.nx+1) (.inr om) 1 [.int .i64 2]).wr (c:=st.nx+1) (.inr om) 3 [.int .i64 0]).wr (c:=st.nx+1) (.inr om) 4 [.int .i64 1])
   (have zz:=aI @hn1 (aI @Cb.r C0.r);(repeat'(first|apply jb<;>intro _|simp(disch:=first|exact jZ|fail) only[FE,h1,hn1,Cb.q,C0.q,hn1,Cb.r,C0.r,r8,δ,ε,ζ,η,θ]));all_goals clear zz)
   refine mk ⟨d.name,2,[],0,1,false,0⟩ _ _ S2 q3 (by(first|omega|(simp only[jg,jj,jt,jq,jp];first|done|omega))) (ckX) ?_ ?_ ?_ ?_ hK
   ·exact((Cv.wr 1 [.int .i64 2]).wr 3 [.int .i64 0]).wr 4 [.int .i64 1]
   all_goals simp(disch:=decide) only[ji,ju]
  rw[if_neg h1] at hK;by_cases h2:0<=Jz m.enums d.ty
  ·rw[if_pos h2] at hK;have hlt:Jz m.enums d.ty<(m.enums.length:Int):=wR;have hi2:(Jz m.enums d.ty).toNat<m.enums.length:=om
   have eg:m.enums.getD (Jz m.enums d.ty).toNat en0=m.enums[(Jz m.enums d.ty).toNat]:=by simp[Qad,hi2]
   rw[eg] at hK;have Lw:=S0.l2;rcases id Lw with ⟨_,e0,_⟩|⟨b,rfl,b1,b2,Ce,b5,b6⟩
   ·omega
   have gl:qv s1.h b=m.enums.length * 4:=by rw[Ce.len,Jk Qj]
   have ge:rat s1.h b ((Jz m.enums d.ty).toNat * 4+1)=.lst m.enums[(Jz m.enums d.ty).toNat].vals.length (m.enums[(Jz m.enums d.ty).toNat].vals.map .str):=by
    rw[Ce.cell _ (by rw[Jk Qj];omega),vQ Qj hi2 dc];rfl
   have hbp:b≠p/\b≠st.nx/\b≠st.nx+1/\b<s1.nx:=om
   have gp:rat s1.h p 1=.slice b 0 m.enums.length m.enums.length 4 false:=C0.cell 1 (by simp only[φ,ω];omega);have gd:rat s1.h st.nx 1=.str d.ty:=(Cb.cell 1 (by rw[Q4];decide)).trans (by rw[Wv];rfl);have hvl:=V.vals _ (Qac hi2)
   (have zz:=a4 @hn1 @gl @ge (aI @Cb.r C0.r);(repeat'(first|apply jb<;>intro _|simp(disch:=first|exact jZ|fail) only[FE,h1,h2,hn1,ge,sm9,GK,GJ,Cb.q,C0.q,hn1,gl,ge,Cb.r,C0.r,r8,δ,ε,ζ,η,θ]));all_goals clear zz)
   refine⟨?_,?_,?_,?_⟩;rotate_right
   ·have S2:=((((S1.wr (c:=st.nx+1) om 1 [.int .i64 3]).wr (c:=st.nx+1) om 2 [.str d.ty]).wr (c:=st.nx+1) om 3 [.int .i64 0]).wr (c:=st.nx+1) om 4 [.int .i64 ((m.enums[(Jz m.enums d.ty).toNat].vals.length:Int) - 1)]);have q3:=((((q2.wr (c:=st.nx+1) (.inr om) 1 [.int .i64 3]).wr (c:=st.nx+1) (.inr om) 2 [.str d.ty]).wr (c:=st.nx+1) (.inr om) 3 [.int .i64 0]).wr (c:=st.nx+1) (.inr om) 4 [.int .i64 ((m.enums[(Jz m.enums d.ty).toNat].vals.length:Int) - 1)]);refine mk ⟨d.name,3,d.ty,0,(m.enums[(Jz m.enums d.ty).toNat].vals.length:Int) - 1,false,0⟩ _ _ S2 q3 (by(first|omega|(simp only[jg,jj,jt,jq,jp];first|done|omega))) (ckX) ?_ ?_ ?_ ?_ hK
    ·exact(((Cv.wr 1 [.int .i64 3]).wr 2 [.str d.ty]).wr 3 [.int .i64 0]).wr 4 [.int .i64 ((m.enums[(Jz m.enums d.ty).toNat].vals.length:Int) - 1)]
    all_goals simp(disch:=decide) only[ji,ju]
   all_goals
    repeat' apply aI
    all_goals first
     |exact(GJ (by simp(disch:=omega) only[Xo,XQ,gl];omega) (by simp(disch:=omega) only[Z9,v7,ge]) rfl).mpr trivial
     |exact(GK (by simp(disch:=omega) only[Xo,XQ,C0.len,φ,ω];omega) (by simp(disch:=omega) only[Z9,v7,gp]) rfl).mpr trivial
     |exact(sm9 (by simp(disch:=omega) only[Xo,XQ,Cb.len,Q4];omega) (by simp(disch:=omega) only[Z9,v7,gd]) rfl).mpr trivial
  rw[if_neg h2] at hK;by_cases h3:d.ty≠[]
  ·rw[if_pos h3] at hK
   (have zz:=aI @hn1 (aI @Cb.r C0.r);(repeat'(first|apply jb<;>intro _|simp(disch:=first|exact jZ|fail) only[FE,h1,h2,h3,hn1,Ja hb,Cb.q,C0.q,hn1,Cb.r,C0.r,r8,δ,ε,ζ,η,θ]));all_goals clear zz)
   exact hK _ q2.bk
  rw[if_neg h3] at hK;have h3:(d.ty=[])=True:=eq_true (by simpa using h3);by_cases h4:d.hi<d.lo
  ·rw[if_pos h4] at hK
   (have zz:=aI @hn1 (aI @Cb.r C0.r);(repeat'(first|apply jb<;>intro _|simp(disch:=first|exact jZ|fail) only[FE,h1,h2,h3,h4,hn1,Ja hb,Cb.q,C0.q,hn1,Cb.r,C0.r,r8,δ,ε,ζ,η,θ]));all_goals clear zz)
   exact hK _ q2.bk
  rw[if_neg h4] at hK;by_cases h5:1024<=d.hi - d.lo
  ·rw[if_pos h5] at hK
   (have zz:=aI @hn1 (aI @Cb.r C0.r);(repeat'(first|apply jb<;>intro _|simp(disch:=first|exact jZ|fail) only[FE,h1,h2,h3,h4,h5,hn1,Ja hb,Cb.q,C0.q,hn1,Cb.r,C0.r,r8,δ,ε,ζ,η,θ]));all_goals clear zz)
   exact hK _ q2.bk
  rw[if_neg h5] at hK
  (have zz:=aI @hn1 (aI @Cb.r C0.r);(repeat'(first|apply jb<;>intro _|simp(disch:=first|exact jZ|fail) only[FE,h1,h2,h3,h4,h5,hn1,Cb.q,C0.q,hn1,Cb.r,C0.r,r8,δ,ε,ζ,η,θ]));all_goals clear zz)
  refine mk _ _ _ S1 q2 (by(first|omega|(simp only[jg,jj,jt,jq,jp];first|done|omega))) (ckX) Cv ?_ ?_ ?_ hK;all_goals simp(disch:=decide) only[ji,ju]
theorem Ug {s:St}:∀ {cs:List AV},cs.all pc=true->lall AV.cell cs=true->Yw (fz 9 s.h) cs=cs
 |[],_,_=>G7
 |v :: l,hp,hc=>by
  rw[QaF,Qaa] at hp;have h1:v.cell=true/\lall AV.cell l=true:=by
   have:cond v.cell (lall AV.cell l) false=true:=hc;cases h:v.cell with
   |true=>rw[h] at this;exact⟨rfl,this⟩
   |false=>rw[h] at this;cases this
  exact Qu (Vd 8 hp.1) h1.1 (Ug hp.2 h1.2)
theorem jmJ {α:Type}{enc:α->List AV}{z:Nat}(hz:∀ x,(enc x).length=z){xs:List α}{k:IntKind}{i:Nat}(hi:i<=xs.length){st:St}{K:AV->St->Prop}:jh (vE z (.lst xs.length (fl enc xs)) none (some (.int k (i:Int))) st) K=K (.lst i (fl enc (xs.take i))) st:=by
 have e1:Qcy (QcA i z) (jO (fl enc xs))=true:=by
  rw[jL,Jk hz];exact qu (Qax z hi)
 simp only[vE,optA,GT,qu hi,qu (Qae i),e1,cond_true,jh,qK,yP];have e2:(fl enc xs).drop (QcA 0 z)=fl enc xs:=by rw[show QcA 0 z=0 from QaU z];rfl
 have e3:QcA (QcB i 0) z=i * z:=rfl;rw[e2,e3,je3 hz];rfl
theorem joW (hb:NB base)(xs:List AsT)(hl:xs.length<=1000000)(a:AsT)(st:St){q:Nat}(C:Cl st q (asE a))(n:Nat)(hn:n=xs.length)(K Kp:AV->St->Prop) :
  XB γ base 98 [.lst n (fl asE xs),.fn 99 [.ptr q 0]] st K Kp=K (.bool (decide (0<=fi (λx=>decide (x.name=a.name)) xs))) st:=by
 subst hn;refine(joV hb xs (by unfold BIG;omega) a).xb (JO rfl (q8 ?_ JE)) (λst=>hb.no 98 dc _ _) K Kp;show(Qs st.h [.ptr q 0]).map (AV.fn 99)=_;have:ZT st.h (.ptr q 0)=some (.lptr (asE a) 0):=vL C (Ug (Xe a) (Gs a));simp only[Qs,this];rfl
theorem jfQ (hb:NB base){p:Nat}{v1 v2 v3 mm:AV}{vars:List VarT}{enums:List EnumT}{fm:Bool}{st:St}(C:Ck p v1 v2 v3 mm vars enums fm st)(hl:vars.length<=1000000)(s:List Nat)(K Kp:AV->St->Prop) :
  XB γ base 97 [.ptr p 0,.str s] st K Kp=K (.int .i64 (qc vars s)) st:=by
 obtain⟨r,hr⟩:=C.lend;exact(KL hb vars (by unfold BIG;omega) s _).xb (q8 hr (JO rfl JE)) (λst=>hb.no 97 dc _ _) K Kp
def mvc:List MoveT->List AV->List AV
 |m :: ms,u :: us=>(eE m.when ++ [u]) ++ mvc ms us
 |_,_=>[]
theorem jeL:∀ {ms:List MoveT} {us:List AV} {m:MoveT} {u:AV},us.length=ms.length->mvc (ms ++ [m]) (us ++ [u])=mvc ms us ++ (eE m.when ++ [u])
 |[],[],m,u,_=>by simp[mvc]
 |m' :: ms,u' :: us,m,u,h=>by
  show(eE m'.when ++ [u']) ++ mvc (ms ++ [m]) (us ++ [u])=((eE m'.when ++ [u']) ++ mvc ms us) ++ (eE m.when ++ [u]);rw[jeL (by simpa using h)];simp only[QaG]
 |[],u' :: us,m,u,h=>by simp at h
 |m' :: ms,[],m,u,h=>by simp at h
def UU (lo hi:Nat)(s:St)(v3:AV):List MoveT->List AV->Prop
 |[],[]=>True
 |m :: ms,u :: us=>(Lv lo hi s u m.acts.length (fl seE m.acts) 7/\Df v3 u)/\UU lo hi s v3 ms us
 |_,_=>False
theorem UU.imp {lo hi lo' hi':Nat}{s s':St}{v3 v3':AV}(f:∀ u n cs,Lv lo hi s u n cs 7/\Df v3 u->Lv lo' hi' s' u n cs 7/\Df v3' u):∀ {ms:List MoveT} {us:List AV},UU lo hi s v3 ms us->UU lo' hi' s' v3' ms us
 |[],[],_=>trivial
 |m :: ms,u :: us,h=>⟨f _ _ _ h.1,UU.imp f h.2⟩
theorem UU.len {lo hi:Nat}{s:St}{v3:AV}:∀ {ms:List MoveT} {us:List AV},UU lo hi s v3 ms us->us.length=ms.length
 |[],[],_=>rfl
 |m :: ms,u :: us,h=>by simp[UU.len h.2]
theorem UU.app {lo hi:Nat}{s:St}{v3:AV}{m:MoveT}{u:AV}(hu:Lv lo hi s u m.acts.length (fl seE m.acts) 7/\Df v3 u):∀ {ms:List MoveT} {us:List AV},UU lo hi s v3 ms us->UU lo hi s v3 (ms ++ [m]) (us ++ [u])
 |[],[],_=>⟨hu,trivial⟩
 |m' :: ms,u' :: us,h=>⟨h.1,UU.app hu h.2⟩
structure MR (p mb lo hi:Nat)(m:ModT)(ts:List (List Nat))(v1 v2 v3:AV)(us:List AV)(s:St):Prop where
 cp:Cl s p [v1,v2,v3,.map mb,.bool false]
 mp:Mp s mb ts
 l1:Lv lo hi s v1 m.vars.length (fl vaE m.vars) 7
 l2:Lv lo hi s v2 m.enums.length (fl enE m.enums) 4
 l3:Lv lo hi s v3 m.moves.length (mvc m.moves us) 7
 uu:UU lo hi s v3 m.moves us
 d13:Df v3 v1
 d23:Df v3 v2
 hp:p<lo
 hm:mb<lo
 pm:p≠mb
 lo:lo<=hi
 hi:hi<=s.nx
def MZ (p mb lo:Nat)(m:ModT)(ts:List (List Nat))(s:St):Prop:=∃ v1 v2 v3 us,MR p mb lo s.nx m ts v1 v2 v3 us s
theorem Df.symm2 {v w:AV}(h:Df v w):Df w v:=by
 unfold Df at *;cases v<;>cases w<;>first|trivial|exact λe=>h e.symm
section
variable {p mb lo hi:Nat} {m:ModT} {ts us:List (List Nat)} {v1 v2 v3:AV} {ws:List AV} {s t:St}
theorem MS.mr (S:MS p mb lo hi m ts v1 v2 v3 s)(h:m.moves=[]):MR p mb lo hi m ts v1 v2 v3 [] s:=by
 obtain⟨C,M,l1,l2,l3,d12,d13,d23,hp,hm,pm,h1,h2⟩:=S;refine⟨C,M,l1,l2,?_,?_,Df.symm2 d13,Df.symm2 d23,hp,hm,pm,h1,h2⟩
 ·rw[h] at l3 ⊢;exact l3
 ·rw[h];trivial
theorem MR.ck (S:MR p mb lo hi m ts v1 v2 v3 ws s):Ck p v1 v2 v3 (.map mb) m.vars m.enums false s:=by
 obtain⟨C,M,l1,l2,l3,uu,d13,d23,hp,hm,pm,h1,h2⟩:=S;refine⟨C,l1.lr,l2.lr,?_,?_⟩
 ·intro b k z x e;rcases l1 with ⟨h,_⟩|⟨c,h,h2,_⟩
  ·rw[h] at e;cases e
  ·rw[h] at e;cases e;omega
 ·intro b k z x e;rcases l2 with ⟨h,_⟩|⟨c,h,h2,_⟩
  ·rw[h] at e;cases e
  ·rw[h] at e;cases e;omega
theorem MR.imp (S:MR p mb lo hi m ts v1 v2 v3 ws s){hi':Nat}(C:Cl t p [v1,v2,v3,.map mb,.bool false])(M:Mp t mb us)(f:∀ v n cs z,Lv lo hi s v n cs z->Lv lo hi' t v n cs z)(h1:hi<=hi')(h2:hi'<=t.nx):MR p mb lo hi' m us v1 v2 v3 ws t:=
 ⟨C,M,f _ _ _ _ S.l1,f _ _ _ _ S.l2,f _ _ _ _ S.l3,S.uu.imp λu n cs h=>⟨f _ _ _ _ h.1,h.2⟩,S.d13,S.d23,S.hp,S.hm,S.pm,Qab S.lo h1,h2⟩
theorem MR.nw (S:MR p mb lo hi m ts v1 v2 v3 ws s)(ds:List AV):MR p mb lo hi m ts v1 v2 v3 ws (Go.Sy.nw s ds):=by
 have C:=S.cp;have h1:=S.hp;have h2:=S.hi;have h3:=S.lo;exact S.imp (ckX) (S.mp.nw ds) (λv n cs z h=>ckX) (τ _) (by rw[jg];omega)
theorem MR.wr (S:MR p mb lo hi m ts v1 v2 v3 ws s){c:Nat}(hc:hi<=c)(o:Nat)(ds:List AV):MR p mb lo hi m ts v1 v2 v3 ws (Go.Sy.wr s c o ds):=by
 have C:=S.cp;have h1:=S.hp;have h2:=S.hi;have h3:=S.lo;have h4:=S.hm;exact S.imp (ckX) (S.mp.wr om o ds) (λv n cs z h=>ckX) (τ _) (by rw[jj];omega)
theorem MR.take (S:MR p mb lo hi m ts v1 v2 v3 ws s)(us:List (List Nat)):MR p mb lo hi m us v1 v2 v3 ws (Go.Sy.mp s mb (mpl us)):=
 S.imp (by rw[Vm S.pm];exact S.cp) S.mp.put (λv n cs z h=>h.mp S.hm) (τ _) S.hi
theorem MR.keep (S:MR p mb lo hi m ts v1 v2 v3 ws s)(k:Keep p s t)(C':Cl t p [v1,v2,v3,.map mb,.bool false]):MR p mb lo hi m ts v1 v2 v3 ws t:=
 S.imp C' (S.mp.keep k.nx (k.get mb S.mp.lt (λe=>S.pm e.symm))) (λv n cs z h=>k.lv h (.inl S.hp)) (τ _) (Qab S.hi k.nx)
theorem MR.up (S:MR p mb lo hi m ts v1 v2 v3 ws s){hi':Nat}(h:hi<=hi')(h2:hi'<=s.nx):MR p mb lo hi' m ts v1 v2 v3 ws s:=
 S.imp S.cp S.mp (λv n cs z k=>k.up h) h h2
theorem MR.bare (S:MR p mb lo hi m ts v1 v2 v3 ws s):MR p mb lo hi m ts v1 v2 v3 ws s.bare:=
 S.imp S.cp.bar ⟨S.mp.lt,S.mp.get⟩ (λv n cs z h=>by rw[jH];exact h) (τ _) S.hi
theorem MR.ofbk {u:St}(S:MR p mb lo hi m ts v1 v2 v3 ws s):MR p mb lo hi m ts v1 v2 v3 ws (bk u s):=by
 have e:∀ b cs,Cl s b cs->Cl (bk u s) b cs:=λb cs h=>⟨h.lt,h.row,h.len,h.cell⟩;exact S.imp (e _ _ S.cp) ⟨S.mp.lt,S.mp.get⟩ (λv n cs z h=>h.imp id λ⟨c,h1,h2,h3,h4,h5,h6⟩=>⟨c,h1,h2,h3,e _ _ h4,h5,h6⟩) (τ _) S.hi
theorem MR.aps (S:MR p mb lo hi m ts v1 v2 v3 ws s){lo' hi' n' z':Nat}{v':AV}{cs':List AV}(V:Lv lo' hi' s v' n' cs' z')(h:hi<=lo')(ds:List AV):MR p mb lo hi m ts v1 v2 v3 ws (Go.Sy.aps v' s ds):=by
 have h0:=S.hp;have h1:=S.hm;have h2:=S.lo;have h3:=S.hi;exact S.imp (S.cp.aps V (.inl om)) (S.mp.keep (by rw[jq];omega) (V.get s ds mb (.inl om) S.mp.lt)) (λv n cs z k=>k.aps V (.inl h)) (τ _) (by rw[jq];omega)
theorem Lv.low {lo lo' hi n z:Nat}{s:St}{v:AV}{cs:List AV}(h:Lv lo' hi s v n cs z)(h2:lo<=lo'):Lv lo hi s v n cs z:=h.imp id λ⟨c,h1,h3,h4,h5,h6,h7⟩=>⟨c,h1,h3,h4,h5,om,h7⟩
theorem MR.move (S:MR p mb lo hi m ts v1 v2 v3 ws s)(e:MoveT){u:AV}{z:Nat}(V:Lv z s.nx s u e.acts.length (fl seE e.acts) 7)(hz:hi<=z):MR p mb lo (s.nx+1) { m with moves:=m.moves ++ [e] } ts v1 v2 (apv 7 v3 s) (ws ++ [u]) (Go.Sy.wr (Go.Sy.aps v3 s (eE e.when ++ [u])) p 2 [apv 7 v3 s]):=by
 obtain⟨C,M,l1,l2,l3,uu,d13,d23,hp,hm,pm,h1,h2⟩:=S;have h4:=C.lt;have hn:(Go.Sy.wr (Go.Sy.aps v3 s (eE e.when ++ [u])) p 2 [apv 7 v3 s]).nx=s.nx+1:=by rw[jj,jq]
 refine⟨?_,?_,?_,?_,?_,?_,(Df.put l1 h2).1,(Df.put l2 h2).1,hp,hm,pm,om,by rw[hn];exact τ _⟩
 ·exact(cast (l3.cl s (eE e.when ++ [u]) _ p (.inl hp) h4).symm C:Cl (Go.Sy.aps v3 s (eE e.when ++ [u])) p _).wr 2 [apv 7 v3 s]
 ·exact M.keep (by rw[hn];omega) (by rw[zG (λh=>pm h.symm)];exact l3.get s (eE e.when ++ [u]) mb (.inl hm) M.lt)
 ·rw[jA (.inl hp)];exact(l1.apsD d13).up om
 ·rw[jA (.inl hp)];exact(l2.apsD d23).up om
 ·rw[jA (.inl hp),υ,jeL uu.len];exact l3.put (by rw[υ,Jl];rfl) om rfl
 ·refine UU.app ?_ (uu.imp λu n cs h=>?_)
  ·rw[jA (.inl hp)];refine⟨((V.aps l3 (.inr hz)).up om).low om,?_⟩;have V':Lv lo s.nx s u e.acts.length (fl seE e.acts) 7:=V.low om;exact(Df.put V' (τ _)).1
  ·rw[jA (.inl hp)];exact⟨(h.1.apsD h.2).up om,(Df.put h.1 h2).1⟩
end
def vz:VarT:=⟨[],0,[],0,0,false,0⟩
def QJ (vars:List VarT)(enums:List EnumT):List SetT->List AsT->List AsT->KR (List SetT)
 |acc,done,[]=>.ok acc
 |acc,done,a :: rest=>if qc vars a.name<0 then .er 161 a.line a.col
  else if 0<=fi (λx=>decide (x.name=a.name)) done then .er 162 a.line a.col
  else match yy vars enums false a.to (vars.getD (qc vars a.name).toNat vz).kind (vars.getD (qc vars a.name).toNat vz).enum with
   |.er x y z=>.er x y z
   |.ok y=>QJ vars enums (acc ++ [⟨qc vars a.name,y⟩]) (done ++ [a]) rest
def XJ (m:ModT)(ts:List (List Nat))(r:RuleT):KR (ModT×List (List Nat)):=match yy m.vars m.enums false r.when 2 [] with
 |.er a b c=>.er a b c
 |.ok w=>match QJ m.vars m.enums [] [] r.acts with
  |.er a b c=>.er a b c
  |.ok ss=>.ok ({ m with moves:=m.moves ++ [⟨w,ss⟩] },ts)
def KZ (p mb lo:Nat)(st:St)(r:KR (ModT×List (List Nat)))(K Kp:AV->St->Prop):Prop:=match r with
 |.ok y=>∀ s',Kq p mb lo st s'->MZ p mb lo y.1 y.2 s'->K (.tup []) s'
 |.er c l k=>∀ s',Kq p mb lo st s'->Kp (kf c l k) s'
def moL (w:Ex)(vl:AV):List AV:=[.int .i64 w.op,.int .i64 w.num,.str w.name,.lst w.kids.length (fl eE w.kids),.int .i64 w.line,.int .i64 w.col,vl]
theorem jrw (w:Ex)(vl:AV):eE w ++ [vl]=moL w vl:=by rw[qJ];rfl
def rQ (st:St)(K:AV->St->Prop):Out->Prop:=Xw γ y64.res λv s=>K v (back st s)
structure RS (p mb lo q z:Nat)(m:ModT)(ts:List (List Nat))(v1 v2 v3:AV)(ws:List AV)(r:RuleT)(w:Ex)(acc:List SetT)(vl:AV)(st:St)(L:Sl)(s:St):Prop where
 S:MR p mb lo q m ts v1 v2 v3 ws s
 k:Kq p mb lo st.bare s
 qz:q<z
 nx:z+1<=s.nx
 c3:Cl s q (ruE r)
 c4:Cl s z (moL w vl)
 lv:Lv (z+1) s.nx s vl acc.length (fl seE acc) 7
 i0:Has L 0 (.ptr p 0)
 i3:Has L 3 (.ptr q 0)
 i4:Has L 4 (.ptr z 0)
theorem RS.push {p mb lo q z:Nat}{m:ModT}{ts:List (List Nat)}{v1 v2 v3:AV}{ws:List AV}{r:RuleT}{w:Ex}{acc:List SetT}{vl:AV}{st:St}{L:Sl}{s:St}(D:RS p mb lo q z m ts v1 v2 v3 ws r w acc vl st L s){c:Nat}{v:AV}(h:c≠0/\c≠3/\c≠4):RS p mb lo q z m ts v1 v2 v3 ws r w acc vl st ((c,v) :: L) s:=by
 obtain⟨S,k,qz,nx,c3,c4,lv,i0,i3,i4⟩:=D;exact⟨S,k,qz,nx,c3,c4,lv,by rw[ji h.1];exact i0,by rw[ji h.2.1];exact i3,by rw[ji h.2.2];exact i4⟩
theorem r13:type_of%(a8 @jd @jf @jW @je @jc @jk @jl (a4 @jn @jo @jm @rzZ)):=a8 @jd @jf @jW @je @jc @jk @jl (a4 @jn @jo @jm @rzZ)
set_option maxHeartbeats 4000000 in
theorem jre (hb:NB base){p mb lo q z:Nat}{m:ModT}{ts:List (List Nat)}{v1 v2 v3:AV}{ws:List AV}{r:RuleT}{w:Ex}{acc:List SetT}{vl:AV}{st:St}{L:Sl}{s:St}(D:RS p mb lo q z m ts v1 v2 v3 ws r w acc vl st L s)(hM:m.moves.length<=1000000)(K Kp:AV->St->Prop)
  (hK:KZ p mb lo st (.ok ({ m with moves:=m.moves ++ [⟨w,acc⟩] },ts)) K Kp):xC γ base jfA L s (rQ st K) (dP st Kp):=by
 obtain⟨S,k,qz,nx,C3,C4,lv,i0,i3,i4⟩:=D;have C:=S.cp;have l3:=S.l3;have hp:=S.hp;have hlo:=S.lo;have hhi:=S.hi;have ve3:=l3.eqs;have vc:∀ l,lall AV.cell (vl :: l)=lall AV.cell l:=λl=>by show cond vl.cell _ false=_;rw[lv.cell];rfl
 have Ap:=λst' bv xc xx K h hv=>@JT lo q m.moves.length 7 st' v3 (mvc m.moves ws) K 96 bv xc xx h dc om om hv;have hqp:q≠p/\z≠p:=om
 have lv2:Lv (z+1) (Go.Sy.nw s (moL w vl)).nx (Go.Sy.nw s (moL w vl)) vl acc.length (fl seE acc) 7:=by
  refine Lv.up (hi:=s.nx) ?_ (by(first|omega|(simp only[jg,jj,jt,jq,jp];first|done|omega)))
  exact ckX
 have S3:=(S.nw (moL w vl)).move ⟨w,acc⟩ (u:=vl) lv2 om;rw[jrw] at S3;have q2:=(((k.nw om (moL w vl)).aps l3 (by(first|omega|(simp only[jg,jj,jt,jq,jp];first|done|omega))) (moL w vl)).wr (.inl rfl) 2 [apv 7 v3 (Go.Sy.nw s (moL w vl))]).bk;have S2:=(S3.up (by(first|omega|(simp only[jg,jj,jt,jq,jp];first|done|omega))) (τ _)).ofbk (u:=st);have gp:rat s.h p 2=v3:=C.cell 2 (by simp only[φ,ω];omega);clear S3 lv2;unfold moL at *;unfold rQ dP y64;rw[(by unfold jfA;simp only[qq];rfl:jfA=_)]
 (have zz:=a8 @vc @l3.ln @l3.rts @jA @jE @jJ @l3 (a4 @jC @jI @jM (aI C3.r (aI C4.r C.r)));(repeat'(first|apply jb<;>intro _|simp(disch:=first|exact jZ|fail) only[ja i0,ja i3,ja i4,Ap,l3.at,jC,C3.q,C4.q,C.q,vc,l3.ln,l3.rts,jA,jE,jJ,l3,jC,jI,jM,C3.r,C4.r,C.r,r13,δ,ε,ζ,η,θ]));all_goals clear zz)
 exact hK _ q2 ⟨_,_,_,_,S2⟩
theorem jta:Go.Ev.isAgg γ 67=some false:=by kernel_rfl
theorem js9:Go.Ev.sizeOf γ 67=some 1:=by kernel_rfl
theorem jq6 {b o:Nat}{v:AV}{h:T AO}(ho:o<qv h b)(hv:rat h b o=v)(hc:eqs v=true):(jY γ 67 (.ptr b o) v h=true)=True:=eq_true (QW jta js9 ho hv hc)
def zA9:List AV:=[.str [],.int .i64 0,.int .i64 0,.str [],.nils,.int .i64 0,.int .i64 0,.int .i64 0,.int .i64 0]
theorem jch {vars:List VarT}{enums:List EnumT}{acc:List SetT}{xs:List AsT}{k:Nat}(hk:k<xs.length):QJ vars enums acc (xs.take k) (xs.drop k)=if qc vars xs[k].name<0 then .er 161 xs[k].line xs[k].col
  else if 0<=fi (λx=>decide (x.name=xs[k].name)) (xs.take k) then .er 162 xs[k].line xs[k].col
  else match yy vars enums false xs[k].to (vars.getD (qc vars xs[k].name).toNat vz).kind (vars.getD (qc vars xs[k].name).toNat vz).enum with
   |.er x y z=>.er x y z
   |.ok y=>QJ vars enums (acc ++ [⟨qc vars xs[k].name,y⟩]) (xs.take (k+1)) (xs.drop (k+1)):=by
 have e:xs.drop k=xs[k] :: xs.drop (k+1):=(QbU hk).symm;rw[e,QJ,<-yz hk]<;>rfl
set_option maxHeartbeats 8000000 in
theorem jrf (hb:NB base){p mb lo q z:Nat}{m:ModT}{ts:List (List Nat)}{v1 v2 v3:AV}{ws:List AV}{r:RuleT}{w:Ex}{st:St}{L:Sl}{s:St}(D:RS p mb lo q z m ts v1 v2 v3 ws r w [] .nils st L s)(V:VarsOK m.vars m.enums)(hx:∀ a∈r.acts,OkE a.to)(hbl:r.acts.length<=1000000)(hM:m.moves.length<=1000000)(K Kp:AV->St->Prop)
  (hK:KZ p mb lo st (match QJ m.vars m.enums [] [] r.acts with | .er a b c=>.er a b c | .ok ss=>.ok ({ m with moves:=m.moves ++ [⟨w,ss⟩] },ts)) K Kp):xC γ base jfB L s (rQ st K) (dP st Kp):=by
 have i0:=D.i0;have i3:=D.i3;have i4:=D.i4;have C3:=D.c3;rw[(by unfold jfB;simp only[qq];rfl:jfB=_)]
 (have zz:=C3.r;(repeat'(first|apply jb<;>intro _|simp(disch:=first|exact jZ|fail) only[ja i0,ja i3,ja i4,C3.q,C3.r,r13,δ,ε,ζ,η,θ]));all_goals clear zz)
 refine jX r.acts.length (λk L s=>(∃ acc vl,acc.length=k/\QJ m.vars m.enums [] [] r.acts=QJ m.vars m.enums acc (r.acts.take k) (r.acts.drop k)/\RS p mb lo q z m ts v1 v2 v3 ws r w acc vl st L s)/\Has L 14 (.lst r.acts.length (fl asE r.acts))) ?_ (λk L s hk hI hi hn=>?_) (λL s hI=>?_) (hc:=(λk L s v h=>(by obtain⟨⟨acc,vl,h0,h1,h2⟩,h3⟩:=h;refine⟨⟨acc,vl,h0,h1,h2.push dc⟩,?_⟩;simp(disch:=decide) only[ji];assumption))) (hI:=(λk L s v h=>(by obtain⟨⟨acc,vl,h0,h1,h2⟩,h3⟩:=h;refine⟨⟨acc,vl,h0,h1,h2.push dc⟩,?_⟩;simp(disch:=decide) only[ji];assumption)))
 ·refine⟨⟨[],.nils,rfl,rfl,((D.push dc).push dc).push dc⟩,?_⟩;simp(disch:=decide) only[ji,ju]
 ·obtain⟨⟨acc,vl,hacc,h1,D⟩,i14⟩:=hI;obtain⟨S,k0,qz,nx,C3,C4,lv,i0,i3,i4⟩:=D;obtain⟨x1,x2⟩:=hx _ (Qac hk);have hlo:=S.lo;have hhi:=S.hi;have hp:=S.hp;have hqm:q≠p/\z≠p:=om
  have zl9:(asE r.acts[k]).length=zA9.length:=by rw[Z0];rfl
  have S1:=(S.nw zA9).wr (c:=s.nx) om 0 (asE r.acts[k]);have k1:=(k0.nw om zA9).wr (c:=s.nx) (.inr om) 0 (asE r.acts[k]);have C6:=(Cl.new s zA9).wr0 zl9;have D3:Cl (Go.Sy.wr (Go.Sy.nw s zA9) s.nx 0 (asE r.acts[k])) q (ruE r):=ckX
  have D4:Cl (Go.Sy.wr (Go.Sy.nw s zA9) s.nx 0 (asE r.acts[k])) z (moL w vl):=ckX
  have lv1:Lv (z+1) s.nx (Go.Sy.wr (Go.Sy.nw s zA9) s.nx 0 (asE r.acts[k])) vl acc.length (fl seE acc) 7:=ckX
  have hn1:(Go.Sy.wr (Go.Sy.nw s zA9) s.nx 0 (asE r.acts[k])).nx=s.nx+1:=rfl;have VC:=λnm K Kp=>jfQ hb S1.ck V.len nm K Kp;have HA:=λK Kp=>joW hb (r.acts.take k) (by rw[Qap];omega) r.acts[k] _ C6 k (by rw[Qap];omega) K Kp;have SL:=λst K=>@jmJ _ asE 9 Z0 r.acts .i64 k (QbS hk) st K;rw[h1,jch hk] at hK;unfold zA9 at *
  (have zz:=aI C3.r C4.r;(repeat'(first|apply jb<;>intro _|simp(disch:=first|exact jZ|fail) only[ja i0,ja i3,ja i4,ja i14,ja hi,ja hn,C3.q,C4.q,C3.r,C4.r,r13,δ,ε,ζ,η,θ]));all_goals clear zz)
  generalize Go.Sy.wr (Go.Sy.nw s [.str [],.int .i64 0,.int .i64 0,.str [],.nils,.int .i64 0,.int .i64 0,.int .i64 0,.int .i64 0]) s.nx 0 (asE r.acts[k])=t1 at *;have C1:=S1.cp;by_cases c1:qc m.vars r.acts[k].name<0
  ·rw[if_pos c1] at hK
   (have zz:=aI D3.r (aI D4.r C6.r);(repeat'(first|apply jb<;>intro _|simp(disch:=first|exact jZ|fail) only[ja i0,ja i3,ja i4,VC,c1,Ja hb,D3.q,D4.q,C6.q,D3.r,D4.r,C6.r,r13,δ,ε,ζ,η,θ]));all_goals clear zz)
   exact hK _ k1.bk
  rw[if_neg c1] at hK;by_cases c2:0<=fi (λx=>decide (x.name=r.acts[k].name)) (r.acts.take k)
  ·rw[if_pos c2] at hK
   (have zz:=aI D3.r (aI D4.r C6.r);(repeat'(first|apply jb<;>intro _|simp(disch:=first|exact jZ|fail) only[ja i0,ja i3,ja i4,VC,c1,HA,SL,c2,Ja hb,D3.q,D4.q,C6.q,D3.r,D4.r,C6.r,r13,δ,ε,ζ,η,θ]));all_goals clear zz)
   exact hK _ k1.bk
  rw[if_neg c2] at hK;have hlt:qc m.vars r.acts[k].name<(m.vars.length:Int):=wR;have hi2:(qc m.vars r.acts[k].name).toNat<m.vars.length:=om
  have eg:m.vars.getD (qc m.vars r.acts[k].name).toNat vz=m.vars[(qc m.vars r.acts[k].name).toNat]:=by simp[Qad,hi2]
  rw[eg] at hK;have Lw:=S1.l1;rcases id Lw with ⟨_,e0,_⟩|⟨b,rfl,b1,b2,Ce,b5,b6⟩
  ·omega
  have gl:qv t1.h b=m.vars.length * 7:=by rw[Ce.len,Jk XE]
  have ge1:rat t1.h b ((qc m.vars r.acts[k].name).toNat * 7+1)=.int .i64 m.vars[(qc m.vars r.acts[k].name).toNat].kind:=by
   rw[Ce.cell _ (by rw[Jk XE];omega),vQ XE hi2 dc];rfl
  have ge2:rat t1.h b ((qc m.vars r.acts[k].name).toNat * 7+2)=.str m.vars[(qc m.vars r.acts[k].name).toNat].enum:=by
   rw[Ce.cell _ (by rw[Jk XE];omega),vQ XE hi2 dc];rfl
  have gp:rat t1.h p 0=.slice b 0 m.vars.length m.vars.length 7 false:=C1.cell 0 (by simp only[φ,ω];omega);unfold moL at D4 C4
  (have zz:=a4 @gl @ge1 @ge2 (a4 C1.r D3.r D4.r C6.r);(repeat'(first|apply jb<;>intro _|simp(disch:=first|exact jZ|fail) only[ja i0,ja i3,ja i4,VC,c1,HA,SL,c2,ge1,ge2,YL,Vy,Vx (base:=base),C1.q,D3.q,D4.q,C6.q,gl,ge1,ge2,C1.r,D3.r,D4.r,C6.r,r13,δ,ε,ζ,η,θ]));all_goals clear zz)
  rw[<-qJ];refine UM hb V _ x2 (YM _ x1) _ _ S1.ck _ _ ?_;cases hr:yy m.vars m.enums false r.acts[k].to m.vars[(qc m.vars r.acts[k].name).toNat].kind m.vars[(qc m.vars r.acts[k].name).toNat].enum with
  |er a b c=>
   rw[hr] at hK;intro s' k2;repeat'(first|apply jb<;>intro _|simp(disch:=first|exact dzG|fail) only[YL,Vy,Vx (base:=base),r13,δ,ε,ζ,η,θ])
   exact hK _ (k1.keep k2 om).bk
  |ok y=>
   rw[hr] at hK;dsimp only at hK;intro s' k2 C2;have hs':=k2.nx;have k3:=k1.keep k2 om;have S3:=S1.keep k2 C2;have E3:=k2.cl D3 hqm.1;have E4:=k2.cl D4 hqm.2;have lv2:=k2.lv lv1 (.inl om);have ve:=lv2.eqs;have gz:rat s'.h z 6=vl:=E4.cell 6 (by simp only[φ,ω];omega);have Ap:=λst' bv xc xx K h hv=>@JT (z+1) s.nx acc.length 7 st' vl (fl seE acc) K 80 bv xc xx h dc om om hv;have a59:jY γ 67 (.ptr z 6) vl t1.h=true:=(jq6 (by rw[D4.len];simp only[φ,ω];omega) (D4.cell 6 (by simp only[φ,ω];omega)) ve).mpr trivial;clear S1 k1 k2 C2 C6 D3 D4 C3 C4 S k0 VC HA SL ge1 ge2 gl gp Ce Lw C1 lv lv1;have hzp:p≠z:=λe=>hqm.2 e.symm;have lv3:Lv (z+1) (Go.Sy.nw s' (seE ⟨qc m.vars r.acts[k].name,y⟩)).nx (Go.Sy.nw s' (seE ⟨qc m.vars r.acts[k].name,y⟩)) vl acc.length (fl seE acc) 7:=by
    refine Lv.up (hi:=s.nx) ?_ (by(first|omega|(simp only[jg,jj,jt,jq,jp];first|done|omega)))
    exact ckX
   have S4:=((S3.nw (seE ⟨qc m.vars r.acts[k].name,y⟩)).aps lv3 om (seE ⟨qc m.vars r.acts[k].name,y⟩)).wr (c:=z) om 6 [apv 7 vl (Go.Sy.nw s' (seE ⟨qc m.vars r.acts[k].name,y⟩))];have k4:=((k3.nw om (seE ⟨qc m.vars r.acts[k].name,y⟩)).aps (lv3.low (lo:=lo) om) (by(first|omega|(simp only[jg,jj,jt,jq,jp];first|done|omega))) (seE ⟨qc m.vars r.acts[k].name,y⟩)).wr (c:=z) (.inr om) 6 [apv 7 vl (Go.Sy.nw s' (seE ⟨qc m.vars r.acts[k].name,y⟩))];have hlz:z+1<=s'.nx:=om
   (have zz:=a8 @lv2.ln @lv2.rts @jA @jE @jJ @lv2 @jC (a4 @jI @jM @ve (aI E3.r E4.r));(repeat'(first|apply jb<;>intro _|simp(disch:=first|exact jZ|fail) only[ja i0,ja i3,ja i4,Ap,lv2.at,jq6,ve,jC,E3.q,E4.q,lv2.ln,lv2.rts,jA,jE,jJ,lv2,jC,jI,jM,ve,E3.r,E4.r,r13,δ,ε,ζ,η,θ]));all_goals clear zz)
   refine⟨a59,⟨⟨acc ++ [⟨qc m.vars r.acts[k].name,y⟩],_,?_,h1.trans ?_,S4,k4,qz,?_,?_,Cl.wr (?_:Cl _ z (moL w vl)) 6 [apv 7 vl (Go.Sy.nw s' (seE ⟨qc m.vars r.acts[k].name,y⟩))],?_,?_,?_,?_⟩,?_⟩,?_,?_⟩
   ·rw[υ,hacc];rfl
   ·rw[jch hk,if_neg c1,if_neg c2,eg,hr]
   ·rw[jj,jq,jg];omega
   ·have:=(E3.nw (seE ⟨qc m.vars r.acts[k].name,y⟩)).aps lv3 (.inl om) (news:=seE ⟨qc m.vars r.acts[k].name,y⟩)
    exact ckX
   ·exact(E4.nw (seE ⟨qc m.vars r.acts[k].name,y⟩)).aps lv3 (.inl om)
   ·rw[jA (.inl om),υ,Q1,J5];exact lv3.put (ZP _) (by(first|omega|(simp only[jg,jj,jt,jq,jp];first|done|omega))) (by(first|omega|(simp only[jg,jj,jt,jq,jp];first|done|omega)))
   all_goals exact hsX
 ·obtain⟨⟨acc,vl,hacc,h1,D⟩,i14⟩:=hI;rw[Qaf,QbG,QJ] at h1;rw[h1] at hK;repeat'(first|apply jb<;>intro _|simp(disch:=first|exact dzG|fail) only[r13,δ,ε,ζ,η,θ])
  exact jre hb D hM K Kp hK
def z7:List AV:=[.int .i64 0,.int .i64 0,.str [],.nils,.int .i64 0,.int .i64 0,.nils]
set_option maxHeartbeats 4000000 in
theorem jrd (hb:NB base){p mb lo:Nat}{m:ModT}{ts:List (List Nat)}{st:St}(r:RuleT)(V:VarsOK m.vars m.enums)(hw:OkE r.when)(hx:∀ a∈r.acts,OkE a.to)(hbl:r.acts.length<=1000000)(hM:m.moves.length<=1000000)(H:MZ p mb lo m ts st)(K Kp:AV->St->Prop)(hK:KZ p mb lo st (XJ m ts r) K Kp):XB γ base 71 [.ptr p 0,.agg (ruE r)] st K Kp:=by
 obtain⟨v1,v2,v3,ws,S⟩:=H;have hp:=S.hp;have hlo:=S.lo;have hhi:=S.hi;refine zH x64 (by rfl) (hb.at0 71 dc dc _ _) ?_;simp only[y64,jr,κ,μ,ν,ξ];rw[(by unfold z64;simp only[qq];rfl:z64=_)];have hnx:st.bare.nx=st.nx:=rfl;have S0:=S.bare.nw (ruE r);have q1:=(Kq.refl:Kq p mb lo st.bare st.bare).nw om (ruE r);have Cb:Cl (Go.Sy.nw st.bare (ruE r)) st.nx (ruE r):=Cl.new st.bare (ruE r);unfold XJ at hK
 (have zz:=@Cb.r;(repeat'(first|apply jb<;>intro _|simp(disch:=first|exact jZ|fail) only[Cb.q,Cb.r,r13,δ,ε,ζ,η,θ]));all_goals clear zz)
 rw[<-qJ];have hn0:(Go.Sy.nw st.bare (ruE r)).nx=st.nx+1:=rfl;refine UM hb V _ hw.2 (YM _ hw.1) _ _ S0.ck _ _ ?_;cases hr:yy m.vars m.enums false r.when 2 [] with
 |er a b c=>
  rw[hr] at hK;intro s' k2;exact hK _ (q1.keep k2 om).bk
 |ok y=>
  rw[hr] at hK;dsimp only at hK;intro s' k2 C2;have hs':=k2.nx;have k3:=q1.keep k2 om;have S3:=S0.keep k2 C2;have E3:=k2.cl Cb om;rw[qJ];have S4:=(S3.nw z7).wr (c:=s'.nx) om 0 (moL y .nils);have k4:=(k3.nw om z7).wr (c:=s'.nx) (.inr om) 0 (moL y .nils);have C4:=(Cl.new s' z7).wr0 (c':=moL y .nils) rfl;unfold z7 moL at *;repeat'(first|apply jb<;>intro _|simp(disch:=first|exact dzG|fail) only[r13,δ,ε,ζ,η,θ])
  refine jrf hb ⟨S4,k4,?_,by(first|omega|(simp only[jg,jj,jt,jq,jp];first|done|omega)),ckX,C4,Lv.nil,?_,?_,?_⟩ V hx hbl hM K Kp hK
  ·omega
  all_goals simp(disch:=decide) only[ji,ju]
def fcl (c l k:Int):List AV:=[.int .i64 c,.int .i64 l,.int .i64 k]
theorem jtO (c l k:Int)(st:St)(K:AV->St->Prop):jh (Gr γ 45 (kf c l k) st) K=K (.tup [.agg (fcl c l k),.bool true]) st:=by
 have:Gr γ 45 (kf c l k) st=.ok (.tup [.agg (fcl c l k),.bool true]) st:=by kernel_rfl
 rw[this];rfl
theorem jr3 (c l k:Int)(st:St)(K:AV->St->Prop):jh (Xu γ .eql 20 true (kf c l k) .nilif st) K=K (.bool false) st:=by
 have:Xu γ .eql 20 true (kf c l k) .nilif st=.ok (.bool false) st:=by kernel_rfl
 rw[this];rfl
theorem Gj {fb:Nat}(st:St)(K:Md->St->Prop):DX γ base 67 [.ptr fb 0] .calm st.bare K=K .calm st.bare:=by
 refine jbz (λK hK=>?_) K;refine uE jqy (by rfl) rfl ?_;simp only[Gx,jr,κ,μ,ν,X8,YE];rw[(by unfold Wy;simp only[qq];rfl:Wy=_)];repeat'(first|apply jb<;>intro _|simp(disch:=first|exact dzG|fail) only[jjo,WA,r13,δ,ε,ζ,η,θ])
 exact hK
theorem ja9 {fb:Nat}(c l k:Int)(st:St)(h:qv st.h fb=3)(hn:fb<st.nx)(K:Md->St->Prop) :
  DX γ base 67 [.ptr fb 0] (.pan (kf c l k)) st.bare K=K .done (wr (wr (nw st.bare [.int .i64 0,.int .i64 0,.int .i64 0]) st.nx 0 (fcl c l k)) fb 0 (fcl c l k)):=by
 have C:Cl st.bare fb (rats st.h fb 0 3):=(Cl.of_rats hn h (Qd _ _ _ _) dc rfl).bar;have hcs:(rats st.h fb 0 3).length=3:=Qd _ _ _ _;refine jbz (λK hK=>?_) K;refine uE jqy (by rfl) rfl ?_;simp only[Gx,jr,κ,μ,ν,X8,YE];rw[(by unfold Wy;simp only[qq];rfl:Wy=_)];have hl:=C.lt;have l0:=C.len;have hB:st.bare.nx=st.nx:=rfl;have hne:¬ fb=st.bare.nx:=om
 unfold fcl at *;have A:=jtO c l k;unfold fcl at A
 (have zz:=aI @l0 @hcs;(repeat'(first|apply jb<;>intro _|simp(disch:=first|exact jZ|fail) only[jr3,ji6,A,WA,l0,hcs,r13,δ,ε,ζ,η,θ]));all_goals clear zz)
 exact hK
theorem ju1 {n:Nat}(h:0<n)(cs:List AV)(st:St)(K:AV->St->Prop):jh (Xu γ .eql 106 true (.lst n cs) .nils st) K=K (.bool false) st:=by
 obtain⟨k,rfl⟩:∃ k,n=k+1:=⟨n - 1,om⟩;have:Xu γ .eql 106 true (.lst (k+1) cs) .nils st=.ok (.bool false) st:=by kernel_rfl
 rw[this];rfl
theorem ju6 {n:Nat}{cs:List AV}(h0:0<n)(hl:cs.length=n)(hn:n<=1000000)(K:AV->St->Prop):jh (Jc 1 16 (.slice 0 0 0 0 1 true) (.lst n cs) (nw st0 [])) K=K (.slice 1 0 n n 1 false) (nw (nw st0 []) cs):=by
 have hg:jv (nw st0 []).h 0=some (.row 0 0 [] .e):=by kernel_rfl
 have e1:QcA n 1=n:=QaI n;have e2:Qcy n (jO cs)=true:=qu (by rw[jL];omega);have e3:yh cs n=cs:=by rw[qK,<-hl,Qaf]
 have e4:Qcw (jO cs) n=true:=YB (by rw[jL,hl]);have e5:Qcz 0 n=n:=Qam n;have e6:Qcy n 0=false:=jbA h0;have e7:Qcy (QcA n 16) 140737488355328=true:=qu (by show n * 16<=_;omega);have e8:Qcy n 9223372036854775807=true:=qu om;have e9:QcA 0 1=0:=rfl;have e10:Qcy (Qcz 0 0) 0=true:=rfl;have e11:jP 0 [] .e 0 0=[]:=rfl;have e12:yQ [] cs=cs:=by rw[yw];rfl
 simp only[Jc,zA,firstCells,jF,e1,e2,cond_true,e3,qY,e4,hg,yl,e5,e6,cond_false,e7,e8,e9,e10,e11,e12,St.alloc_eq,jh];conv=>rhs;unfold nw
 rw[hl];rfl
set_option maxHeartbeats 1000000 in
theorem jo5 (hb:NB base)(vs:List (List Nat))(hv:0<vs.length)(hl:vs.length<=1000000):Tot base 91 [.lst vs.length (vs.map .str)] (.lst vs.length (vs.map .str)):=by
 refine hb.tot ?_ rfl rfl;have N:=ju1 hv (vs.map .str);have A:=λK=>ju6 (cs:=vs.map .str) hv (by simp) hl K;refine jG x99 (by rfl) (hb.pur 91 1 dc) ?_;simp only[y99,jr,κ,μ,ν,ξ];rw[(by unfold z99;simp only[qq];rfl:z99=_)];repeat'(first|apply jb<;>intro _|simp(disch:=first|exact dzG|fail) only[N,jbm,A,r13,δ,ε,ζ,η,θ])
 have C:Cl (nw (nw st0 []) (vs.map .str)) 1 (vs.map .str):=Cl.new (nw st0 []) _;refine FzD.slice C.rw_ (by simp) (Qae _) ?_;rw[QaI,<-Qah (f:=AV.str),Qaf];refine FzsD.pc ?_;simp[pc]
def ym {α β:Type}(f:β->α->KR β):β->List α->KR β
 |b,[]=>.ok b
 |b,x :: xs=>match f b x with
  |.er a c d=>.er a c d
  |.ok b=>ym f b xs
theorem Vg {α β:Type}{f:β->α->KR β}{b:β}{xs:List α}{k:Nat}(hk:k<xs.length):ym f b (xs.drop k)=match f b xs[k] with
  |.er a c d=>.er a c d
  |.ok b=>ym f b (xs.drop (k+1)):=by
 have e:xs.drop k=xs[k] :: xs.drop (k+1):=(QbU hk).symm;rw[e,ym]
abbrev MT:=ModT×List (List Nat)
def Y7 (b:MT)(p:ProcT):KR MT:=match XG b.2 p.name p.line p.col with
 |.er a c d=>.er a c d
 |.ok ts=>ym (λb r=>XJ b.1 b.2 r) (b.1,ts) p.rules
def md0:ModT:=⟨[],[],[]⟩
def Uq (b:MT)(l:List EnumT):KR MT:=ym (λb e=>wS b.1 b.2 e) b l
def vU (b:MT)(l:List DeclT):KR MT:=ym (λb e=>QO b.1 b.2 e) b l
def Yd (b:MT)(l:List ProcT):KR MT:=ym Y7 b l
def zh (s:SrcT):KR MT:=match Uq (md0,[]) s.enums with
 |.er a c d=>.er a c d
 |.ok b=>match vU b s.vars with
  |.er a c d=>.er a c d
  |.ok b=>Yd b s.procs
def UO (r:KR MT):AV:=match r with
 |.er c l k=>.tup [.agg (mdE md0),.agg (fcl c l k)]
 |.ok b=>.tup [.agg (mdE b.1),.agg (fcl 0 0 0)]
def mQ (base:Bs)(r:KR MT):Out->Prop:=Hj γ base y26.res (X4 G0 (.ok (UO r))) (XN G0 (.ok (UO r)))
def mP (base:Bs)(r:KR MT):AV->Sl->St->Prop:=V5 γ base y26.res (X4 G0 (.ok (UO r))) (XN G0 (.ok (UO r)))
structure QS (src:SrcT)(L:Sl)(s:St):Prop where
 c0:Cl s 0 (srE src)
 c1:Cl s 1 [.nils,.nils,.nils]
 c2:Cl s 2 [.int .i64 0,.int .i64 0,.int .i64 0]
 fr:s.fr=[(67,[.ptr 2 0])]
 i1:Has L 1 (.ptr 0 0)
 i2:Has L 2 (.ptr 1 0)
 i3:Has L 3 (.ptr 2 0)
 i4:Has L 4 (.ptr 4 0)
section
variable {src:SrcT} {L:Sl} {s t:St}
theorem QS.push (h:QS src L s){c:Nat}{v:AV}(hc:c≠1/\c≠2/\c≠3/\c≠4):QS src ((c,v) :: L) s:=by
 obtain⟨c0,c1,c2,fr,i1,i2,i3,i4⟩:=h;exact⟨c0,c1,c2,fr,by rw[ji hc.1];exact i1,by rw[ji hc.2.1];exact i2,by rw[ji hc.2.2.1];exact i3,by rw[ji hc.2.2.2];exact i4⟩
theorem QS.kq (h:QS src L s)(k:Kq 4 3 5 s t):QS src L t:=
 ⟨k.cl h.c0 dc dc dc,k.cl h.c1 dc dc dc,k.cl h.c2 dc dc dc,k.fr.trans h.fr,h.i1,h.i2,h.i3,h.i4⟩
theorem jiG {m d:Nat}{s:St}:FzD m (d+3) s (.agg [.nils,.nils,.nils]) (.agg (mdE md0)):=FzD.agg (.cons FzD.nils (.cons FzD.nils (.cons FzD.nils .nil)))
theorem r12:type_of%(a8 @jd @jf @jW @je @jc @qP @qO (a4 @jk @jl @jn (aI @jo (aI @jm @rzZ)))):=a8 @jd @jf @jW @je @jc @qP @qO (a4 @jk @jl @jn (aI @jo (aI @jm @rzZ)))
theorem U8 {c l k:Int}(h:QS src L s):mP base (.er c l k) (kf c l k) L s:=by
 obtain⟨c0,c1,c2,fr,i1,i2,i3,i4⟩:=h;have l2:=c2.len;have n2:=c2.lt;unfold mP y26
 (have zz:=aI @c0.r (aI @c1.r @c2.r);(repeat'(first|apply jb<;>intro _|simp(disch:=first|exact jZ|fail) only[ja i2,ja i3,Qm (f:=67) (vs:=[.ptr 2 0]),JJ (f:=67) (vs:=[.ptr 2 0]),Gj,ja9,c0.q,c1.q,c2.q,c0.r,c1.r,c2.r,r12,δ,ε,ζ,η,θ]));all_goals clear zz)
 exact FzD.tup (.cons jiG (.cons (.agg (.pc (by rfl))) .nil))
end
theorem jix {m lo hi d:Nat}{s:St}{v3:AV}(hm:m<=lo):∀ {ms:List MoveT} {us:List AV},UU lo hi s v3 ms us->FzsD m (d+3) s (mvc ms us) (fl moE ms)
 |[],[],_=>.nil
 |e :: ms,u :: us,h=>by
  show FzsD m (d+3) s ((eE e.when ++ [u]) ++ mvc ms us) (moE e ++ fl moE ms);refine FzsD.append ?_ (jix hm h.2);exact FzsD.append (FzsD.pc (q9 _)) (.cons (h.1.1.fz hm (y7 wC _)) .nil)
set_option maxHeartbeats 4000000 in
theorem m_d {src:SrcT}{L:Sl}{s:St}(D:QS src L s){m:ModT}{ts:List (List Nat)}(H:MZ 4 3 5 m ts s):xC γ base jfE L s (mQ base (.ok (m,ts))) (mP base (.ok (m,ts))):=by
 obtain⟨v1,v2,v3,ws,S⟩:=H;obtain⟨c0,c1,c2,fr,i1,i2,i3,i4⟩:=D;have C4:=S.cp;have l2:=c2.len;have n2:=c2.lt;have vc:∀ l,lall AV.cell (v1 :: v2 :: v3 :: l)=lall AV.cell l:=λl=>by
  show cond v1.cell (cond v2.cell (cond v3.cell _ false) false) false=_;rw[S.l1.cell,S.l2.cell,S.l3.cell];rfl
 unfold mQ mP y26;rw[(by unfold jfE;simp only[qq];rfl:jfE=_)]
 (have zz:=a4 @vc @c0.r @c1.r (aI @c2.r C4.r);(repeat'(first|apply jb<;>intro _|simp(disch:=first|exact jZ|fail) only[ja i1,ja i2,ja i3,ja i4,GC i3,Y3,Qm (f:=67) (vs:=[.ptr 2 0]),JJ (f:=67) (vs:=[.ptr 2 0]),Gj,ja9,c0.q,c1.q,c2.q,C4.q,vc,c0.r,c1.r,c2.r,C4.r,r12,δ,ε,ζ,η,θ]));all_goals clear zz)
 have f:∀ v n cs z,Lv 5 s.nx s v n cs z->Lv 5 s.nx (Go.Sy.wr (Go.Sy.wr s 1 0 [v1,v2,v3]) 2 0 [.int .i64 0,.int .i64 0,.int .i64 0]).bare v n cs z:=λv n cs z h=>by
  rw[jH,jA (.inl dc),jA (.inl dc)];exact h
 refine FzD.tup (.cons (FzD.agg (.cons ((f _ _ _ _ S.l1).fz (Qae _) (y7 Yj _)) (.cons ((f _ _ _ _ S.l2).fz (Qae _) (y7 J7 _)) (.cons ?_ .nil)))) (.cons (.agg (.pc (by rfl))) .nil))
 ·have u3:=S.uu.imp (λu n cs h=>(⟨f _ _ _ _ h.1,h.2⟩:Lv 5 s.nx (Go.Sy.wr (Go.Sy.wr s 1 0 [v1,v2,v3]) 2 0 [.int .i64 0,.int .i64 0,.int .i64 0]).bare u n cs 7/\Df v3 u));rcases f _ _ _ _ S.l3 with ⟨rfl,h1,h2⟩|⟨b,rfl,h1,h2,C,h3,h4⟩
  ·have:m.moves=[]:=Qbc h1;show FzD _ _ _ _ (.lst m.moves.length (fl moE m.moves));rw[this];exact FzD.nils
  ·refine FzD.slice C.rw_ (QaO h2.symm) (Qae _) ?_;rw[<-h2,Qaf];exact jix (Qae _) u3
structure ProcOK (p:ProcT):Prop where
 len:p.rules.length<=1000
 rules:∀ r∈p.rules,OkE r.when/\(∀ a∈r.acts,OkE a.to)/\r.acts.length<=1000000
structure DeclOK (d:DeclT):Prop where
 ex:∀ x∈d.begins,OkE x
 len:d.begins.length<=1000000
 lo : -100000000<=d.lo/\d.lo<=100000000
 hi : -100000000<=d.hi/\d.hi<=100000000
structure SrcOK (s:SrcT):Prop where
 ne:s.enums.length<=1000
 nv:s.vars.length<=1000
 np:s.procs.length<=100
 vals:∀ e∈s.enums,0<e.vals.length/\e.vals.length<=1000000
 vars:∀ d∈s.vars,DeclOK d
 procs:∀ p∈s.procs,ProcOK p
theorem vS {m:ModT}{ts:List (List Nat)}{e:EnumT}{b:MT}(h:wS m ts e=.ok b):b.1={ m with enums:=m.enums ++ [e] }:=by
 unfold wS at h;split at h
 ·cases h
 ·cases h;rfl
theorem jcj {m:ModT}{ts:List (List Nat)}{r:RuleT}{b:MT}(h:XJ m ts r=.ok b):∃ e,b.1={ m with moves:=m.moves ++ [e] }:=by
 unfold XJ at h;split at h
 ·cases h
 ·split at h
  ·cases h
  ·cases h;exact⟨_,rfl⟩
theorem Hq {vars:List VarT}{enums:List EnumT}:∀ {xs:List Ex} {v u:VarT},Jb vars enums v xs=.ok u->u.lo=v.lo/\u.hi=v.hi/\u.kind=v.kind/\u.enum=v.enum/\u.name=v.name
 |[],v,u,h=>by rw[Jb] at h;cases h;exact⟨rfl,rfl,rfl,rfl,rfl⟩
 |x :: xs,v,u,h=>by
  rw[Jb] at h;split at h
  ·cases h
  ·split at h
   ·cases h
   ·split at h
    ·cases h
    ·have:=Hq h;exact this
theorem jlP {enums:List EnumT}{d:DeclT}{v:VarT}(hv:∀ e∈enums,e.vals.length<=1000000)(hd:DeclOK d)(h:ZU enums d=.ok v) : -100000000<=v.lo/\v.lo<=100000000/\-100000000<=v.hi/\v.hi<=100000000:=by
 unfold ZU at h;split at h
 ·cases h;dsimp only;omega
 ·split at h
  ·rename_i h2;cases h;dsimp only;have hlt:Jz enums d.ty<(enums.length:Int):=wR;have hi2:(Jz enums d.ty).toNat<enums.length:=om
   have eg:enums.getD (Jz enums d.ty).toNat en0=enums[(Jz enums d.ty).toNat]:=by simp[Qad,hi2]
   rw[eg];have:=hv _ (Qac hi2);omega
  ·split at h
   ·cases h
   ·split at h
    ·cases h
    ·split at h
     ·cases h
     ·cases h;exact⟨hd.lo.1,hd.lo.2,hd.hi.1,hd.hi.2⟩
theorem jdo {m:ModT}{ts:List (List Nat)}{d:DeclT}{b:MT}(hv:∀ e∈m.enums,e.vals.length<=1000000)(hd:DeclOK d)(h:QO m ts d=.ok b):∃ v:VarT,b.1={ m with vars:=m.vars ++ [v] }/\(-100000000<=v.lo/\v.lo<=100000000/\-100000000<=v.hi/\v.hi<=100000000):=by
 unfold QO at h;split at h
 ·cases h
 ·split at h
  ·cases h
  ·rename_i v hk;unfold ZZ at h;split at h
   ·cases h
   ·rename_i u hu;unfold VZ at h;split at h
    ·cases h
    ·cases h;have hb:=Hq hu;refine⟨u,rfl,?_⟩;rw[hb.1,hb.2.1];exact jlP hv hd hk
section
variable {src:SrcT} {L:Sl} {s t:St} {m:ModT} {ts:List (List Nat)}
theorem MX.box (h:MX 4 3 5 m ts s)(z cs:List AV):MX 4 3 5 m ts (Go.Sy.wr (Go.Sy.nw s z) s.nx 0 cs):=by
 obtain⟨v1,v2,v3,S⟩:=h;exact⟨v1,v2,v3,((S.nw z).wr (c:=s.nx) (τ _) 0 cs).up (by rw[jj,jg];omega) (τ _)⟩
theorem MZ.box (h:MZ 4 3 5 m ts s)(z cs:List AV):MZ 4 3 5 m ts (Go.Sy.wr (Go.Sy.nw s z) s.nx 0 cs):=by
 obtain⟨v1,v2,v3,ws,S⟩:=h;exact⟨v1,v2,v3,ws,((S.nw z).wr (c:=s.nx) (τ _) 0 cs).up (by rw[jj,jg];omega) (τ _)⟩
theorem MZ.nx5 (h:MZ 4 3 5 m ts s):5<=s.nx:=by obtain⟨v1,v2,v3,ws,S⟩:=h;exact S.lo
theorem MX.nx5 (h:MX 4 3 5 m ts s):5<=s.nx:=by obtain⟨v1,v2,v3,S⟩:=h;exact S.lo
theorem gM (h:5<=s.nx)(z cs:List AV):Kq 4 3 5 s (Go.Sy.wr (Go.Sy.nw s z) s.nx 0 cs):=(Kq.refl.nw h z).wr (.inr h) 0 cs
end
theorem MZ.take {m:ModT}{ts:List (List Nat)}{s:St}(h:MZ 4 3 5 m ts s)(us:List (List Nat)):MZ 4 3 5 m us (Go.Sy.mp s 3 (mpl us)):=by
 obtain⟨v1,v2,v3,ws,S⟩:=h;exact⟨v1,v2,v3,ws,S.take us⟩
def zr7:List AV:=[.int .i64 0,.int .i64 0,.str [],.nils,.int .i64 0,.int .i64 0,.nils]
def zp4:List AV:=[.str [],.nils,.int .i64 0,.int .i64 0]
set_option maxHeartbeats 8000000 in
theorem m_c (hb:NB base){src:SrcT}{L:Sl}{s:St}(D:QS src L s){m:ModT}{ts:List (List Nat)}(V:VarsOK m.vars m.enums)(hm:m.moves=[])(O:SrcOK src)(H:MZ 4 3 5 m ts s):xC γ base jfF L s (mQ base (Yd (m,ts) src.procs)) (mP base (Yd (m,ts) src.procs)):=by
 have c0:=D.c0;have i1:=D.i1;have onp:=O.np;generalize hR:Yd (m,ts) src.procs=R;rw[(by unfold jfF;simp only[qq];rfl:jfF=_)]
 (have zz:=@c0.r;(repeat'(first|apply jb<;>intro _|simp(disch:=first|exact jZ|fail) only[ja i1,c0.q,c0.r,r12,δ,ε,ζ,η,θ]));all_goals clear zz)
 refine jX src.procs.length (λk L s=>(∃ b:MT,Yd b (src.procs.drop k)=R/\b.1.vars=m.vars/\b.1.enums=m.enums/\b.1.moves.length<=1000 * k/\MZ 4 3 5 b.1 b.2 s/\QS src L s)/\Has L 39 (.lst src.procs.length (fl prE src.procs))) ?_ (λk L s hk hI hi hn=>?_) (λL s hI=>?_) (hc:=(λk L s v h=>(by obtain⟨⟨b,h1,h2,h3,h4,h5,h6⟩,h7⟩:=h;refine⟨⟨b,h1,h2,h3,h4,h5,h6.push dc⟩,?_⟩;simp(disch:=decide) only[ji];assumption))) (hI:=(λk L s v h=>(by obtain⟨⟨b,h1,h2,h3,h4,h5,h6⟩,h7⟩:=h;refine⟨⟨b,h1,h2,h3,h4,h5,h6.push dc⟩,?_⟩;simp(disch:=decide) only[ji];assumption)))
 ·refine⟨⟨(m,ts),by rw[Qbg];exact hR,rfl,rfl,by rw[hm];exact Qae _,H,((D.push dc).push dc).push dc⟩,?_⟩;simp(disch:=decide) only[ji,ju]
 ·clear D c0 i1;obtain⟨⟨b,h1,h2,h3,h4,H,D⟩,i39⟩:=hI;obtain⟨c0,c1,c2,fr,i1,i2,i3,i4⟩:=id D;have hP:=O.procs _ (Qac hk);have n5:=H.nx5;have H1:=H.box zp4 (prE src.procs[k]);have k1:=gM n5 zp4 (prE src.procs[k]);have D1:=D.kq k1;have C10:=(Cl.new s zp4).wr0 (c':=prE src.procs[k]) rfl;unfold Yd at h1;rw[Vg hk] at h1;unfold zp4 at *;repeat'(first|apply jb<;>intro _|simp(disch:=first|exact dzG|fail) only[ja i1,ja i2,ja i3,ja i4,ja i39,ja hi,ja hn,r12,δ,ε,ζ,η,θ])
  obtain⟨v1,v2,v3,ws,S⟩:=id H1;refine KX hb S.cp S.mp _ _ _ _ _ ?_;have S1mp:=S.mp;clear S;by_cases hin:src.procs[k].name∈b.2
  ·rw[if_pos hin];have hp:Y7 b src.procs[k]=.er 162 src.procs[k].line src.procs[k].col:=by unfold Y7 XG;rw[if_pos hin]
   rw[hp] at h1;rw[<-h1];exact U8 (D1.push dc)
  ·rw[if_neg hin];have hp:Y7 b src.procs[k]=ym (λb r=>XJ b.1 b.2 r) (b.1,b.2 ++ [src.procs[k].name]) src.procs[k].rules:=by unfold Y7 XG;rw[if_neg hin]
   have H2:=H1.take (b.2 ++ [src.procs[k].name]);have D2:=D1.kq ((Kq.refl:Kq 4 3 5 _ _).mp (mpl (b.2 ++ [src.procs[k].name])));have C10:Cl (Go.Sy.mp (Go.Sy.wr (Go.Sy.nw s [.str [],.nils,.int .i64 0,.int .i64 0]) s.nx 0 (prE src.procs[k])) 3 (mpl (b.2 ++ [src.procs[k].name]))) s.nx (prE src.procs[k]):=by rw[Vm om];exact C10
   have hrl:=hP.len;generalize Go.Sy.mp (Go.Sy.wr (Go.Sy.nw s [.str [],.nils,.int .i64 0,.int .i64 0]) s.nx 0 (prE src.procs[k])) 3 (mpl (b.2 ++ [src.procs[k].name]))=t1 at *;clear D1 H1 k1 S1mp
   (have zz:=C10.r;(repeat'(first|apply jb<;>intro _|simp(disch:=first|exact jZ|fail) only[ja i1,ja i2,ja i3,ja i4,ja i39,ja hi,ja hn,C10.q,C10.r,r12,δ,ε,ζ,η,θ]));all_goals clear zz)
   refine jX src.procs[k].rules.length (λky L s=>(∃ c:MT,ym (λb r=>XJ b.1 b.2 r) c (src.procs[k].rules.drop ky)=Y7 b src.procs[k]/\c.1.vars=m.vars/\c.1.enums=m.enums/\c.1.moves.length<=1000 * k+ky/\MZ 4 3 5 c.1 c.2 s/\QS src L s)/\Has L 54 (.lst src.procs[k].rules.length (fl ruE src.procs[k].rules))/\Has L 39 (.lst src.procs.length (fl prE src.procs))/\Has L 41 (.int .i64 k)/\Has L 40 (.int .i64 src.procs.length)) ?_ (λky Ly sy hky hIy hiy hny=>?_) (λLy sy hIy=>?_) (hc:=(λk L s v h=>(by obtain⟨⟨c,g1,g2,g3,g4,g5,g6⟩,g7,g8,g9,g10⟩:=h;refine⟨⟨c,g1,g2,g3,g4,g5,g6.push dc⟩,?_,?_,?_,?_⟩<;>exact hsX))) (hI:=(λk L s v h=>(by obtain⟨⟨c,g1,g2,g3,g4,g5,g6⟩,g7,g8,g9,g10⟩:=h;refine⟨⟨c,g1,g2,g3,g4,g5,g6.push dc⟩,?_,?_,?_,?_⟩<;>exact hsX)))
   ·refine⟨⟨(b.1,b.2 ++ [src.procs[k].name]),by rw[Qbg];exact hp.symm,h2,h3,om,H2,(((D2.push dc).push dc).push dc).push dc⟩,?_⟩;simp(disch:=decide) only[ji,ju,true_and];exact⟨i39,hi,hn⟩
   ·obtain⟨⟨c,g1,g2,g3,g4,H3,D3⟩,j54,j39,j41,j40⟩:=hIy;obtain⟨c0',c1',c2',fr',i1',i2',i3',i4'⟩:=id D3;have hr:=hP.rules _ (Qac hky);have n5':=H3.nx5;have H4:=H3.box zr7 (ruE src.procs[k].rules[ky]);have k4:=gM n5' zr7 (ruE src.procs[k].rules[ky]);have D4:=D3.kq k4;have hlr:(ruE src.procs[k].rules[ky]).length=zr7.length:=by rw[wE];rfl
    have C12:=(Cl.new sy zr7).wr0 hlr;rw[Vg hky] at g1;unfold zr7 at *;repeat'(first|apply jb<;>intro _|simp(disch:=first|exact dzG|fail) only[ja i1',ja i2',ja i3',ja i4',ja j54,ja hiy,ja hny,r12,δ,ε,ζ,η,θ])
    refine jrd hb _ (by rw[g2,g3];exact V) hr.1 hr.2.1 hr.2.2 om H4 _ _ ?_;cases hk1:XJ c.1 c.2 src.procs[k].rules[ky] with
    |er x y z=>
     rw[hk1] at g1;rw[<-g1] at h1;intro s' k5;rw[<-h1];exact U8 ((D4.kq k5).push dc)
    |ok d=>
     rw[hk1] at g1;intro s' k5 H5;obtain⟨e,he⟩:=jcj hk1;repeat'(first|apply jb<;>intro _|simp(disch:=first|exact dzG|fail) only[r12,δ,ε,ζ,η,θ])
     refine⟨⟨⟨d,g1,by rw[he];exact g2,by rw[he];exact g3,by rw[he];simp only[υ,φ,ω];omega,H5,(D4.kq k5).push dc⟩,?_,?_,?_,?_⟩,?_,?_⟩<;>exact hsX
   ·obtain⟨⟨c,g1,g2,g3,g4,H3,D3⟩,j54,j39,j41,j40⟩:=hIy;rw[QbG,ym] at g1;rw[<-g1] at h1;repeat'(first|apply jb<;>intro _|simp(disch:=first|exact dzG|fail) only[r12,δ,ε,ζ,η,θ])
    refine⟨⟨⟨c,h1,g2,g3,om,H3,D3⟩,?_⟩,?_,?_⟩<;>assumption
 ·obtain⟨⟨b,h1,h2,h3,h4,H,D⟩,i39⟩:=hI;rw[QbG] at h1;unfold Yd at h1;rw[ym] at h1;rw[<-h1];repeat'(first|apply jb<;>intro _|simp(disch:=first|exact dzG|fail) only[r12,δ,ε,ζ,η,θ])
  exact m_d D H
theorem MX.mz {m:ModT}{ts:List (List Nat)}{s:St}(h:MX 4 3 5 m ts s)(hm:m.moves=[]):MZ 4 3 5 m ts s:=by
 obtain⟨v1,v2,v3,S⟩:=h;exact⟨v1,v2,v3,[],S.mr hm⟩
def zd7:List AV:=[.str [],.str [],.int .i64 0,.int .i64 0,.nils,.int .i64 0,.int .i64 0]
def ze4:List AV:=[.str [],.nils,.int .i64 0,.int .i64 0]
set_option maxHeartbeats 8000000 in
theorem m_b (hb:NB base){src:SrcT}{L:Sl}{s:St}(D:QS src L s){m:ModT}{ts:List (List Nat)}(V:VarsOK m.vars m.enums)(hm:m.moves=[])(hv0:m.vars=[])(O:SrcOK src)(H:MX 4 3 5 m ts s)(R:KR MT)(hR:(match vU (m,ts) src.vars with | .er a c d=>.er a c d | .ok b=>Yd b src.procs)=R):xC γ base jfG L s (mQ base R) (mP base R):=by
 have c0:=D.c0;have i1:=D.i1;have onv:=O.nv;rw[(by unfold jfG;simp only[qq];rfl:jfG=_)]
 (have zz:=@c0.r;(repeat'(first|apply jb<;>intro _|simp(disch:=first|exact jZ|fail) only[ja i1,c0.q,c0.r,r12,δ,ε,ζ,η,θ]));all_goals clear zz)
 refine jX src.vars.length (λk L s=>(∃ b:MT,(match vU b (src.vars.drop k) with | .er a c d=>.er a c d | .ok b=>Yd b src.procs)=R/\b.1.moves=[]/\b.1.vars.length<=k/\VarsOK b.1.vars b.1.enums/\MX 4 3 5 b.1 b.2 s/\QS src L s)/\Has L 28 (.lst src.vars.length (fl qm src.vars))) ?_ (λk L s hk hI hi hn=>?_) (λL s hI=>?_) (hc:=(λk L s v h=>(by obtain⟨⟨b,h1,h2,h3,h4,h5,h6⟩,h7⟩:=h;refine⟨⟨b,h1,h2,h3,h4,h5,h6.push dc⟩,?_⟩;simp(disch:=decide) only[ji];assumption))) (hI:=(λk L s v h=>(by obtain⟨⟨b,h1,h2,h3,h4,h5,h6⟩,h7⟩:=h;refine⟨⟨b,h1,h2,h3,h4,h5,h6.push dc⟩,?_⟩;simp(disch:=decide) only[ji];assumption)))
 ·refine⟨⟨(m,ts),by rw[Qbg];exact hR,hm,by rw[hv0];exact Qae _,V,H,((D.push dc).push dc).push dc⟩,?_⟩;simp(disch:=decide) only[ji,ju]
 ·clear D c0 i1 H V hm hv0;obtain⟨⟨b,h1,hm,h3,V,H,D⟩,i28⟩:=hI;obtain⟨c0,c1,c2,fr,i1,i2,i3,i4⟩:=id D;have hd:=O.vars _ (Qac hk);have n5:=H.nx5;have H1:=H.box zd7 (qm src.vars[k]);have k1:=gM n5 zd7 (qm src.vars[k]);have D1:=D.kq k1;have C10:=(Cl.new s zd7).wr0 (c':=qm src.vars[k]) rfl;unfold vU at h1;rw[Vg hk] at h1;unfold zd7 at *;repeat'(first|apply jb<;>intro _|simp(disch:=first|exact dzG|fail) only[ja i1,ja i2,ja i3,ja i4,ja i28,ja hi,ja hn,r12,δ,ε,ζ,η,θ])
  refine jsg hb _ V om hd.ex hd.len hd.lo hd.hi H1 _ _ ?_;cases hk1:QO b.1 b.2 src.vars[k] with
  |er x y z=>
   rw[hk1] at h1;intro s' k5;rw[<-h1];exact U8 ((D1.kq k5).push dc)
  |ok d=>
   rw[hk1] at h1;intro s' k5 H5;obtain⟨v,he,hv⟩:=jdo V.vals hd hk1;repeat'(first|apply jb<;>intro _|simp(disch:=first|exact dzG|fail) only[r12,δ,ε,ζ,η,θ])
   refine⟨⟨⟨d,h1,by rw[he];exact hm,by rw[he];simp only[υ,φ,ω];omega,?_,H5,(D1.kq k5).push dc⟩,?_⟩,?_,?_⟩
   ·rw[he];refine⟨by simp only[υ,φ,ω];omega,V.len2,V.vals,λu hu=>?_⟩;rcases Qau.1 hu with hu|hu
    ·exact V.ends u hu
    ·simp only[QaK] at hu;rw[hu];exact hv
   all_goals exact hsX
 ·obtain⟨⟨b,h1,hm,h3,V,H,D⟩,i28⟩:=hI;rw[QbG] at h1;unfold vU at h1;rw[ym] at h1;dsimp only at h1;rw[<-h1];repeat'(first|apply jb<;>intro _|simp(disch:=first|exact dzG|fail) only[r12,δ,ε,ζ,η,θ])
  exact m_c hb D V hm O (H.mz hm)
set_option maxHeartbeats 8000000 in
theorem m_a (hb:NB base){src:SrcT}{L:Sl}{s:St}(D:QS src L s)(O:SrcOK src)(H:MX 4 3 5 md0 [] s):xC γ base jfH L s (mQ base (zh src)) (mP base (zh src)):=by
 have c0:=D.c0;have i1:=D.i1;have one:=O.ne;generalize hR:zh src=R;unfold zh at hR;rw[(by unfold jfH;simp only[qq];rfl:jfH=_)]
 (have zz:=@c0.r;(repeat'(first|apply jb<;>intro _|simp(disch:=first|exact jZ|fail) only[ja i1,c0.q,c0.r,r12,δ,ε,ζ,η,θ]));all_goals clear zz)
 refine jX src.enums.length (λk L s=>(∃ b:MT,(match Uq b (src.enums.drop k) with | .er a c d=>.er a c d | .ok b=>(match vU b src.vars with | .er a c d=>.er a c d | .ok b=>Yd b src.procs))=R/\b.1.moves=[]/\b.1.vars=[]/\b.1.enums.length<=k/\(∀ e∈b.1.enums,e.vals.length<=1000000)/\MX 4 3 5 b.1 b.2 s/\QS src L s)/\Has L 17 (.lst src.enums.length (fl enE src.enums))) ?_ (λk L s hk hI hi hn=>?_) (λL s hI=>?_) (hc:=(λk L s v h=>(by obtain⟨⟨b,h1,h2,h3,h4,h4b,h5,h6⟩,h7⟩:=h;refine⟨⟨b,h1,h2,h3,h4,h4b,h5,h6.push dc⟩,?_⟩;simp(disch:=decide) only[ji];assumption))) (hI:=(λk L s v h=>(by obtain⟨⟨b,h1,h2,h3,h4,h4b,h5,h6⟩,h7⟩:=h;refine⟨⟨b,h1,h2,h3,h4,h4b,h5,h6.push dc⟩,?_⟩;simp(disch:=decide) only[ji];assumption)))
 ·refine⟨⟨(md0,[]),by rw[Qbg];exact hR,rfl,rfl,Qae _,(λe he=>by cases he),H,((D.push dc).push dc).push dc⟩,?_⟩;simp(disch:=decide) only[ji,ju]
 ·clear D c0 i1 H;obtain⟨⟨b,h1,hm,h3,h4,hv,H,D⟩,i17⟩:=hI;obtain⟨c0,c1,c2,fr,i1,i2,i3,i4⟩:=id D;have hd:=O.vals _ (Qac hk);have n5:=H.nx5;have H1:=H.box ze4 (enE src.enums[k]);have k1:=gM n5 ze4 (enE src.enums[k]);have D1:=D.kq k1;have C10:=(Cl.new s ze4).wr0 (c':=enE src.enums[k]) rfl;unfold Uq at h1;rw[Vg hk] at h1;unfold ze4 at *;repeat'(first|apply jb<;>intro _|simp(disch:=first|exact dzG|fail) only[ja i1,ja i2,ja i3,ja i4,ja i17,ja hi,ja hn,r12,δ,ε,ζ,η,θ])
  refine jr8 hb (λvs h h2=>jo5 hb vs h h2) _ hd.1 hd.2 om H1 _ _ ?_;cases hk1:wS b.1 b.2 src.enums[k] with
  |er x y z=>
   rw[hk1] at h1;intro s' k5;rw[<-h1];exact U8 ((D1.kq k5).push dc)
  |ok d=>
   rw[hk1] at h1;intro s' k5 H5;have he:=vS hk1;repeat'(first|apply jb<;>intro _|simp(disch:=first|exact dzG|fail) only[r12,δ,ε,ζ,η,θ])
   refine⟨⟨⟨d,h1,by rw[he];exact hm,by rw[he];exact h3,by rw[he];simp only[υ,φ,ω];omega,?_,H5,(D1.kq k5).push dc⟩,?_⟩,?_,?_⟩
   ·rw[he];intro u hu;rcases Qau.1 hu with hu|hu
    ·exact hv u hu
    ·simp only[QaK] at hu;rw[hu];exact hd.2
   all_goals exact hsX
 ·obtain⟨⟨b,h1,hm,h3,h4,hv,H,D⟩,i17⟩:=hI;rw[QbG] at h1;unfold Uq at h1;rw[ym] at h1;dsimp only at h1;repeat'(first|apply jb<;>intro _|simp(disch:=first|exact dzG|fail) only[r12,δ,ε,ζ,η,θ])
  exact m_b hb D ⟨by rw[h3];exact Qae _,om,hv,λv hv=>by rw[h3] at hv;cases hv⟩ hm h3 O H R h1
set_option maxHeartbeats 8000000 in
theorem joK (hb:NB base)(src:SrcT)(O:SrcOK src):Tot base 53 [.agg (srE src)] (UO (zh src)):=by
 refine hb.tot ?_ (by first|rfl|simp[pa,pc,q9,Xe,WQ,J7,JI,ja5,K1,Yj,wC,wH,J2,ZS]) rfl;refine WU x26 (hb.pur 53 1 dc) ?_;simp only[y26,jr,κ,μ,ν,ξ];rw[(by unfold z26;simp only[qq];rfl:z26=_)];repeat'(first|apply jb<;>intro _|simp(disch:=first|exact dzG|fail) only[ww,jnv,jmM,r12,δ,ε,ζ,η,θ])
 obtain⟨X,hX⟩:∃ X,X=Go.Sy.nw (Go.Sy.nw (Go.Sy.nw st0 (srE src)) [.nils,.nils,.nils]) [.int .i64 0,.int .i64 0,.int .i64 0]:=⟨_,rfl⟩;have X2:Cl X 2 [.int .i64 0,.int .i64 0,.int .i64 0]:=by rw[hX];exact Cl.new _ _
 have X1:Cl X 1 [.nils,.nils,.nils]:=by rw[hX];exact(Cl.new _ _).nw _
 have X0:Cl X 0 (srE src):=by rw[hX];exact((Cl.new _ _).nw _).nw _
 have Xn:X.nx=3:=by rw[hX];rfl
 have Xf:X.fr=[]:=by rw[hX];rfl
 rw[<-hX];have hn4:(nmp (df (67,[.ptr 2 0]) X)).nx=4:=by show X.nx+1=4;omega
 have hc:(AV.nils :: AV.nils :: AV.nils :: upd [AV.nilm,AV.bool false] 0 (AV.map 3).cells)=[.nils,.nils,.nils,.map 3,.bool false]:=rfl;rw[hn4,hc];have Y:∀ c cs,c<3->Cl X c cs->Cl (Go.Sy.nw (nmp (df (67,[.ptr 2 0]) X)) [.nils,.nils,.nils,.map 3,.bool false]) c cs:=λc cs h3 h=>by
  refine h.keep ?_ ?_
  ·rw[jg,hn4];omega
  ·rw[q6 om,gX,if_neg (by show c≠X.nx;omega)];rfl
 have C4:Cl (Go.Sy.nw (nmp (df (67,[.ptr 2 0]) X)) [.nils,.nils,.nils,.map 3,.bool false]) 4 [.nils,.nils,.nils,.map 3,.bool false]:=hn4▸Cl.new (nmp (df (67,[.ptr 2 0]) X)) _;have M3:Mp (Go.Sy.nw (nmp (df (67,[.ptr 2 0]) X)) [.nils,.nils,.nils,.map 3,.bool false]) 3 []:=by
  have h:Mp (nmp (df (67,[.ptr 2 0]) X)) X.nx []:=Mp.new (df (67,[.ptr 2 0]) X);rw[Xn] at h;exact h.nw _
 have n5:(Go.Sy.nw (nmp (df (67,[.ptr 2 0]) X)) [.nils,.nils,.nils,.map 3,.bool false]).nx=5:=by rw[jg,hn4]
 refine m_a hb ⟨Y _ _ dc X0,Y _ _ dc X1,Y _ _ dc X2,?_,?_,?_,?_,?_⟩ O ⟨.nils,.nils,.nils,C4,M3,Lv.nil,Lv.nil,Lv.nil,trivial,trivial,trivial,dc,dc,dc,om,τ _⟩
 ·show(67,[AV.ptr 2 0]) :: X.fr=_;rw[Xf]
 all_goals simp(disch:=decide) only[ji,ju]
def jfT (r:KR Ex):AV:=match r with
 |.er c l k=>.tup [.agg (eE ex0),.agg (fcl c l k)]
 |.ok y=>.tup [.agg (eE y),.agg (fcl 0 0 0)]
set_option maxHeartbeats 4000000 in
theorem jjd (hb:NB base)(m:ModT)(V:VarsOK m.vars m.enums)(x:Ex)(hx:OkE x):PX γ base 55 [.agg (mdE m),.agg (eE x)] (.ok (jfT (yy m.vars m.enums true x 2 []))):=by
 refine WU x25 (hb.pur 55 1 dc) ?_;simp only[y25,jr,κ,μ,ν,ξ];rw[(by unfold z25;simp only[qq];rfl:z25=_)];have uq:upd [.nils,.nils,.nils,.nilm,.bool false] 0 (mdE m)=[.lst m.vars.length (fl vaE m.vars),.lst m.enums.length (fl enE m.enums),.lst m.moves.length (fl moE m.moves),.nilm,.bool false]:=rfl;repeat'(first|apply jb<;>intro _|simp(disch:=first|exact dzG|fail) only[ww,YL,Vy,Vx (base:=base),uq,r12,δ,ε,ζ,η,θ])
 obtain⟨X,hX⟩:∃ X,X=Go.Sy.nw (Go.Sy.nw (Go.Sy.nw (Go.Sy.nw st0 (mdE m)) (eE x)) [.int .i64 0,.int .i64 0,.str [],.nils,.int .i64 0,.int .i64 0]) [.int .i64 0,.int .i64 0,.int .i64 0]:=⟨_,rfl⟩;rw[<-hX];have X3:Cl X 3 [.int .i64 0,.int .i64 0,.int .i64 0]:=by rw[hX];exact Cl.new _ _
 have X2:Cl X 2 [.int .i64 0,.int .i64 0,.str [],.nils,.int .i64 0,.int .i64 0]:=by rw[hX];exact(Cl.new _ _).nw _
 have X1:Cl X 1 (eE x):=by rw[hX];exact((Cl.new _ _).nw _).nw _
 have Xn:X.nx=4:=by rw[hX];rfl
 have Xf:X.fr=[]:=by rw[hX];rfl
 obtain⟨S,hS⟩:∃ S,S=Go.Sy.nw (df (67,[.ptr 3 0]) X) [.lst m.vars.length (fl vaE m.vars),.lst m.enums.length (fl enE m.enums),.lst m.moves.length (fl moE m.moves),.nilm,.bool true]:=⟨_,rfl⟩;rw[<-hS];have hn4:(df (67,[.ptr 3 0]) X).nx=4:=Xn;have Y:∀ c cs,c<4->Cl X c cs->Cl S c cs:=λc cs h3 h=>by
  rw[hS];refine h.keep ?_ ?_
  ·rw[jg,hn4];omega
  ·rw[q6 om];rfl
 have C1:=Y _ _ dc X1;have C2:=Y _ _ dc X2;have C3:=Y _ _ dc X3;have C4:Cl S 4 [.lst m.vars.length (fl vaE m.vars),.lst m.enums.length (fl enE m.enums),.lst m.moves.length (fl moE m.moves),.nilm,.bool true]:=by rw[hS];exact hn4▸Cl.new (df (67,[.ptr 3 0]) X) _
 have Sf:S.fr=[(67,[.ptr 3 0])]:=by
  rw[hS];show(67,[AV.ptr 3 0]) :: X.fr=_;rw[Xf]
 clear hS Y X1 X2 X3 Xn Xf hX uq hn4;refine UM hb V _ hx.2 (YM _ hx.1) _ _ (fm:=true) (mm:=.nilm) (v3:=.lst m.moves.length (fl moE m.moves)) ⟨C4,.inl rfl,.inl rfl,(λb k z x h=>by cases h),(λb k z x h=>by cases h)⟩ _ _ ?_;cases hr:yy m.vars m.enums true x 2 [] with
 |er a b c=>
  intro s' k2;have E1:=k2.cl C1 dc;have E2:=k2.cl C2 dc;have E3:=k2.cl C3 dc;have l3:=E3.len;have n3:=E3.lt;have hf:s'.fr=[(67,[.ptr 3 0])]:=k2.fr.trans Sf
  (have zz:=a4 @Q8 C1.r C2.r (a4 C3.r E1.r E2.r E3.r);(repeat'(first|apply jb<;>intro _|simp(disch:=first|exact jZ|fail) only[YL,Vy,Vx (base:=base),Q6,Y3,Qm (f:=67) (vs:=[.ptr 3 0]),JJ (f:=67) (vs:=[.ptr 3 0]),Gj,ja9,C1.q,C2.q,C3.q,E1.q,E2.q,E3.q,Q8,C1.r,C2.r,C3.r,E1.r,E2.r,E3.r,r12,δ,ε,ζ,η,θ]));all_goals clear zz)
  exact FzD.tup (.cons YI (.cons (.agg (.pc (by rfl))) .nil))
 |ok y=>
  intro s' k2 D4;have E1:=k2.cl C1 dc;have E2:=k2.cl C2 dc;have E3:=k2.cl C3 dc;have l3:=E3.len;have n3:=E3.lt;have hf:s'.fr=[(67,[.ptr 3 0])]:=k2.fr.trans Sf
  (have zz:=a4 @Q8 C1.r C2.r (a4 C3.r E1.r E2.r E3.r);(repeat'(first|apply jb<;>intro _|simp(disch:=first|exact jZ|fail) only[YL,Vy,Vx (base:=base),Q6,Y3,Qm (f:=67) (vs:=[.ptr 3 0]),JJ (f:=67) (vs:=[.ptr 3 0]),Gj,ja9,C1.q,C2.q,C3.q,E1.q,E2.q,E3.q,Q8,C1.r,C2.r,C3.r,E1.r,E2.r,E3.r,r12,δ,ε,ζ,η,θ]));all_goals clear zz)
  exact FzD.tup (.cons (.agg (.pc (q9 y))) (.cons (.agg (.pc (by rfl))) .nil))
theorem jjc (hb:NB base)(m:ModT)(V:VarsOK m.vars m.enums)(x:Ex)(hx:OkE x):Tot base 55 [.agg (mdE m),.agg (eE x)] (jfT (yy m.vars m.enums true x 2 [])):=hb.tot (jjd hb m V x hx) (by first|rfl|simp[pa,pc,q9,Xe,WQ,J7,JI,ja5,K1,Yj,wC,wH,J2,ZS]) rfl
mutual
theorem jcl:∀ (d:Nat) (x:Ex),ze d x=true->Qf x=true/\ZR x=true
 |0,_,h=>by cases h
 |d+1,.mk op num name ks l c,h=>by
  rw[WS] at h;simp only[Qaa,decide_eq_true_eq] at h;obtain⟨⟨⟨⟨h1,h2⟩,h3⟩,h4⟩,h5⟩:=h;have h3:(ks.length:Int)=if 5<=op/\op<=13 then 1 else if 14<=op/\op<31 then 2 else 0:=h3
  obtain⟨k1,k2⟩:=Hz d ks h5;refine⟨?_,?_⟩
  ·rw[Qf,Qaa,decide_eq_true_eq];refine⟨?_,k1⟩;split at h3
   ·omega
   ·split at h3<;>omega
  ·rw[ZR,Qaa,QaC,Qaa,decide_eq_true_eq,decide_eq_true_eq,decide_eq_true_eq];refine⟨?_,k2⟩;by_cases ho:op=1
   ·right;unfold uv at h4;rw[if_pos (show Ex.op (.mk op num name ks l c)=1 from ho)] at h4;simp only[Qaa,decide_eq_true_eq] at h4;have h6:(0:Int)<=num:=h4.1.1;have h7:num<=1000000:=h4.1.2;omega
   ·exact .inl ho
theorem Hz:∀ (d:Nat) (xs:List Ex),xs.all (ze d)=true->JY xs=true/\Qq xs=true
 |_,[],_=>⟨rfl,rfl⟩
 |d,x :: xs,h=>by
  rw[QaF,Qaa] at h;obtain⟨a1,a2⟩:=jcl d x h.1;obtain⟨b1,b2⟩:=Hz d xs h.2;rw[JY,Qq,Qaa,Qaa];exact⟨⟨a1,b1⟩,⟨a2,b2⟩⟩
end
theorem ua {ts:List Tk}(W:Wds ts){i j:Nat}{x:Ex}(hi:i<ts.length)(h:yx ts i=.ok x j):OkE x:=jcl 60 x (yj W hi h).2.2.2
theorem jhi:∀ {ts:List Tk} {n i j:Nat} {vs ws:List (List Nat)},vs.length<=32->XA ts n i vs=.ok ws j->vs.length<ws.length/\ws.length<=32
 |ts,0,i,j,vs,ws,hv,h=>by cases h
 |ts,n+1,i,j,vs,ws,hv,h=>by
  rw[XA] at h;split at h
  ·split at h
   ·cases h
   ·split at h
    ·have:=jhi (by simp;omega) h;simp at this;omega
    ·split at h
     ·cases h;simp;omega
     ·cases h
  ·cases h
theorem jr6 {ts:List Tk}{i j:Nat}{e:EnumT}(h:Yz ts i=.ok e j):0<e.vals.length/\e.vals.length<=1000000:=by
 unfold Yz at h;split at h
 ·split at h
  ·split at h
   ·rename_i vs k hv;cases h;have:=jhi (by simp) hv;dsimp only;omega
   ·cases h
  ·cases h
 ·cases h
theorem jnk {ts:List Tk}(N:Nbs ts){i j:Nat}{n:Int}(h:Y9 ts i=.ok n j) : -100000000<=n/\n<=100000000:=by
 unfold Y9 at h;split at h
 ·split at h
  ·have:=N (i+1);cases h;omega
  ·cases h
 ·split at h
  ·have:=N i;cases h;omega
  ·cases h
theorem js2 {ts:List Tk}(N:Nbs ts){i j:Nat}{y:List Nat×Int×Int}(h:WI ts i=.ok y j):(-100000000<=y.2.1/\y.2.1<=100000000)/\(-100000000<=y.2.2/\y.2.2<=100000000):=by
 unfold WI at h;split at h
 ·cases h;dsimp only;omega
 ·split at h
  ·cases h;dsimp only;omega
  ·split at h
   ·cases h
   ·rename_i lo k h1;split at h
    ·split at h
     ·cases h
     ·rename_i hi k2 h2;cases h;exact⟨jnk N h1,jnk N h2⟩
    ·cases h
theorem jtM {ts:List Tk}(W:Wds ts){i j:Nat}{bs:List Ex}(hi:i<ts.length)(h:wo ts i=.ok bs j):(∀ x∈bs,OkE x)/\bs.length<=1:=by
 unfold wo at h;split at h
 ·rename_i c;have hi1:=W.isM hi c;split at h
  ·cases h
  ·rename_i x k hx;split at h
   ·cases h;exact⟨λy hy=>by simp at hy;rw[hy];exact ua W hi1 hx,by simp⟩
   ·cases h
 ·split at h
  ·cases h;exact⟨(λy hy=>by cases hy),by simp⟩
  ·cases h
theorem jse {ts:List Tk}(W:Wds ts)(N:Nbs ts){i j:Nat}{d:DeclT}(hi:i<ts.length)(h:YA ts i=.ok d j):DeclOK d:=by
 unfold YA at h;split at h
 ·rename_i k1;have hi1:=W.next i hi om
  split at h
  ·rename_i c1;have hi2:=W.isM hi1 c1;split at h
   ·cases h
   ·rename_i y k hy;have hk:=jb9 W hi2 hy;split at h
    ·cases h
    ·rename_i bs k2 hb;cases h;obtain⟨a,b⟩:=js2 N hy;obtain⟨c,d⟩:=jtM W hk.2 hb;exact⟨c,by dsimp only;omega,a,b⟩
  ·cases h
 ·cases h
theorem jjT {ts:List Tk}(W:Wds ts):∀ {n i j:Nat} {vs ws:List AsT},i<ts.length->(∀ a∈vs,OkE a.to)->vs.length<=32->QU ts n i vs=.ok ws j->(∀ a∈ws,OkE a.to)/\ws.length<=32
 |0,i,j,vs,ws,hi,hv,hl,h=>by cases h
 |n+1,i,j,vs,ws,hi,hv,hl,h=>by
  rw[QU] at h;by_cases k1:(tk ts i).kind=1
  ·simp only[if_pos k1] at h;have hi1:=W.next i hi om
   by_cases h32:32<=vs.length
   ·simp only[if_pos h32] at h;cases h
   simp only[if_neg h32] at h;by_cases c1:isM (tk ts (i+1)) [[58,61]]=true
   ·simp only[if_pos c1] at h;have hi2:=W.isM hi1 c1;cases h1:yx ts (i+2) with
    |er t=>rw[h1] at h;cases h
    |ok x k=>
     rw[h1] at h;dsimp only at h;have hj:=yj W hi2 h1;have hx:=ua W hi2 h1;have hv2:∀ l c nm,∀ a∈vs ++ [(⟨nm,x,l,c⟩:AsT)],OkE a.to:=λl c nm a ha=>by
      rcases Qau.1 ha with ha|ha
      ·exact hv a ha
      ·simp at ha;rw[ha];exact hx
     by_cases c2:isM (tk ts k) [[44]]=true
     ·simp only[if_pos c2] at h;exact jjT W (W.isM hj.2.1 c2) (hv2 _ _ _) (by simp;omega) h
     ·simp only[if_neg c2] at h;split at h
      ·cases h;exact⟨hv2 _ _ _,by simp;omega⟩
      ·cases h
   ·simp only[if_neg c1] at h;cases h
  ·simp only[if_neg k1] at h;cases h
theorem jrb {ts:List Tk}(W:Wds ts){i j:Nat}{r:RuleT}(hi:i<ts.length)(h:XI ts i=.ok r j):OkE r.when/\(∀ a∈r.acts,OkE a.to)/\r.acts.length<=1000000:=by
 unfold XI at h;cases h1:yx ts i with
 |er t=>rw[h1] at h;cases h
 |ok x k=>
  rw[h1] at h;dsimp only at h;have hj:=yj W hi h1;by_cases c1:isM (tk ts k) [[100,111]]=true
  ·simp only[if_pos c1] at h;cases h2:QU ts ts.length (k+1) [] with
   |er t=>rw[h2] at h;cases h
   |ok vs k2=>
    rw[h2] at h;cases h;have:=jjT (vs:=[]) W (W.isM hj.2.1 c1) (λa ha=>by cases ha) (Qae _) h2;exact⟨ua W hi h1,this.1,by dsimp only;omega⟩
  ·simp only[if_neg c1] at h;cases h
theorem jew {ts:List Tk}(W:Wds ts):∀ {n i j:Nat} {vs ws:List RuleT},i<ts.length->(∀ r∈vs,OkE r.when/\(∀ a∈r.acts,OkE a.to)/\r.acts.length<=1000000)->vs.length<=32->Qp ts n i vs=.ok ws j->(∀ r∈ws,OkE r.when/\(∀ a∈r.acts,OkE a.to)/\r.acts.length<=1000000)/\ws.length<=32
 |0,i,j,vs,ws,hi,hv,hl,h=>by cases h
 |n+1,i,j,vs,ws,hi,hv,hl,h=>by
  rw[Qp] at h;by_cases c1:isM (tk ts i) [[119,104,101,110]]=true
  ·simp only[if_pos c1] at h;have hi1:=W.isM hi c1;by_cases h32:32<=vs.length
   ·simp only[if_pos h32] at h;cases h
   simp only[if_neg h32] at h;cases h1:XI ts (i+1) with
   |er t=>rw[h1] at h;cases h
   |ok r k=>
    rw[h1] at h;dsimp only at h;refine jew W (UW W hi1 h1).2 (λa ha=>?_) (by simp;omega) h;rcases Qau.1 ha with ha|ha
    ·exact hv a ha
    ·simp at ha;rw[ha];exact jrb W hi1 h1
  ·simp only[if_neg c1] at h;split at h
   ·cases h;exact⟨hv,hl⟩
   ·cases h
theorem jro {ts:List Tk}(W:Wds ts){i j:Nat}{p:ProcT}(hi:i<ts.length)(h:Yo ts i=.ok p j):ProcOK p:=by
 unfold Yo at h;split at h
 ·rename_i k1;have hi1:=W.next i hi om
  split at h
  ·rename_i c1;have hi2:=W.isM hi1 c1;split at h
   ·rename_i vs k hv;cases h;have:=jew (vs:=[]) W hi2 (λa ha=>by cases ha) (Qae _) hv;exact⟨by dsimp only;omega,this.1⟩
   ·cases h
  ·cases h
 ·cases h
theorem jaR {ts:List Tk}(W:Wds ts)(N:Nbs ts):∀ {n i j:Nat} {m w:SrcT},i<ts.length->SrcOK m->m.enums.length<=32->m.vars.length<=32->m.procs.length<=32->X6 ts n i m=.ok w j->SrcOK w/\w.enums.length<=32/\w.vars.length<=32/\w.procs.length<=32
 |0,i,j,m,w,hi,hm,h1,h2,h3,h=>by cases h
 |n+1,i,j,m,w,hi,hm,h1,h2,h3,h=>by
  rw[X6] at h;by_cases c:isM (tk ts i) [[101,110,117,109],[118,97,114],[112,114,111,99,101,115,115]]=true
  ·simp only[if_pos c] at h;have hi1:=W.isM hi c;by_cases c1:(tk ts i).text=[101,110,117,109]
   ·simp only[if_pos c1] at h;by_cases hr:32<=m.enums.length
    ·simp only[if_pos hr] at h;cases h
    simp only[if_neg hr] at h;cases he:Yz ts (i+1) with
    |er t=>rw[he] at h;cases h
    |ok e k=>
     rw[he] at h;refine jaR (m:={ m with enums:=m.enums ++ [e] }) W N (Hi W hi1 he).2 ⟨by simp;omega,hm.nv,hm.np,λa ha=>?_,hm.vars,hm.procs⟩ (by simp;omega) h2 h3 h;rcases Qau.1 ha with ha|ha
     ·exact hm.vals a ha
     ·simp at ha;rw[ha];exact jr6 he
   simp only[if_neg c1] at h;by_cases c2:(tk ts i).text=[118,97,114]
   ·simp only[if_pos c2] at h;by_cases hr:32<=m.vars.length
    ·simp only[if_pos hr] at h;cases h
    simp only[if_neg hr] at h;cases he:YA ts (i+1) with
    |er t=>rw[he] at h;cases h
    |ok e k=>
     rw[he] at h;refine jaR (m:={ m with vars:=m.vars ++ [e] }) W N (Hn W hi1 he).2 ⟨hm.ne,by simp;omega,hm.np,hm.vals,λa ha=>?_,hm.procs⟩ h1 (by simp;omega) h3 h;rcases Qau.1 ha with ha|ha
     ·exact hm.vars a ha
     ·simp at ha;rw[ha];exact jse W N hi1 he
   ·simp only[if_neg c2] at h;by_cases hr:32<=m.procs.length
    ·simp only[if_pos hr] at h;cases h
    simp only[if_neg hr] at h;cases he:Yo ts (i+1) with
    |er t=>rw[he] at h;cases h
    |ok e k=>
     rw[he] at h;refine jaR (m:={ m with procs:=m.procs ++ [e] }) W N (GQ W hi1 he).2 ⟨hm.ne,hm.nv,by simp;omega,hm.vals,hm.vars,λa ha=>?_⟩ h1 h2 (by simp;omega) h;rcases Qau.1 ha with ha|ha
     ·exact hm.procs a ha
     ·simp at ha;rw[ha];exact jro W hi1 he
  ·simp only[if_neg c] at h;split at h
   ·cases h;exact⟨hm,h1,h2,h3⟩
   ·cases h
theorem jet {l:List Nat}(h:(yB l).2.1=0):SrcOK (yB l).1:=by
 unfold yB at h ⊢;by_cases c:(qr l).2.1≠0
 ·rw[if_pos c] at h;exact absurd h c
 ·rw[if_neg c] at h ⊢;have c0:(qr l).2.1=0:=by simpa using c
  obtain⟨W,ne,_⟩:=Uw c0;cases hr:X6 (qr l).1 (qr l).1.length 0 WO with
  |er t=>rw[hr] at h;exact absurd h (λh=>by cases h)
  |ok m j=>exact(jaR W (jjA c0) (QbE.2 ne) ⟨dc,dc,dc,(λa ha=>by cases ha),(λa ha=>by cases ha),(λa ha=>by cases ha)⟩ dc dc dc hr).1
theorem jl2 {l:List Nat}(h:(yn l).2.1=0):OkE (yn l).1:=by
 unfold yn at h ⊢;by_cases c:(qr l).2.1≠0
 ·rw[if_pos c] at h;exact absurd h c
 ·rw[if_neg c] at h ⊢;have c0:(qr l).2.1=0:=by simpa using c
  obtain⟨W,ne,_⟩:=Uw c0;cases hr:yx (qr l).1 0 with
  |er t=>rw[hr] at h;exact absurd h (λh=>by cases h)
  |ok x j=>
   rw[hr] at h;dsimp only at h ⊢;by_cases k5:(tk (qr l).1 j).kind=5
   ·rw[if_pos k5];exact ua W (QbE.2 ne) hr
   ·rw[if_neg k5] at h;exact absurd h (λh=>by cases h)
def Bad (c:Int):Prop:=c≠0
theorem jgf {vars:List VarT}{enums:List EnumT}{x:Ex}{c l k:Int}(h:zN vars enums x=.er c l k):Bad c:=by
 unfold zN at h;split at h
 ·cases h
 ·split at h
  ·cases h;exact λh=>by cases h
  ·cases h
mutual
theorem jah {vars:List VarT}{enums:List EnumT}:∀ (fm:Bool) (x:Ex) {a b d:Int},yt vars enums fm x=.er a b d->Bad a
 |fm,.mk op num name ks l c,a,b,d,h=>by
  rw[yt] at h;split at h
  ·cases h
  ·split at h
   ·cases h
   ·split at h
    ·exact jgf h
    ·split at h
     ·rename_i hr;cases h;exact gO _ _ hr
     ·unfold Zc at h;split at h
      ·cases h;exact λh=>by cases h
      ·split at h
       ·cases h
       ·split at h
        ·cases h;exact λh=>by cases h
        ·cases h
theorem gO {vars:List VarT}{enums:List EnumT}:∀ (fm:Bool) (xs:List Ex) {a b d:Int},qw vars enums fm xs=.er a b d->Bad a
 |fm,[],a,b,d,h=>by rw[qw] at h;cases h
 |fm,x :: xs,a,b,d,h=>by
  rw[qw] at h;cases hx:yt vars enums fm x with
  |er p q r=>rw[hx] at h;cases h;exact jah fm x hx
  |ok y=>
   rw[hx] at h;cases hr:qw vars enums fm xs with
   |er p q r=>rw[hr] at h;cases h;exact gO fm xs hr
   |ok r=>rw[hr] at h;cases h
end
theorem QG {vars:List VarT}{enums:List EnumT}{fm:Bool}{x:Ex}{w:Int}{en:List Nat}{a b c:Int}(h:yy vars enums fm x w en=.er a b c):Bad a:=by
 unfold yy at h;split at h
 ·rename_i hr;cases h;exact jah fm x hr
 ·split at h
  ·cases h;exact λh=>by cases h
  ·cases h
theorem VG {ts:List (List Nat)}{n:List Nat}{l c a b d:Int}(h:XG ts n l c=.er a b d):Bad a:=by
 unfold XG at h;split at h
 ·cases h;exact λh=>by cases h
 ·cases h
theorem KW {l c:Int}:∀ {ns ts:List (List Nat)} {a b d:Int},zw l c ts ns=.er a b d->Bad a
 |[],ts,a,b,d,h=>by cases h
 |n :: ns,ts,a,b,d,h=>by
  rw[zw] at h;split at h
  ·rename_i hr;cases h;exact VG hr
  ·exact KW h
theorem jjs {m:ModT}{ts:List (List Nat)}{e:EnumT}{a b d:Int}(h:wS m ts e=.er a b d):Bad a:=by
 unfold wS at h;split at h
 ·rename_i hr;cases h;exact KW hr
 ·cases h
theorem jdD {vars:List VarT}{enums:List EnumT}:∀ {xs:List Ex} {v:VarT} {a b d:Int},Jb vars enums v xs=.er a b d->Bad a
 |[],v,a,b,d,h=>by rw[Jb] at h;cases h
 |x :: xs,v,a,b,d,h=>by
  rw[Jb] at h;split at h
  ·rename_i hr;cases h;exact QG hr
  ·split at h
   ·cases h;exact λh=>by cases h
   ·split at h
    ·cases h;exact λh=>by cases h
    ·exact jdD h
theorem jjz {m:ModT}{ts:List (List Nat)}{e:DeclT}{a b d:Int}(h:QO m ts e=.er a b d):Bad a:=by
 unfold QO at h;split at h
 ·rename_i hr;cases h;exact VG hr
 ·split at h
  ·rename_i hr;cases h;unfold ZU at hr;split at hr
   ·cases hr
   ·split at hr
    ·cases hr
    ·split at hr
     ·cases hr;exact λh=>by cases h
     ·split at hr
      ·cases hr;exact λh=>by cases h
      ·split at hr
       ·cases hr;exact λh=>by cases h
       ·cases hr
  ·unfold ZZ at h;split at h
   ·rename_i hr;cases h;exact jdD hr
   ·unfold VZ at h;split at h
    ·cases h;exact λh=>by cases h
    ·cases h
theorem Hw {vars:List VarT}{enums:List EnumT}:∀ {xs done:List AsT} {acc:List SetT} {a b d:Int},QJ vars enums acc done xs=.er a b d->Bad a
 |[],done,acc,a,b,d,h=>by rw[QJ] at h;cases h
 |x :: xs,done,acc,a,b,d,h=>by
  rw[QJ] at h;split at h
  ·cases h;exact λh=>by cases h
  ·split at h
   ·cases h;exact λh=>by cases h
   ·split at h
    ·rename_i hr;cases h;exact QG hr
    ·exact Hw h
theorem jh6 {m:ModT}{ts:List (List Nat)}{e:RuleT}{a b d:Int}(h:XJ m ts e=.er a b d):Bad a:=by
 unfold XJ at h;split at h
 ·rename_i hr;cases h;exact QG hr
 ·split at h
  ·rename_i hr;cases h;exact Hw hr
  ·cases h
theorem Z7 {α β:Type}{f:β->α->KR β}(hf:∀ b x a c d,f b x=.er a c d->Bad a):∀ {xs:List α} {b:β} {a c d:Int},ym f b xs=.er a c d->Bad a
 |[],b,a,c,d,h=>by rw[ym] at h;cases h
 |x :: xs,b,a,c,d,h=>by
  rw[ym] at h;split at h
  ·rename_i hr;cases h;exact hf _ _ _ _ _ hr
  ·exact Z7 hf h
theorem wG {s:SrcT}{a b d:Int}(h:zh s=.er a b d):Bad a:=by
 unfold zh at h;split at h
 ·rename_i hr;cases h;exact Z7 (λb x a c d h=>jjs h) hr
 ·split at h
  ·rename_i hr;cases h;exact Z7 (λb x a c d h=>jjz h) hr
  ·refine Z7 (λb x a c d h=>?_) h;unfold Y7 at h;split at h
   ·rename_i hr;cases h;exact VG hr
   ·exact Z7 (λb x a c d h=>jh6 h) h
theorem jtc:Go.Ev.isAgg γ 35=some true:=by kernel_rfl
theorem jtb:Go.Ev.sizeOf γ 35=some 3:=by kernel_rfl
theorem juY {b o:Nat}{cs:List AV}{h:T AO}(ho:o+3<=qv h b)(hv:rats h b o 3=cs)(hc:cs.all eqs=true):(jY γ 35 (.ptr b o) (.agg cs) h=true)=True:=eq_true (Y5 jtc jtb dc ho hv hc)
structure RdT where
 m:ModT
 x:Ex
 c:Int
 l:Int
 k:Int
def zn (l f:List Nat):RdT:=
 if(yB l).2.1≠0 then⟨md0,ex0,(yB l).2.1,(yB l).2.2.1,(yB l).2.2.2⟩ else match zh (yB l).1 with
 |.er a b c=>⟨md0,ex0,a,b,c⟩
 |.ok m=>if(yn f).2.1≠0 then⟨md0,ex0,(yn f).2.1,(yn f).2.2.1,(yn f).2.2.2⟩ else match yy m.1.vars m.1.enums true (yn f).1 2 [] with
  |.er a b c=>⟨md0,ex0,a,b,c⟩
  |.ok y=>⟨m.1,y,0,0,0⟩
def KV (r:RdT):AV:=.tup [.agg (mdE r.m),.agg (eE r.x),.agg (fcl r.c r.l r.k)]
theorem jlg {s:St}{r:RdT}{a b c:List AV}(h1:a=mdE r.m)(h2:b=eE r.x)(h3:c=fcl r.c r.l r.k):G0 (KV r) (.tup [.agg a,.agg b,.agg c]) s:=by
 subst h1 h2 h3;exact FzD.tup (.cons (.agg (.pc (J2 _))) (.cons (.agg (.pc (q9 _))) (.cons (.agg (.pc rfl)) .nil)))
theorem WK {s:St}{r:RdT}{c:List AV}(h1:r.m=md0)(h2:r.x=ex0)(h3:c=fcl r.c r.l r.k):G0 (KV r) (.tup [.agg [.nils,.nils,.nils],.agg [.int .i64 0,.int .i64 0,.str [],.nils,.int .i64 0,.int .i64 0],.agg c]) s:=by
 subst h3;unfold KV;rw[h1,h2];exact FzD.tup (.cons jiG (.cons YI (.cons (.agg (.pc rfl)) .nil)))
theorem Ji {α β:Type}{f:β->α->KR β}{P:Nat->β->Prop}:∀ {xs:List α} {n:Nat} {b b':β},(∀ k b x b',x∈xs->P k b->f b x=.ok b'->P (k+1) b')->P n b->ym f b xs=.ok b'->P (n+xs.length) b'
 |[],n,b,b',_,h,e=>by rw[ym] at e;cases e;exact h
 |x :: xs,n,b,b',hs,h,e=>by
  rw[ym] at e;split at e
  ·cases e
  ·rename_i c hc;have:=Ji (n:=n+1) (λk b y b' hy=>hs k b y b' (by simp[hy])) (hs n b x c (by simp) h hc) e;rw[φ,show n+(xs.length+1)=n+1+xs.length by omega];exact this
theorem Kd {b b':MT}{p:ProcT}(h:Y7 b p=.ok b'):b'.1.vars=b.1.vars/\b'.1.enums=b.1.enums:=by
 unfold Y7 at h;split at h
 ·cases h
 ·rename_i ts _;refine Ji (n:=0) (P:=λ_ c=>c.1.vars=b.1.vars/\c.1.enums=b.1.enums) (λk c x c' _ hc hr=>?_) ⟨rfl,rfl⟩ h;obtain⟨e,he⟩:=jcj hr;rw[he];exact hc
theorem jl7 {src:SrcT}(O:SrcOK src){b:MT}(h:Uq (md0,[]) src.enums=.ok b):b.1.vars=[]/\b.1.moves=[]/\b.1.enums.length<=1000/\(∀ e∈b.1.enums,e.vals.length<=1000000):=by
 have H:=Ji (n:=0) (P:=λk (c:MT)=>c.1.vars=[]/\c.1.moves=[]/\c.1.enums.length<=k/\(∀ e∈c.1.enums,e.vals.length<=1000000)) (λk c x c' hx hc hr=>?_) ⟨rfl,rfl,τ _,λe he=>by cases he⟩ h
 ·have:=O.ne;exact⟨H.1,H.2.1,by have:=H.2.2.1;omega,H.2.2.2⟩
 ·rw[vS hr];refine⟨hc.1,hc.2.1,by have:=hc.2.2.1;simp;omega,λu hu=>?_⟩;rcases Qau.1 hu with hu|hu
  ·exact hc.2.2.2 u hu
  ·simp only[QaK] at hu;rw[hu];exact(O.vals x hx).2
theorem jmb {src:SrcT}(O:SrcOK src){b c:MT}(V:VarsOK b.1.vars b.1.enums)(h0:b.1.vars=[])(h:vU b src.vars=.ok c):VarsOK c.1.vars c.1.enums:=by
 have:=Ji (n:=0) (P:=λk (c:MT)=>(∀ v∈c.1.vars,-100000000<=v.lo/\v.lo<=100000000/\-100000000<=v.hi/\v.hi<=100000000)/\c.1.enums=b.1.enums/\c.1.vars.length=k) (λk c x c' hx hc hr=>?_) ⟨V.ends,rfl,by rw[h0];rfl⟩ h
 ·have hn:=O.nv;exact⟨om,by rw[this.2.1];exact V.len2,by rw[this.2.1];exact V.vals,this.1⟩
 ·obtain⟨v,he,hv⟩:=jdo (by rw[hc.2.1];exact V.vals) (O.vars x hx) hr;rw[he];refine⟨λu hu=>?_,hc.2.1,by simp[hc.2.2]⟩;rcases Qau.1 hu with hu|hu
  ·exact hc.1 u hu
  ·simp only[QaK] at hu;rw[hu];exact hv
theorem jno {src:SrcT}(O:SrcOK src){m:MT}(h:zh src=.ok m):VarsOK m.1.vars m.1.enums:=by
 unfold zh at h;split at h
 ·cases h
 ·rename_i b h1;obtain⟨e1,e2,e3,e4⟩:=jl7 O h1;split at h
  ·cases h
  ·rename_i c h2;have V:=jmb O ⟨by rw[e1];exact Qae _,om,e4,λv hv=>by rw[e1] at hv;cases hv⟩ e1 h2;have:=Ji (n:=0) (P:=λ_ (d:MT)=>d.1.vars=c.1.vars/\d.1.enums=c.1.enums) (λk d x d' _ hd hr=>?_) ⟨rfl,rfl⟩ h
   ·rw[this.1,this.2];exact V
   ·have:=Kd hr;rw[this.1,this.2];exact hd
set_option maxHeartbeats 8000000 in
theorem jsL (hb:NB base)(hP:PI base)(l f:List Nat)(hl:l.length<=9223372036854775807)(hf:f.length<=9223372036854775807):Tot base 34 [.str l,.str f] (KV (zn l f)):=by
 refine hb.tot ?_ rfl rfl;have hS:=jmr hb hP l hl Uw jjA;have hX:=jsS hb hP f hf Uw;refine jG x24 (by rfl) (hb.pur 34 1 dc) ?_;simp only[y24,jr,κ,μ,ν,ξ];rw[(by unfold z24;simp only[qq];rfl:z24=_)];unfold zn;by_cases h1:(yB l).2.1≠0
 ·have h1':¬ ((yB l).2.1:Int)=0:=om
  rw[if_pos h1];have e:zO (yB l).2=[.int .i64 ((yB l).2.1:Int),.int .i64 ((yB l).2.2.1:Int),.int .i64 ((yB l).2.2.2:Int)]:=rfl;rw[e] at hS;repeat'(first|apply jb<;>intro _|simp(disch:=first|exact dzG|fail) only[hS,h1',Y3,Q6,ud,r12,δ,ε,ζ,η,θ])
  exact WK rfl rfl rfl
 rw[if_neg h1];have h1z:(yB l).2.1=0:=by simpa using h1
 have O:=jet h1z;have e0:(yB l).2=(0,0,0):=by
  unfold yB at h1z ⊢;by_cases c:(qr l).2.1≠0
  ·rw[if_pos c] at h1z;exact absurd h1z c
  ·rw[if_neg c] at h1z ⊢;cases hr:X6 (qr l).1 (qr l).1.length 0 WO with
   |er t=>rw[hr] at h1z;exact absurd h1z (λh=>by cases h)
   |ok m j=>rfl
 rw[e0] at hS;have e0':zO (0,0,0)=[.int .i64 0,.int .i64 0,.int .i64 0]:=rfl;rw[e0'] at hS;have hM:=joK hb (yB l).1 O;unfold UO at hM;cases hm:zh (yB l).1 with
 |er a b c=>
  have ha:¬ a=0:=wG hm;rw[hm] at hM;unfold fcl at hM;repeat'(first|apply jb<;>intro _|simp(disch:=first|exact dzG|fail) only[hS,hM,ha,Y3,Q6,ud,r12,δ,ε,ζ,η,θ])
  exact WK rfl rfl rfl
 |ok m=>
  rw[hm] at hM;unfold fcl at hM;dsimp only at hM ⊢;have V:=jno O hm;by_cases h2:(yn f).2.1≠0
  ·have h2':¬ ((yn f).2.1:Int)=0:=om
   rw[if_pos h2];have e:zO (yn f).2=[.int .i64 ((yn f).2.1:Int),.int .i64 ((yn f).2.2.1:Int),.int .i64 ((yn f).2.2.2:Int)]:=rfl;rw[e] at hX;repeat'(first|apply jb<;>intro _|simp(disch:=first|exact dzG|fail) only[hS,hM,hX,h2',Y3,Q6,ud,r12,δ,ε,ζ,η,θ])
   exact WK rfl rfl rfl
  rw[if_neg h2];have h2z:(yn f).2.1=0:=by simpa using h2
  have OX:=jl2 h2z;have e2:(yn f).2=(0,0,0):=by
   unfold yn at h2z ⊢;by_cases c:(qr f).2.1≠0
   ·rw[if_pos c] at h2z;exact absurd h2z c
   ·rw[if_neg c] at h2z ⊢;cases hr:yx (qr f).1 0 with
    |er t=>rw[hr] at h2z;exact absurd h2z (λh=>by cases h)
    |ok x j=>
     rw[hr] at h2z;dsimp only at h2z ⊢;by_cases k5:(tk (qr f).1 j).kind=5
     ·rw[if_pos k5]
     ·rw[if_neg k5] at h2z;exact absurd h2z (λh=>by cases h)
  rw[e2,e0'] at hX;have hF:=jjc hb m.1 V (yn f).1 OX;unfold jfT at hF;cases hr:yy m.1.vars m.1.enums true (yn f).1 2 [] with
  |er a b c=>
   have ha:¬ a=0:=QG hr;rw[hr] at hF;unfold fcl at hF;repeat'(first|apply jb<;>intro _|simp(disch:=first|exact dzG|fail) only[hS,hM,hX,hF,ha,Y3,Q6,ud,r12,δ,ε,ζ,η,θ])
   exact WK rfl rfl rfl
  |ok y=>
   rw[hr] at hF;unfold fcl at hF
   (have zz:=aI @Q8 @jnq;(repeat'(first|apply jb<;>intro _|simp(disch:=first|exact jZ|fail) only[hS,hM,hX,hF,Y3,Q6,juY,ud,Q8,jnq,r12,δ,ε,ζ,η,θ]));all_goals clear zz)
   exact jlg rfl rfl rfl
theorem ju4 (a b c d e f:Int):(eqF γ 20 45).run (.agg [.int .i64 a,.int .i64 b,.int .i64 c]) (.agg [.int .i64 d,.int .i64 e,.int .i64 f])=some (decide (a=d/\b=e/\c=f)):=by
 have h:(eqF γ 20 45).run (.agg [.int .i64 a,.int .i64 b,.int .i64 c]) (.agg [.int .i64 d,.int .i64 e,.int .i64 f])=cond (eqI a d) (cond (eqI b e) (cond (eqI c f) (some true) (some false)) (some false)) (some false):=by kernel_rfl
 rw[h,Yh,Yh,Yh];by_cases h1:a=d<;>by_cases h2:b=e<;>by_cases h3:c=f<;>simp[h1,h2,h3]
theorem fEq (a b c d e f:Int)(st:St)(K:AV->St->Prop):jh (Xu γ .eql 45 false (.agg [.int .i64 a,.int .i64 b,.int .i64 c]) (.agg [.int .i64 d,.int .i64 e,.int .i64 f]) st) K=K (.bool (decide (a=d/\b=e/\c=f))) st:=by
 have h:Xu γ .eql 45 false (.agg [.int .i64 a,.int .i64 b,.int .i64 c]) (.agg [.int .i64 d,.int .i64 e,.int .i64 f]) st=jS ((eqF γ 20 45).run (.agg [.int .i64 a,.int .i64 b,.int .i64 c]) (.agg [.int .i64 d,.int .i64 e,.int .i64 f])) λb=>.ok (.bool b) st:=by kernel_rfl
 rw[h,ju4];simp[jS,jh]
def Zn (vars:List VarT):Prop:=∀ v∈vars,v.kind=2->v.enum=[]
theorem jgk {enums:List EnumT}{d:DeclT}{v:VarT}(h:ZU enums d=.ok v):v.kind=2->v.enum=[]:=by
 unfold ZU at h;split at h
 ·cases h;exact λ_=>rfl
 ·split at h
  ·cases h;intro h;cases h
  ·split at h
   ·cases h
   ·split at h
    ·cases h
    ·split at h
     ·cases h
     ·cases h;intro h;cases h
theorem jgN {m:ModT}{ts:List (List Nat)}{d:DeclT}{b:MT}(hm:Zn m.vars)(h:QO m ts d=.ok b):Zn b.1.vars:=by
 unfold QO at h;split at h
 ·cases h
 ·split at h
  ·cases h
  ·rename_i v hk;unfold ZZ at h;split at h
   ·cases h
   ·rename_i u hu;unfold VZ at h;split at h
    ·cases h
    ·cases h;have hb:=Hq hu;intro w hw;rcases Qau.1 hw with hw|hw
     ·exact hm w hw
     ·simp only[QaK] at hw;rw[hw,hb.2.2.1,hb.2.2.2.1];exact jgk hk
theorem joP {src:SrcT}{m:MT}(h:zh src=.ok m):Zn m.1.vars:=by
 unfold zh at h;split at h
 ·cases h
 ·rename_i b h1;have hb:Zn b.1.vars:=Ji (n:=0) (P:=λ_ (c:MT)=>Zn c.1.vars) (λk c x c' _ hc hr=>by rw[vS hr];exact hc) (λv hv=>by cases hv) h1;split at h
  ·cases h
  ·rename_i c h2;have hc:Zn c.1.vars:=Ji (n:=0) (P:=λ_ (c:MT)=>Zn c.1.vars) (λk c x c' _ hc hr=>jgN hc hr) hb h2;exact Ji (n:=0) (P:=λ_ (c:MT)=>Zn c.1.vars) (λk c x c' _ hc hr=>by rw[(Kd hr).1];exact hc) hc h
mutual
theorem jcZ {vars:List VarT}{enums:List EnumT}:∀ (fm:Bool) (x y:Ex) (m:MtT),yt vars enums fm x=.ok (y,m)->szE y<=szE x
 |fm,.mk op num name ks l c,y,m,h=>by
  rw[yt] at h;split at h
  ·cases h;exact τ _
  ·split at h
   ·cases h;exact τ _
   ·split at h
    ·have hs:∀ o n l c,szE (.mk o n [] [] l c)<=szE (.mk op num name ks l c):=λo n l c=>by rw[Xi,Xi];simp[yN]
     unfold zN at h;split at h
     ·cases h;exact hs _ _ _ _
     ·split at h
      ·cases h
      ·cases h;exact hs _ _ _ _
    ·split at h
     ·cases h
     ·rename_i r hr;have h2:=jad _ _ r.1 r.2 hr;have e:∀ l' c',szE (.mk op num name r.1 l' c')<=szE (.mk op num name ks l c):=λl' c'=>by rw[Xi,Xi];omega
      unfold Zc at h;split at h
      ·cases h
      ·split at h
       ·cases h;exact e _ _
       ·split at h
        ·cases h
        ·cases h;exact e _ _
theorem jad {vars:List VarT}{enums:List EnumT}:∀ (fm:Bool) (xs ys:List Ex) (ms:List MtT),qw vars enums fm xs=.ok (ys,ms)->yN ys<=yN xs
 |fm,[],ys,ms,h=>by rw[qw] at h;cases h;exact τ _
 |fm,x :: xs,ys,ms,h=>by
  rw[qw] at h;cases hx:yt vars enums fm x with
  |er a b d=>rw[hx] at h;cases h
  |ok y=>
   rw[hx] at h;cases hr:qw vars enums fm xs with
   |er a b d=>rw[hr] at h;cases h
   |ok r=>
    rw[hr] at h;cases h;have h1:=jcZ fm x y.1 y.2 hx;have h2:=jad fm xs r.1 r.2 hr;simp only[yN];omega
end
theorem YN {α:Type}{f:α->Nat}:∀ {l:List α} {x:α},x∈l->f x<=(l.map f).sum
 |y :: l,x,h=>by
  rw[κ,List.sum_cons];rcases QaS.1 h with rfl|h
  ·omega
  ·have:=YN (f:=f) h;omega
theorem YO {α:Type}{f:α->Nat}(hf:∀ x,1<=f x):∀ l:List α,l.length<=(l.map f).sum
 |[]=>Qae _
 |y :: l=>by
  rw[κ,List.sum_cons,φ];have:=YO hf l;have:=hf y;omega
theorem jlh {xs:List Ex}{x:Ex}(h:x∈xs):szE x<=yN xs:=by rw[<-Qa];exact YN h
theorem joj (xs:List Ex):xs.length<=yN xs:=by rw[<-Qa];exact YO GI xs
theorem jqE {m:SrcT}(h:szS m<=1048576):WrS m:=by
 unfold szS at h;have hB:(1048576:Nat)<=BIG:=dc
 have l1:=YO (f:=szN) (λe=>by unfold szN;omega) m.enums;have l2:=YO (f:=szD) (λe=>by unfold szD;omega) m.vars;have l3:=YO (f:=szP) (λe=>by unfold szP;omega) m.procs;refine⟨om,λe he=>?_,om,λd hd=>?_,om,λp hp=>?_⟩
 ·have h0:=YN (f:=szN) he;have e0:szN e=e.name.length+(e.vals.map szV).sum+1:=rfl;have lv:=YO (f:=szV) (λe=>by unfold szV;omega) e.vals;refine⟨om,om,λv hv=>?_⟩;have h1:=YN (f:=szV) hv;have e1:szV v=v.length+1:=rfl;omega
 ·have h0:=YN (f:=szD) hd;have e0:szD d=d.name.length+d.ty.length+yN d.begins+1:=rfl;have:=joj d.begins;refine⟨om,om,om,λx hx=>?_⟩;have:=jlh hx;omega
 ·have h0:=YN (f:=szP) hp;have e0:szP p=p.name.length+(p.rules.map szR).sum+1:=rfl;have lr:=YO (f:=szR) (λe=>by unfold szR;omega) p.rules;refine⟨om,om,λr hr=>?_⟩;have h1:=YN (f:=szR) hr;have e1:szR r=szE r.when+(r.acts.map szA).sum+1:=rfl;have la:=YO (f:=szA) (λe=>by unfold szA;omega) r.acts;refine⟨om,om,λa ha=>?_⟩;have h2:=YN (f:=szA) ha;have e2:szA a=a.name.length+szE a.to+1:=rfl;omega
section
variable {st:St} {K:AV->St->Prop}
theorem jmW (a b c:AV):jh (Hb 0 (.tup [a,b,c]) st) K=K a st:=nr rfl
theorem jmV (a b c:AV):jh (Hb 1 (.tup [a,b,c]) st) K=K b st:=nr rfl
theorem jmU (a b c:AV):jh (Hb 2 (.tup [a,b,c]) st) K=K c st:=nr rfl
end
theorem jcp {l f:List Nat}(h:(zn l f).c=0):VarsOK (zn l f).m.vars (zn l f).m.enums/\Zn (zn l f).m.vars:=by
 unfold zn at h ⊢;by_cases h1:(yB l).2.1≠0
 ·rw[if_pos h1] at h;exact absurd (show((yB l).2.1:Int)=0 from h) om
 ·rw[if_neg h1] at h ⊢;have O:=jet (l:=l) (by simpa using h1);cases hm:zh (yB l).1 with
  |er a b c=>
   rw[hm] at h;exact absurd h (wG hm)
  |ok m=>
   rw[hm] at h;dsimp only at h ⊢;by_cases h2:(yn f).2.1≠0
   ·rw[if_pos h2] at h;exact absurd (show((yn f).2.1:Int)=0 from h) om
   ·rw[if_neg h2] at h ⊢;cases hr:yy m.1.vars m.1.enums true (yn f).1 2 [] with
    |er a b c=>
     rw[hr] at h;exact absurd h (QG hr)
    |ok y=>exact⟨jno O hm,joP hm⟩
mutual
def wkB:Ex->Bool
 |.mk op num _ ks _ _=>(decide (XT op=(ks.length:Int)) && (decide (op≠2) ||decide (num=0) ||decide (num=1))) && GB ks
def GB:List Ex->Bool
 |[]=>true
 |x :: xs=>wkB x && GB xs
end
def WkX (x:Ex):Prop:=wkB x=true/\szE x<=BIG
mutual
theorem jck:∀ (d:Nat) (x:Ex),ze d x=true->wkB x=true
 |0,_,h=>by cases h
 |d+1,.mk op num name ks l c,h=>by
  rw[WS] at h;simp only[Qaa,decide_eq_true_eq] at h;obtain⟨⟨⟨⟨h1,h2⟩,h3⟩,h4⟩,h5⟩:=h;have h1:(1:Int)<=op:=h1;have h2:op<31:=h2;have h3:(ks.length:Int)=if 5<=op/\op<=13 then 1 else if 14<=op/\op<31 then 2 else 0:=h3
  rw[wkB,Qaa,Qaa,decide_eq_true_eq];refine⟨⟨?_,?_⟩,Hy d ks h5⟩
  ·unfold XT;rw[h3];repeat' split
   all_goals omega
  ·by_cases ho:op=2
   ·unfold uv at h4;rw[if_neg (show ¬ Ex.op (.mk op num name ks l c)=1 from by show ¬ op=1;omega),if_pos (show Ex.op (.mk op num name ks l c)=2 from ho)] at h4;simp only[Qaa,QaC,decide_eq_true_eq] at h4;have h6:num=0\/num=1:=h4.1;simp only[QaC,decide_eq_true_eq];omega
   ·simp[ho]
theorem Hy:∀ (d:Nat) (xs:List Ex),xs.all (ze d)=true->GB xs=true
 |_,[],_=>rfl
 |d,x :: xs,h=>by
  rw[QaF,Qaa] at h;rw[GB,jck d x h.1,Hy d xs h.2];rfl
end
theorem jlb {ts:List Tk}(W:Wds ts){i j:Nat}{x:Ex}(hi:i<ts.length)(h:yx ts i=.ok x j):szE x<=BIG:=by
 obtain⟨r,_,hr⟩:=evR W hi;rw[VD hr] at h;obtain⟨N,hr⟩:=hr;have hz:=(UR W N).1 _ _ _ _ (hr N (τ _)) hi;unfold VA at h;cases r with
 |er t=>cases h
 |ok y k=>
  dsimp only at h;split at h
  ·cases h;have h1:=hz.2.2;have h2:(j - i) * 65537<=1000000 * 65537:=Qax _ (by have:=W.len;have:=hz.2.1;omega);have h3:1000000 * 65537<=BIG:=dc
   exact Qab h1 (by rw[Qam];exact Qab h2 h3)
  ·cases h
theorem k8 {ts:List Tk}(W:Wds ts){i j:Nat}{x:Ex}(hi:i<ts.length)(h:yx ts i=.ok x j):WkX x:=⟨jck 60 x (yj W hi h).2.2.2,jlb W hi h⟩
def WkD (d:DeclT):Prop:=(∀ x∈d.begins,WkX x)/\d.begins.length<=1
def WkR (r:RuleT):Prop:=WkX r.when/\(∀ a∈r.acts,WkX a.to)/\r.acts.length<=1000000
def WkP (p:ProcT):Prop:=p.rules.length<=1000/\∀ r∈p.rules,WkR r
structure WkS (m:SrcT):Prop where
 begs:∀ d∈m.vars,WkD d
 rules:∀ p∈m.procs,WkP p
 ens:∀ e∈m.enums,0<e.vals.length/\e.vals.length<=32
theorem jea:∀ {ts:List Tk} {n i j:Nat} {vs ws:List (List Nat)},vs.length<=32->XA ts n i vs=.ok ws j->vs.length<ws.length/\ws.length<=32
 |ts,0,i,j,vs,ws,hv,h=>by cases h
 |ts,n+1,i,j,vs,ws,hv,h=>by
  rw[XA] at h;split at h
  ·split at h
   ·cases h
   ·split at h
    ·have:=jea (by simp;omega) h;simp at this;omega
    ·split at h
     ·cases h;simp;omega
     ·cases h
  ·cases h
theorem jn3 {ts:List Tk}{i j:Nat}{e:EnumT}(h:Yz ts i=.ok e j):0<e.vals.length/\e.vals.length<=32:=by
 unfold Yz at h;split at h
 ·split at h
  ·split at h
   ·rename_i vs k hv;cases h;have:=jea (by simp) hv;dsimp only;omega
   ·cases h
  ·cases h
 ·cases h
theorem jpN {ts:List Tk}(W:Wds ts){i j:Nat}{bs:List Ex}(hi:i<ts.length)(h:wo ts i=.ok bs j):(∀ x∈bs,WkX x)/\bs.length<=1:=by
 unfold wo at h;split at h
 ·rename_i c;have hi1:=W.isM hi c;split at h
  ·cases h
  ·rename_i x k hx;split at h
   ·cases h;exact⟨λy hy=>by simp at hy;rw[hy];exact k8 W hi1 hx,by simp⟩
   ·cases h
 ·split at h
  ·cases h;exact⟨(λy hy=>by cases hy),by simp⟩
  ·cases h
theorem jn4 {ts:List Tk}(W:Wds ts){i j:Nat}{d:DeclT}(hi:i<ts.length)(h:YA ts i=.ok d j):WkD d:=by
 unfold YA at h;split at h
 ·rename_i k1;have hi1:=W.next i hi om
  split at h
  ·rename_i c1;have hi2:=W.isM hi1 c1;split at h
   ·cases h
   ·rename_i y k hy;have hk:=jb9 W hi2 hy;split at h
    ·cases h
    ·rename_i bs k2 hb;cases h;obtain⟨c,d⟩:=jpN W hk.2 hb;exact⟨c,d⟩
  ·cases h
 ·cases h
theorem jeb {ts:List Tk}(W:Wds ts):∀ {n i j:Nat} {vs ws:List AsT},i<ts.length->(∀ a∈vs,WkX a.to)->vs.length<=32->QU ts n i vs=.ok ws j->(∀ a∈ws,WkX a.to)/\ws.length<=32
 |0,i,j,vs,ws,hi,hv,hl,h=>by cases h
 |n+1,i,j,vs,ws,hi,hv,hl,h=>by
  rw[QU] at h;by_cases k1:(tk ts i).kind=1
  ·simp only[if_pos k1] at h;have hi1:=W.next i hi om
   by_cases h32:32<=vs.length
   ·simp only[if_pos h32] at h;cases h
   simp only[if_neg h32] at h;by_cases c1:isM (tk ts (i+1)) [[58,61]]=true
   ·simp only[if_pos c1] at h;have hi2:=W.isM hi1 c1;cases h1:yx ts (i+2) with
    |er t=>rw[h1] at h;cases h
    |ok x k=>
     rw[h1] at h;dsimp only at h;have hj:=yj W hi2 h1;have hx:=k8 W hi2 h1;have hv2:∀ l c nm,∀ a∈vs ++ [(⟨nm,x,l,c⟩:AsT)],WkX a.to:=λl c nm a ha=>by
      rcases Qau.1 ha with ha|ha
      ·exact hv a ha
      ·simp at ha;rw[ha];exact hx
     by_cases c2:isM (tk ts k) [[44]]=true
     ·simp only[if_pos c2] at h;exact jeb W (W.isM hj.2.1 c2) (hv2 _ _ _) (by simp;omega) h
     ·simp only[if_neg c2] at h;split at h
      ·cases h;exact⟨hv2 _ _ _,by simp;omega⟩
      ·cases h
   ·simp only[if_neg c1] at h;cases h
  ·simp only[if_neg k1] at h;cases h
theorem jn1 {ts:List Tk}(W:Wds ts){i j:Nat}{r:RuleT}(hi:i<ts.length)(h:XI ts i=.ok r j):WkX r.when/\(∀ a∈r.acts,WkX a.to)/\r.acts.length<=1000000:=by
 unfold XI at h;cases h1:yx ts i with
 |er t=>rw[h1] at h;cases h
 |ok x k=>
  rw[h1] at h;dsimp only at h;have hj:=yj W hi h1;by_cases c1:isM (tk ts k) [[100,111]]=true
  ·simp only[if_pos c1] at h;cases h2:QU ts ts.length (k+1) [] with
   |er t=>rw[h2] at h;cases h
   |ok vs k2=>
    rw[h2] at h;cases h;have:=jeb (vs:=[]) W (W.isM hj.2.1 c1) (λa ha=>by cases ha) (Qae _) h2;exact⟨k8 W hi h1,this.1,by dsimp only;omega⟩
  ·simp only[if_neg c1] at h;cases h
theorem jbO {ts:List Tk}(W:Wds ts):∀ {n i j:Nat} {vs ws:List RuleT},i<ts.length->(∀ r∈vs,WkX r.when/\(∀ a∈r.acts,WkX a.to)/\r.acts.length<=1000000)->vs.length<=32->Qp ts n i vs=.ok ws j->(∀ r∈ws,WkX r.when/\(∀ a∈r.acts,WkX a.to)/\r.acts.length<=1000000)/\ws.length<=32
 |0,i,j,vs,ws,hi,hv,hl,h=>by cases h
 |n+1,i,j,vs,ws,hi,hv,hl,h=>by
  rw[Qp] at h;by_cases c1:isM (tk ts i) [[119,104,101,110]]=true
  ·simp only[if_pos c1] at h;have hi1:=W.isM hi c1;by_cases h32:32<=vs.length
   ·simp only[if_pos h32] at h;cases h
   simp only[if_neg h32] at h;cases h1:XI ts (i+1) with
   |er t=>rw[h1] at h;cases h
   |ok r k=>
    rw[h1] at h;dsimp only at h;refine jbO W (UW W hi1 h1).2 (λa ha=>?_) (by simp;omega) h;rcases Qau.1 ha with ha|ha
    ·exact hv a ha
    ·simp at ha;rw[ha];exact jn1 W hi1 h1
  ·simp only[if_neg c1] at h;split at h
   ·cases h;exact⟨hv,hl⟩
   ·cases h
theorem jn2 {ts:List Tk}(W:Wds ts){i j:Nat}{p:ProcT}(hi:i<ts.length)(h:Yo ts i=.ok p j):WkP p:=by
 unfold Yo at h;split at h
 ·rename_i k1;have hi1:=W.next i hi om
  split at h
  ·rename_i c1;have hi2:=W.isM hi1 c1;split at h
   ·rename_i vs k hv;cases h;have:=jbO (vs:=[]) W hi2 (λa ha=>by cases ha) (Qae _) hv;exact⟨by dsimp only;omega,this.1⟩
   ·cases h
  ·cases h
 ·cases h
theorem KG {ts:List Tk}(W:Wds ts):∀ {n i j:Nat} {m w:SrcT},i<ts.length->WkS m->m.enums.length<=32->m.vars.length<=32->m.procs.length<=32->X6 ts n i m=.ok w j->WkS w/\w.enums.length<=32/\w.vars.length<=32/\w.procs.length<=32
 |0,i,j,m,w,hi,hm,h1,h2,h3,h=>by cases h
 |n+1,i,j,m,w,hi,hm,h1,h2,h3,h=>by
  rw[X6] at h;by_cases c:isM (tk ts i) [[101,110,117,109],[118,97,114],[112,114,111,99,101,115,115]]=true
  ·simp only[if_pos c] at h;have hi1:=W.isM hi c;by_cases c1:(tk ts i).text=[101,110,117,109]
   ·simp only[if_pos c1] at h;by_cases hr:32<=m.enums.length
    ·simp only[if_pos hr] at h;cases h
    simp only[if_neg hr] at h;cases he:Yz ts (i+1) with
    |er t=>rw[he] at h;cases h
    |ok e k=>
     rw[he] at h;refine KG (m:={ m with enums:=m.enums ++ [e] }) W (Hi W hi1 he).2 ⟨hm.begs,hm.rules,λa ha=>?_⟩ (by simp;omega) h2 h3 h;rcases Qau.1 ha with ha|ha
     ·exact hm.ens a ha
     ·simp at ha;rw[ha];exact jn3 he
   simp only[if_neg c1] at h;by_cases c2:(tk ts i).text=[118,97,114]
   ·simp only[if_pos c2] at h;by_cases hr:32<=m.vars.length
    ·simp only[if_pos hr] at h;cases h
    simp only[if_neg hr] at h;cases he:YA ts (i+1) with
    |er t=>rw[he] at h;cases h
    |ok e k=>
     rw[he] at h;refine KG (m:={ m with vars:=m.vars ++ [e] }) W (Hn W hi1 he).2 ⟨λa ha=>?_,hm.rules,hm.ens⟩ h1 (by simp;omega) h3 h;rcases Qau.1 ha with ha|ha
     ·exact hm.begs a ha
     ·simp at ha;rw[ha];exact jn4 W hi1 he
   ·simp only[if_neg c2] at h;by_cases hr:32<=m.procs.length
    ·simp only[if_pos hr] at h;cases h
    simp only[if_neg hr] at h;cases he:Yo ts (i+1) with
    |er t=>rw[he] at h;cases h
    |ok e k=>
     rw[he] at h;refine KG (m:={ m with procs:=m.procs ++ [e] }) W (GQ W hi1 he).2 ⟨hm.begs,λa ha=>?_,hm.ens⟩ h1 h2 (by simp;omega) h;rcases Qau.1 ha with ha|ha
     ·exact hm.rules a ha
     ·simp at ha;rw[ha];exact jn2 W hi1 he
  ·simp only[if_neg c] at h;split at h
   ·cases h;exact⟨hm,h1,h2,h3⟩
   ·cases h
theorem jom {l:List Nat}(h:(yB l).2.1=0):WkS (yB l).1/\(yB l).1.procs.length<=32:=by
 unfold yB at h ⊢;by_cases c:(qr l).2.1≠0
 ·rw[if_pos c] at h;exact absurd h c
 ·rw[if_neg c] at h ⊢;have c0:(qr l).2.1=0:=by simpa using c
  obtain⟨W,ne,_⟩:=Uw c0;cases hr:X6 (qr l).1 (qr l).1.length 0 WO with
  |er t=>rw[hr] at h;exact absurd h (λh=>by cases h)
  |ok m j=>
   have:=KG W (QbE.2 ne) ⟨(λa ha=>by cases ha),(λa ha=>by cases ha),(λa ha=>by cases ha)⟩ dc dc dc hr;exact⟨this.1,this.2.2.2⟩
section
def wq (n:Int):Int:=qN .i64 n
def QR (p:Prop) [Decidable p]:Int:=if p then 1 else 0
def jca (op a b:Int):Option Int:=
 if op=14 then some (wq (a * b)) else if op=15 then some (wq (a+b)) else if op=16 then some (wq (a - b))
 else if op=17\/op=30 then some (QR (a=b)) else if op=18 then some (QR (a≠b)) else if op=19 then some (QR (a<b))
 else if op=20\/op=29 then some (QR (a<=b)) else if op=21 then some (QR (b<a)) else if op=22 then some (QR (b<=a))
 else if op=27 then some (if a<=b then a else b) else if op=28 then some (if a<=b then b else a) else none
def opV (s:List Int)(op num:Int)(ns:List Int):Option Int:=
 if ns.length=0/\(op=1\/op=2) then some num
 else if ns.length=0/\op=4/\0<=num/\num<(s.length:Int) then some (s.getD num.toNat 0)
 else if ns.length=1/\op=5 then some (wq (-(ns.getD 0 0)))
 else if ns.length=1/\op=6 then some (wq (1 - ns.getD 0 0))
 else if ns.length=2 then jca op (ns.getD 0 0) (ns.getD 1 0)
 else none
mutual
def yE (s:List Int):Ex->Option Int
 |.mk op num _ ks _ _=>match qS s ks with
  |none=>none
  |some ns=>opV s op num ns
def qS (s:List Int):List Ex->Option (List Int)
 |[]=>some []
 |x :: xs=>match yE s x with
  |none=>none
  |some n=>match qS s xs with
   |none=>none
   |some ns=>some (n :: ns)
end
def Yn (op a b:Int):Int:=
 if op=5 then wq (-a) else if op=14 then wq (a * b) else if op=15 then wq (a+b) else if op=16 then wq (a - b)
 else if op=6 then QR (a=0) else if op=17\/op=30 then QR (a=b) else if op=18 then QR (a≠b) else if op=19 then QR (a<b)
 else if op=20 then QR (a<=b) else if op=21 then QR (b<a) else if op=22 then QR (b<=a) else if op=27 then QR (a=1/\b=1)
 else if op=28 then QR (a=1\/b=1) else if op=29 then QR (a=0\/b=1) else 0
mutual
def WT (s:List Int):Ex->Int
 |.mk op num _ ks _ _=>if op=4 then s.getD num.toNat 0 else if ks.length=0 then num else Yn op ((gc s ks).getD 0 0) ((gc s ks).getD (ks.length - 1) 0)
def gc (s:List Int):List Ex->List Int
 |[]=>[]
 |x :: xs=>WT s x :: gc s xs
end
theorem K0 {s:List Int}:∀ {xs:List Ex} {ns:List Int},qS s xs=some ns->ns.length=xs.length
 |[],ns,h=>by simp only[qS] at h;cases h;rfl
 |x :: xs,ns,h=>by
  rw[qS] at h;cases h1:yE s x with
  |none=>rw[h1] at h;cases h
  |some n=>
   rw[h1] at h;cases h2:qS s xs with
   |none=>rw[h2] at h;cases h
   |some ms=>rw[h2] at h;cases h;simp[K0 h2]
def qy (vars:List VarT)(s:List Int):Bool:=decide (s.length=vars.length) && (Qak vars.length).all λi=>decide ((vars.getD i ⟨[],0,[],0,0,false,0⟩).lo<=s.getD i 0) && decide (s.getD i 0<=(vars.getD i ⟨[],0,[],0,0,false,0⟩).hi)
def ZI (vars:List VarT):Prop:=∀ v∈vars,v.kind=2->v.lo=0/\v.hi=1
def XU (n:Int):Prop:=n=0\/n=1
theorem vr (p:Prop) [Decidable p]:XU (QR p):=by unfold QR XU;split<;>simp
theorem jpb {part:Int}{ms:List MtT}(h:UD part ms≠true)(hp:0<part):∀ m∈ms,m.kind=part:=λm hm=>by
 have h:UD part ms=false:=by simpa using h
 unfold UD at h;rw[List.any_eq_false] at h;have:=h m hm;simp at this;exact this.1.1 hp
theorem joi {op a b n:Int}(h:jca op a b=some n)(hb:(qZ op).1=2->XU a/\XU b):Yn op a b=n/\((qZ op).2=2->XU n):=by
 have no:∀ {p:Prop} {q:Int},(qZ q).2=1->((qZ q).2=2->p):=λe h=>by rw[e] at h;exact absurd h dc
 unfold jca at h;by_cases e:op=14
 ·rw[if_pos e] at h;cases h;subst e;exact⟨by simp[Yn],no dc⟩
 rw[if_neg e] at h;clear e;by_cases e:op=15
 ·rw[if_pos e] at h;cases h;subst e;exact⟨by simp[Yn],no dc⟩
 rw[if_neg e] at h;clear e;by_cases e:op=16
 ·rw[if_pos e] at h;cases h;subst e;exact⟨by simp[Yn],no dc⟩
 rw[if_neg e] at h;clear e;by_cases e:op=17\/op=30
 ·rw[if_pos e] at h;cases h;refine⟨?_,λ_=>vr _⟩;rcases e with e|e<;>(subst e;simp[Yn])
 rw[if_neg e] at h;clear e;by_cases e:op=18
 ·rw[if_pos e] at h;cases h;subst e;exact⟨by simp[Yn],λ_=>vr _⟩
 rw[if_neg e] at h;clear e;by_cases e:op=19
 ·rw[if_pos e] at h;cases h;subst e;exact⟨by simp[Yn],λ_=>vr _⟩
 rw[if_neg e] at h;clear e;by_cases e:op=20\/op=29
 ·rw[if_pos e] at h;cases h;refine⟨?_,λ_=>vr _⟩;rcases e with e|e
  ·subst e;simp[Yn]
  ·subst e;obtain⟨ha,hc⟩:=hb dc;rcases ha with rfl|rfl<;>rcases hc with rfl|rfl<;>decide
 rw[if_neg e] at h;clear e;by_cases e:op=21
 ·rw[if_pos e] at h;cases h;subst e;exact⟨by simp[Yn],λ_=>vr _⟩
 rw[if_neg e] at h;clear e;by_cases e:op=22
 ·rw[if_pos e] at h;cases h;subst e;exact⟨by simp[Yn],λ_=>vr _⟩
 rw[if_neg e] at h;clear e;by_cases e:op=27
 ·rw[if_pos e] at h;cases h;subst e;obtain⟨ha,hc⟩:=hb dc;rcases ha with rfl|rfl<;>rcases hc with rfl|rfl<;>exact⟨dc,λ_=>(by unfold XU;decide)⟩
 rw[if_neg e] at h;clear e;by_cases e:op=28
 ·rw[if_pos e] at h;cases h;subst e;obtain⟨ha,hc⟩:=hb dc;rcases ha with rfl|rfl<;>rcases hc with rfl|rfl<;>exact⟨dc,λ_=>(by unfold XU;decide)⟩
 rw[if_neg e] at h;cases h
theorem jlt {vars:List VarT}{s:List Int}(h:qy vars s=true):s.length=vars.length/\∀ i,i<vars.length->(vars.getD i ⟨[],0,[],0,0,false,0⟩).lo<=s.getD i 0/\s.getD i 0<=(vars.getD i ⟨[],0,[],0,0,false,0⟩).hi:=by
 unfold qy at h;rw[Qaa,decide_eq_true_eq,Qal] at h;refine⟨h.1,λi hi=>?_⟩;have:=h.2 i (Qbo.2 hi);simpa using this
mutual
theorem jag {vars:List VarT}{enums:List EnumT}(hv:ZI vars){s:List Int}(hs:qy vars s=true):∀ (fm:Bool) (x y:Ex) (m:MtT),wkB x=true->yt vars enums fm x=.ok (y,m)->∀ n,yE s y=some n->WT s y=n/\(m.kind=2->XU n)
 |fm,.mk op num name ks l c,y,m,hx,h,n,hn=>by
  have hx0:=hx;rw[wkB] at hx0;simp only[Qaa,decide_eq_true_eq] at hx0;obtain⟨⟨hk,hleaf⟩,hks⟩:=hx0;have nk:(op=1\/op=2\/op=3\/op=4)->ks=[]:=λho=>by
   unfold XT at hk;rw[if_pos om] at hk;exact Qbc om
  rw[yt] at h;split at h
  ·rename_i h1;cases h;subst h1;have e:=nk (by simp);subst e;simp only[yE,qS,opV] at hn;simp at hn;subst hn;exact⟨by simp[WT],λh=>by simp at h⟩
  ·split at h
   ·rename_i h1;cases h;subst h1;have e:=nk (by simp);subst e;simp only[yE,qS,opV] at hn;simp at hn;subst hn;refine⟨by simp[WT],λ_=>?_⟩;simp at hleaf;unfold XU;omega
   ·split at h
    ·rename_i h1;subst h1;unfold zN at h;split at h
     ·rename_i h2;cases h;have hlt:qc vars (Ex.mk 3 num name ks l c).name<(vars.length:Int):=wR;have hlt2:(qc vars name).toNat<vars.length:=by
       have:qc vars name<(vars.length:Int):=hlt;have:(0:Int)<=qc vars name:=h2;omega
      obtain⟨r1,r2⟩:=jlt hs;have r2:=r2 _ hlt2;simp only[yE,qS,opV] at hn;have hlt3:qc vars (Ex.mk 3 num name ks l c).name<(s.length:Int):=by rw[r1];exact hlt
      rw[if_neg (by simp),if_pos ⟨by simp,by simp,h2,hlt3⟩] at hn;cases hn;refine⟨by simp only[WT,if_true],λhk2=>?_⟩;have hm:vars.getD (qc vars name).toNat ⟨[],0,[],0,0,false,0⟩∈vars:=by
       rw[Qaq,Qag hlt2];exact Qac hlt2
      have:=hv _ hm hk2;show XU (s.getD (qc vars name).toNat 0);unfold XU;omega
     ·split at h
      ·cases h
      ·cases h;simp only[yE,qS,opV] at hn;simp at hn;subst hn;exact⟨by simp[WT],λh=>by simp at h⟩
    ·rename_i n1 n2 n3;split at h
     ·cases h
     ·rename_i r hr;have K:=gN (vars:=vars) (enums:=enums) hv hs _ ks r.1 r.2 hks hr;have kl:=J3 hr;unfold Zc at h;split at h
      ·cases h
      ·rename_i hbad;have hb0:r.2.length≠0:=λh=>hbad (.inl h);have hbm:UD (qZ op).1 r.2≠true:=λh=>hbad (.inr (.inr (.inr h)));have hy:y=.mk op num name r.1 l c/\m.kind=(qZ op).2:=by
        split at h
        ·cases h;exact⟨rfl,rfl⟩
        ·split at h
         ·cases h
         ·cases h;exact⟨rfl,rfl⟩
       obtain⟨rfl,hm⟩:=hy;rw[hm];rw[yE] at hn;cases hns:qS s r.1 with
       |none=>rw[hns] at hn;cases hn
       |some ns=>
        rw[hns] at hn;obtain⟨k1,k2⟩:=K ns hns;have hl:=K0 hns;have ho:op≠4:=λe=>by
         have:=nk (by simp[e]);rw[this] at kl;exact hb0 (by simpa using kl.2)
        have hp:0<(qZ op).1->∀ i,i<r.2.length->(r.2.getD i mt0).kind=(qZ op).1:=λh0 i hi=>by
         refine jpb hbm h0 _ ?_;rw[Qaq,Qag hi];exact Qac hi
        have hr:WT s (.mk op num name r.1 l c)=Yn op (ns.getD 0 0) (ns.getD (r.1.length - 1) 0):=by
         rw[WT,if_neg ho,if_neg om,k1]
        rw[hr];unfold opV at hn;dsimp only at hn;rw[if_neg om,if_neg om] at hn;split at hn
        ·rename_i e;cases hn;obtain⟨e1,rfl⟩:=e;exact⟨rfl,λh=>absurd h dc⟩
        ·split at hn
         ·rename_i e;cases hn;obtain⟨e1,rfl⟩:=e;have:=k2 0 om (by rw[hp dc 0 om];decide);rw[show r.1.length - 1=0 by omega];rcases this with e|e<;>rw[e]<;>exact⟨rfl,λ_=>by unfold XU;decide⟩
         ·split at hn
          ·rename_i e;rw[show r.1.length - 1=1 by omega];exact joi hn λh2=>⟨k2 0 om (by rw[hp om 0 om,h2]),k2 1 om (by rw[hp om 1 om,h2])⟩
          ·cases hn
theorem gN {vars:List VarT}{enums:List EnumT}(hv:ZI vars){s:List Int}(hs:qy vars s=true):∀ (fm:Bool) (xs ys:List Ex) (ms:List MtT),GB xs=true->qw vars enums fm xs=.ok (ys,ms)->∀ ns,qS s ys=some ns->gc s ys=ns/\∀ i,i<ms.length->(ms.getD i mt0).kind=2->XU (ns.getD i 0)
 |fm,[],ys,ms,hx,h,ns,hn=>by
  rw[qw] at h;cases h;simp only[qS] at hn;cases hn;exact⟨rfl,λi hi=>absurd hi (by simp)⟩
 |fm,x :: xs,ys,ms,hx,h,ns,hn=>by
  rw[GB,Qaa] at hx;rw[qw] at h;split at h
  ·cases h
  ·rename_i y hy;split at h
   ·cases h
   ·rename_i r hr;cases h;rw[qS] at hn;cases h1:yE s y.1 with
    |none=>rw[h1] at hn;cases hn
    |some n=>
     rw[h1] at hn;cases h2:qS s r.1 with
     |none=>rw[h2] at hn;cases hn
     |some ns'=>
      rw[h2] at hn;cases hn;have A:=jag (vars:=vars) (enums:=enums) hv hs fm x y.1 y.2 hx.1 hy n h1;have B:=gN (vars:=vars) (enums:=enums) hv hs fm xs r.1 r.2 hx.2 hr ns' h2;refine⟨by rw[gc,A.1,B.1],λi hi hk=>?_⟩;cases i with
      |zero=>exact A.2 hk
      |succ i=>exact B.2 i (by simpa using hi) hk
end
end
section
def OfK (vars:List VarT)(enums:List EnumT)(y:Ex):Prop:=∃ (x:Ex) (m:MtT),WkX x/\yt vars enums false x=.ok (y,m)
theorem jeo {vars:List VarT}{enums:List EnumT}{x y:Ex}{w:Int}{en:List Nat}(hr:WkX x)(h:yy vars enums false x w en=.ok y):OfK vars enums y:=by
 unfold yy at h;split at h
 ·cases h
 ·rename_i r hk;split at h
  ·cases h
  ·cases h;exact⟨x,r.2,hr,hk⟩
theorem OfK.val {vars:List VarT}{enums:List EnumT}{y:Ex}(k:OfK vars enums y)(hv:ZI vars){s:List Int}(hs:qy vars s=true){n:Int}(h:yE s y=some n):WT s y=n:=by
 obtain⟨x,m,hr,hk⟩:=k;exact(jag hv hs false x y m hr.1 hk n h).1
theorem OfK.sz {vars:List VarT}{enums:List EnumT}{y:Ex}(k:OfK vars enums y):szE y<=BIG:=by
 obtain⟨x,m,hr,hk⟩:=k;exact Qab (jcZ false x y m hk) hr.2
structure MoveK (vars:List VarT)(enums:List EnumT)(m:MoveT):Prop where
 when:OfK vars enums m.when
 len:m.acts.length<=1000000
 acts:∀ a∈m.acts,0<=a.var/\a.var<(vars.length:Int)/\OfK vars enums a.to
 nd:(m.acts.map (·.var)).Nodup
theorem jbw {α:Type}{q:α->Bool}:∀ {xs:List α},0<=fi q xs->∃ h:(fi q xs).toNat<xs.length,q xs[(fi q xs).toNat]=true
 |[],h=>by simp[fi] at h
 |x :: xs,h=>by
  by_cases hq:q x=true
  ·have e:fi q (x :: xs)=0:=by rw[fi,if_pos hq]
   simp only[e];exact⟨by simp,by simpa using hq⟩
  ·by_cases h0:fi q xs<0
   ·rw[fi,if_neg hq,if_pos h0] at h;exact absurd h dc
   ·obtain⟨h1,h2⟩:=jbw (q:=q) (xs:=xs) om;have e:(fi q (x :: xs)).toNat=(fi q xs).toNat+1:=by rw[fi,if_neg hq,if_neg h0];omega
    simp only[e];exact⟨by simpa using h1,by simpa using h2⟩
theorem jn7 {vars:List VarT}{n n':List Nat}(h:0<=qc vars n)(e:qc vars n=qc vars n'):n=n':=by
 obtain⟨h1,h2⟩:=jbw h;obtain⟨h3,h4⟩:=jbw (e▸h);have e':(fi (λx:VarT=>decide (x.name=n)) vars).toNat=(fi (λx:VarT=>decide (x.name=n')) vars).toNat:=congrArg Int.toNat e;have h2:=of_decide_eq_true h2;have h4:=of_decide_eq_true h4;simp only[e'] at h2;rw[<-h2,h4]
theorem jh2 {vars:List VarT}{enums:List EnumT}:∀ {l:List AsT} {acc:List SetT} {done:List AsT} {ss:List SetT},(∀ a∈l,WkX a.to)->QJ vars enums acc done l=.ok ss->(∀ a∈acc,0<=a.var/\a.var<(vars.length:Int)/\OfK vars enums a.to)->acc.map (·.var)=done.map (λa=>qc vars a.name)->(acc.map (·.var)).Nodup->(∀ a∈ss,0<=a.var/\a.var<(vars.length:Int)/\OfK vars enums a.to)/\ss.length=acc.length+l.length/\(ss.map (·.var)).Nodup
 |[],acc,done,ss,hr,h,ha,hd,hn=>by rw[QJ] at h;cases h;exact⟨ha,rfl,hn⟩
 |a :: l,acc,done,ss,hr,h,ha,hd,hn=>by
  rw[QJ] at h;split at h
  ·cases h
  ·rename_i hv;split at h
   ·cases h
   ·rename_i n0;split at h
    ·cases h
    ·rename_i y hy;have N:=jeo (hr a (by simp)) hy;have hlt:=(wR:qc vars a.name<(vars.length:Int));have R:=jh2 (λb hb=>hr b (by simp[hb])) h (λb hb=>by
      rcases Qau.1 hb with hb|hb
      ·exact ha b hb
      ·simp at hb;rw[hb];exact⟨by dsimp only;omega,hlt,N⟩) (by rw[Qba,Qba,hd];rfl) (by
      rw[Qba,Qcr];refine⟨hn,by simp,λu hu v hv2=>?_⟩;simp only[κ,μ,QaK] at hv2;subst hv2;rw[hd] at hu;obtain⟨b,hb,e⟩:=QaH.1 hu;intro e2;have e3:qc vars b.name=qc vars a.name:=e.trans e2;have e4:=jn7 om e3;have:=jbv (λx:AsT=>decide (x.name=a.name)) done;rw[decide_eq_false n0] at this;have h5:=this.symm;rw[List.any_eq_false] at h5;exact h5 b hb (decide_eq_true e4))
     exact⟨R.1,by rw[R.2.1];simp;omega,R.2.2⟩
theorem jrg {m:ModT}{ts:List (List Nat)}{r:RuleT}{b:MT}(hq:WkR r)(h:XJ m ts r=.ok b)(hm:∀ v∈m.moves,MoveK m.vars m.enums v):b.1.vars=m.vars/\b.1.enums=m.enums/\(∀ v∈b.1.moves,MoveK m.vars m.enums v)/\b.1.moves.length=m.moves.length+1:=by
 obtain⟨hw,hr,hn⟩:=hq;unfold XJ at h;split at h
 ·cases h
 ·rename_i w hw';split at h
  ·cases h
  ·rename_i ss hs;cases h;refine⟨rfl,rfl,λv hv=>?_,by simp⟩;rcases Qau.1 hv with hv|hv
   ·exact hm v hv
   ·simp only[QaK] at hv;subst hv;have S:=jh2 (acc:=[]) (done:=[]) hr hs (λa ha=>by cases ha) rfl (by simp);exact⟨jeo hw hw',by dsimp only;rw[S.2.1];simp;omega,S.1,S.2.2⟩
theorem jex:∀ {l:List RuleT} {b c:MT},(∀ r∈l,WkR r)->ym (λb r=>XJ b.1 b.2 r) b l=.ok c->(∀ v∈b.1.moves,MoveK b.1.vars b.1.enums v)->c.1.vars=b.1.vars/\c.1.enums=b.1.enums/\(∀ v∈c.1.moves,MoveK b.1.vars b.1.enums v)/\c.1.moves.length=b.1.moves.length+l.length
 |[],b,c,hr,h,hm=>by rw[ym] at h;cases h;exact⟨rfl,rfl,hm,rfl⟩
 |r :: l,b,c,hr,h,hm=>by
  rw[ym] at h;split at h
  ·cases h
  ·rename_i b' hb';obtain⟨e1,e2,e3,e4⟩:=jrg (hr r (by simp)) hb' hm;have:=jex (b:=b') (λq hq=>hr q (by simp[hq])) h (by rw[e1,e2];exact e3);rw[e1,e2,e4] at this;exact⟨this.1,this.2.1,this.2.2.1,by rw[this.2.2.2];simp;omega⟩
theorem jeF:∀ {l:List ProcT} {b c:MT},(∀ p∈l,p.rules.length<=1000/\∀ r∈p.rules,WkR r)->ym Y7 b l=.ok c->(∀ v∈b.1.moves,MoveK b.1.vars b.1.enums v)->c.1.vars=b.1.vars/\c.1.enums=b.1.enums/\(∀ v∈c.1.moves,MoveK b.1.vars b.1.enums v)/\c.1.moves.length<=b.1.moves.length+1000 * l.length
 |[],b,c,hr,h,hm=>by rw[ym] at h;cases h;exact⟨rfl,rfl,hm,by simp⟩
 |p :: l,b,c,hr,h,hm=>by
  rw[ym] at h;split at h
  ·cases h
  ·rename_i b' hb';unfold Y7 at hb';split at hb'
   ·cases hb'
   ·rename_i ts' _;obtain⟨e1,e2,e3,e4⟩:=jex (b:=(b.1,ts')) (hr p (by simp)).2 hb' hm;have h1000:=(hr p (by simp)).1;have:=jeF (b:=b') (λq hq=>hr q (by simp[hq])) h (by rw[e1,e2];exact e3);rw[e1,e2,e4] at this;exact⟨this.1,this.2.1,this.2.2.1,by have:=this.2.2.2;dsimp only at this;simp only[φ];omega⟩
end
section
def VB (v:VarT):Prop:=v.lo<=v.hi/\v.hi - v.lo<=1023
def QP (vars:List VarT):Nat:=vars.foldl (λn v=>n * (v.hi - v.lo+1).toNat) 1
structure SB (vars:List VarT):Prop where
 vb:∀ v∈vars,VB v
 cnt:vars.foldl stW 1=(QP vars:Int)
 le:QP vars<=281474976710656
theorem SB.nil:SB []:=⟨(λv h=>by cases h),rfl,dc⟩
theorem jb8 {x:Int}(h1:0<=x)(h2:x<18446744073709551616):qN .u64 x=x:=by
 rw[JK];show x % 18446744073709551616=x;omega
theorem joh (a b:Int)(h1:0<=a - b)(h2:a - b<18446744073709551616):qN .u64 (qN .u64 a - qN .u64 b)=a - b:=by
 rw[JK,JK,JK];show(a % 18446744073709551616 - b % 18446744073709551616) % 18446744073709551616=a - b;omega
theorem jq0 {n:Nat}{v:VarT}(hn:n<=281474976710656)(h:VB v):stW (n:Int) v=((n * (v.hi - v.lo+1).toNat:Nat):Int):=by
 obtain⟨h1,h2⟩:=h;unfold stW;rw[joh _ _ om om,jb8 (x:=v.hi - v.lo+1) om om];obtain⟨r,hr⟩:∃ r:Nat,v.hi - v.lo+1=(r:Int):=⟨(v.hi - v.lo+1).toNat,om⟩;rw[hr];have h3:r<=1024:=om
 have h4:n * r<=281474976710656 * 1024:=Nat.mul_le_mul hn h3;rw[Qcj,<-Int.natCast_mul,jb8 om om]
theorem SB.snoc {vars:List VarT}{v:VarT}(h:SB vars)(hv:VB v)(hs:JF (vars ++ [v])<=281474976710656):SB (vars ++ [v]):=by
 have e:(vars ++ [v]).foldl stW 1=(QP (vars ++ [v]):Int):=by
  rw[Qbb,h.cnt,QbN,List.foldl_nil,jq0 h.le hv];unfold QP;rw[Qbb];rfl
 refine⟨λu hu=>?_,e,?_⟩
 ·rcases Qau.1 hu with hu|hu
  ·exact h.vb u hu
  ·simp at hu;rw[hu];exact hv
 ·unfold JF at hs;rw[e] at hs;have h4:QP (vars ++ [v])<=281474976710656 * 1024:=by
   unfold QP;rw[Qbb];exact Nat.mul_le_mul h.le (by have:=hv.1;have:=hv.2;omega)
  rw[Xt om om] at hs;omega
theorem SB.states {vars:List VarT}(h:SB vars):JF vars=(QP vars:Int):=by
 unfold JF;have:=h.le;rw[h.cnt,Xt om om]
theorem jsj {m:ModT}{ts:List (List Nat)}{d:DeclT}{b:MT}(hd:d.begins.length<=1)(he:∀ e∈m.enums,0<e.vals.length/\e.vals.length<=32)(h:QO m ts d=.ok b):∃ v,b.1={ m with vars:=m.vars ++ [v] }/\(v.kind=2->v.lo=0/\v.hi=1)/\VB v/\JF (m.vars ++ [v])<=281474976710656:=by
 unfold QO at h;split at h
 ·cases h
 ·split at h
  ·cases h
  ·rename_i v hk;have kv:(v.kind=2->v.lo=0/\v.hi=1)/\VB v:=by
    unfold ZU at hk;split at hk
    ·cases hk;exact⟨λ_=>⟨rfl,rfl⟩,by unfold VB;dsimp only;omega⟩
    ·split at hk
     ·rename_i h0;cases hk;refine⟨λh=>by simp at h,?_⟩;have hx:0<(m.enums.getD (Jz m.enums d.ty).toNat en0).vals.length/\(m.enums.getD (Jz m.enums d.ty).toNat en0).vals.length<=32:=by
       obtain⟨h1,_⟩:=jbw h0;have:=he _ (Qac h1);unfold Jz;rw[Qaq,Qag h1];exact this
      show(0:Int)<=((m.enums.getD (Jz m.enums d.ty).toNat en0).vals.length:Int) - 1/\((m.enums.getD (Jz m.enums d.ty).toNat en0).vals.length:Int) - 1 - 0<=1023;omega
     ·split at hk
      ·cases hk
      ·split at hk
       ·cases hk
       ·split at hk
        ·cases hk
        ·cases hk;exact⟨λh=>by simp at h,by unfold VB;dsimp only;omega⟩
   unfold ZZ at h;split at h
   ·cases h
   ·rename_i u hu;unfold VZ at h;split at h
    ·cases h
    ·rename_i hst;cases h;refine⟨u,rfl,?_⟩;have hst:JF (m.vars ++ [u])<=281474976710656:=om
     cases hb:d.begins with
     |nil=>rw[hb,Jb] at hu;cases hu;exact⟨kv.1,kv.2,hst⟩
     |cons x xs=>
      rw[hb] at hd;cases xs with
      |cons y ys=>simp at hd
      |nil=>
       rw[hb,Jb] at hu;split at hu
       ·cases hu
       ·split at hu
        ·cases hu
        ·split at hu
         ·cases hu
         ·rw[Jb] at hu;cases hu;exact⟨kv.1,kv.2,hst⟩
theorem jfd:∀ {l:List DeclT} {b c:MT},(∀ d∈l,d.begins.length<=1)->(∀ e∈b.1.enums,0<e.vals.length/\e.vals.length<=32)->ym (λb e=>QO b.1 b.2 e) b l=.ok c->ZI b.1.vars->SB b.1.vars->ZI c.1.vars/\c.1.moves=b.1.moves/\SB c.1.vars
 |[],b,c,hd,he,h,hv,hs=>by rw[ym] at h;cases h;exact⟨hv,rfl,hs⟩
 |d :: l,b,c,hd,he,h,hv,hs=>by
  rw[ym] at h;split at h
  ·cases h
  ·rename_i b' hb';obtain⟨v,e,hk,h1,h2⟩:=jsj (hd d (by simp)) he hb';have:=jfd (b:=b') (λd hd'=>hd d (by simp[hd'])) (by rw[e];exact he) h (by
    rw[e];intro u hu;rcases Qau.1 hu with hu|hu
    ·exact hv u hu
    ·simp at hu;rw[hu];exact hk) (by rw[e];exact hs.snoc h1 h2)
   exact⟨this.1,by rw[this.2.1,e],this.2.2⟩
theorem je8:∀ {l:List EnumT} {b c:MT},(∀ e∈l,0<e.vals.length/\e.vals.length<=32)->(∀ e∈b.1.enums,0<e.vals.length/\e.vals.length<=32)->ym (λb e=>wS b.1 b.2 e) b l=.ok c->c.1.vars=b.1.vars/\c.1.moves=b.1.moves/\∀ e∈c.1.enums,0<e.vals.length/\e.vals.length<=32
 |[],b,c,hl,he,h=>by rw[ym] at h;cases h;exact⟨rfl,rfl,he⟩
 |e :: l,b,c,hl,he,h=>by
  rw[ym] at h;split at h
  ·cases h
  ·rename_i b' hb';have e1:=vS hb';have:=je8 (b:=b') (λx hx=>hl x (by simp[hx])) (by
    rw[e1];intro x hx;rcases Qau.1 hx with hx|hx
    ·exact he x hx
    ·simp at hx;rw[hx];exact hl e (by simp)) h
   rw[e1] at this;exact this
structure ModK (m:ModT):Prop where
 vars:ZI m.vars
 moves:∀ v∈m.moves,MoveK m.vars m.enums v
 len:m.moves.length<=100000
 sb:SB m.vars
theorem joL {s:SrcT}{c:MT}(hb:∀ d∈s.vars,d.begins.length<=1)(hr:∀ p∈s.procs,p.rules.length<=1000/\∀ r∈p.rules,WkR r)(hp:s.procs.length<=100)(he:∀ e∈s.enums,0<e.vals.length/\e.vals.length<=32)(h:zh s=.ok c):ModK c.1:=by
 unfold zh at h;split at h
 ·cases h
 ·rename_i b h1;obtain⟨E2,E3,E4⟩:=je8 he (λe h=>by cases h) h1;split at h
  ·cases h
  ·rename_i b2 h2;have v0:b.1.vars=[]:=E2;have m0:b.1.moves=[]:=E3;obtain⟨d1,d2,d3⟩:=jfd hb E4 h2 (by rw[v0];intro v hv;cases hv) (by rw[v0];exact SB.nil);have m2:b2.1.moves=[]:=by rw[d2,m0]
   obtain⟨f1,f2,f3,f4⟩:=jeF (b:=b2) hr h (by rw[m2];intro v hv;cases hv);rw[m2] at f4;exact⟨by rw[f1];exact d1,by rw[f1,f2];exact f3,by simp only[ω] at f4;omega,by rw[f1];exact d3⟩
end
section
def WP (s:List Int):List SetT->List Int->Option (List Int)
 |[],out=>some out
 |a :: l,out=>match yE s a.to with
  |none=>none
  |some n=>if a.var<0\/(s.length:Int)<=a.var then none else WP s l (out.set a.var.toNat n)
def J8 (vars:List VarT)(mv:MoveT)(s:List Int):List Int×Bool:=
 if yE s mv.when=some 1 then(match WP s mv.acts s with
  |none=>([],false)
  |some t=>(t,qy vars t)) else([],false)
def Jx (vars:List VarT)(s:List Int):List MoveT->List (List Int)->List (List Int)
 |[],out=>out
 |mv :: l,out=>Jx vars s l (if(J8 vars mv s).2=true/\(J8 vars mv s).1∉out then out ++ [(J8 vars mv s).1] else out)
def yg (m:ModT)(s:List Int):List (List Int):=
 if qy m.vars s=true then(if(Jx m.vars s m.moves []).length=0 then [s] else Jx m.vars s m.moves []) else []
theorem uk {vars:List VarT}{s t:List Int}:∀ {l:List MoveT} {out:List (List Int)},t∈Jx vars s l out->t∈out\/∃ mv∈l,J8 vars mv s=(t,true)
 |[],out,h=>.inl h
 |mv :: l,out,h=>by
  rw[Jx] at h;rcases uk h with h|⟨w,hw,e⟩
  ·split at h
   ·rename_i c;rcases Qau.1 h with h|h
    ·exact .inl h
    ·simp only[QaK] at h;exact .inr ⟨mv,by simp,by rw[h,<-c.1]⟩
   ·exact .inl h
  ·exact .inr ⟨w,by simp[hw],e⟩
theorem HW {vars:List VarT}{s:List Int}:∀ {l:List MoveT} {out:List (List Int)},(Jx vars s l out).length<=out.length+l.length
 |[],out=>τ _
 |mv :: l,out=>by
  rw[Jx];refine Qab HW ?_;split
  ·simp;omega
  ·simp
theorem wU {vars:List VarT}{mv:MoveT}{s t:List Int}(h:J8 vars mv s=(t,true)):qy vars t=true:=by
 unfold J8 at h;split at h
 ·split at h
  ·cases h
  ·simp only[Prod.mk.injEq] at h;obtain⟨rfl,hr⟩:=h;exact hr
 ·cases h
end
theorem jos {l f:List Nat}(h:(zn l f).c=0):ModK (zn l f).m:=by
 unfold zn at h ⊢;by_cases h1:(yB l).2.1≠0
 ·rw[if_pos h1] at h;exact absurd (show((yB l).2.1:Int)=0 from h) om
 ·rw[if_neg h1] at h ⊢;obtain⟨O,hp⟩:=jom (l:=l) (by simpa using h1);cases hm:zh (yB l).1 with
  |er a b c=>
   rw[hm] at h;exact absurd h (wG hm)
  |ok m=>
   rw[hm] at h;dsimp only at h ⊢;by_cases h2:(yn f).2.1≠0
   ·rw[if_pos h2] at h;exact absurd (show((yn f).2.1:Int)=0 from h) om
   ·rw[if_neg h2] at h ⊢;cases hr:yy m.1.vars m.1.enums true (yn f).1 2 [] with
    |er a b c=>
     rw[hr] at h;exact absurd h (QG hr)
    |ok y=>exact joL (λd hd=>(O.begs d hd).2) O.rules om O.ens hm
def Qh (src:SrcT):ModT×Bool:=match Qc src with
 |none=>(md0,false)
 |some t=>if 5000<t.length then(md0,false) else((zn t [116,114,117,101]).m,decide ((zn t [116,114,117,101]).c=0/\(zn t [116,114,117,101]).l=0/\(zn t [116,114,117,101]).k=0) && decide (JF (zn t [116,114,117,101]).m.vars<=300))
theorem jco {src:SrcT}(h:(Qh src).2=true):ModK (Qh src).1/\VarsOK (Qh src).1.vars (Qh src).1.enums:=by
 unfold Qh at h ⊢;cases hs:Qc src with
 |none=>rw[hs] at h;cases h
 |some t=>
  rw[hs] at h;dsimp only at h ⊢;split at h
  ·cases h
  ·rename_i h5;rw[if_neg h5];simp only[Qaa,decide_eq_true_eq] at h;exact⟨jos h.1.1,(jcp h.1.1).1⟩
theorem jia {src:SrcT}(h:(Qh src).2=true):QP (Qh src).1.vars<=300:=by
 have hS:=(jco h).1.sb.states;unfold Qh at h hS ⊢;cases hs:Qc src with
 |none=>rw[hs] at h;cases h
 |some t=>
  rw[hs] at h hS;dsimp only at h hS ⊢;split at h
  ·cases h
  ·rename_i h5;rw[if_neg h5] at hS ⊢;simp only[Qaa,decide_eq_true_eq] at h;have:=h.2;dsimp only at hS ⊢;omega
def jkf:XC:=(Og (T4 2 4) [OZ 7,I5 8 7,OP 9 2,oI 10 9,I5 11 10,Ix 12 .neq 8 11] 12 Tv (OY (Oe [OP 13 2,Oi 14 13,IQ 15 14,I3 16] 0 (To 17 16 15) 17 0 1 (oY [oz 18 16,Il 19 7 14 16,oV 20 7 19,o9 6 [oK,oB,oK,oB,oB,Tl,oB],oy 5 18,o6 7 6 20] (.cops [IG (OZ 21),TC 22 5,IG (Lk 23 21 22),OS 24 23,IG (Tm 25 6),OS 26 25,IG (IX 27 .lss 24 26),TC 28 27,IG (II 29 28 1),IG (II 30 28 5),IG (Ig 31 28 (.idxS 1 29 30)),IG (Ow 32 28 31),IG (Oq 33 28 4 6),IG (Ow 34 28 33),IG (Ig 35 28 (.bin .gtr 32 34)),IG (Lf 36 28 35)]) (Tj 36 Tv .skip)) 37 16 1 16 37) [Tb 4]))
def jpH:XF:=⟨[0,1],jkf,[(.t 4)]⟩
theorem jt6:jy γ 25=some jpH:=by kernel_rfl
def jbF:XC:=(Og [I3 2] [oy 3 0] 3 [O0 2 1] (o5 [I3 2]))
def jk2:XF:=⟨[0],jbF,[(.t 2)]⟩
theorem jqw:jy γ 61=some jk2:=by kernel_rfl
def jj9:XC:=(OV (TH (I3 6) 7) (T9 [oy 8 0] 0 (Tf 10 8 14 9 10 9 [OZ 11,oz 12 2,IX 13 .mul 11 12,oy 6 13,Tb 7] (Tf 15 8 15 14 15 14 [OZ 16,oz 17 2,IX 18 .add 16 17,oy 6 18,Tb 7] (Tf 20 8 16 19 20 19 [OZ 21,oz 22 2,IX 23 .sub 21 22,oy 6 23,Tb 7] (.seq (Tu 25 8 17 24 25 24 (.ops (IW 26 8 30 24 26))) (Tj 24 [OZ 27,oz 28 2,IX 29 .eql 27 28,Oy 30 61 29,oy 6 30,Tb 7] (Tf 32 8 18 31 32 31 [OZ 33,oz 34 2,IX 35 .neq 33 34,Oy 36 61 35,oy 6 36,Tb 7] (Tf 38 8 19 37 38 37 [OZ 39,oz 40 2,IX 41 .lss 39 40,Oy 42 61 41,oy 6 42,Tb 7] (.seq (Tu 44 8 20 43 44 43 (.ops (IW 45 8 29 43 45))) (Tj 43 [OZ 46,oz 47 2,IX 48 .leq 46 47,Oy 49 61 48,oy 6 49,Tb 7] (Tf 51 8 21 50 51 50 [OZ 52,oz 53 2,IX 54 .gtr 52 53,Oy 55 61 54,oy 6 55,Tb 7] (Tf 57 8 22 56 57 56 [OZ 58,oz 59 2,IX 60 .geq 58 59,Oy 61 61 60,oy 6 61,Tb 7] (Tf 63 8 27 62 63 62 [OZ 64,oz 65 2,ol 66 (.bi .min #[2,2] [64,65]),oy 6 66,Tb 7] (Iz (IW 68 8 28 67 68) 67 [OZ 69,oz 70 2,ol 71 (.bi .max #[2,2] [69,70]),oy 6 71,Tb 7])))))))))))))) (TH (I3 6) 7))
def jpB:XF:=⟨[0,1,2],jj9,[(.t 6),(.t 7)]⟩
theorem jt0:jy γ 42=some jpB:=by kernel_rfl
def jkj:XC:=(ov [TU 2,I3 4,Om 5] (oY [O6 6] (T8 [Tm 11 2,Oi 12 11,IQ 13 12,I3 14] 0 15 14 13 15 0 1 [Il 16 6 12 14,Ta 17 16,TA 8,TW 8 17] (Og [Ta 19 8,OZ 20,OB 21 16 19 20,oz 18 21,Tx 22 18,Ty 23 18,oy 9 22,oy 10 23] [oz 24 10,OW 25 24] 25 (TH (I3 4) 5) (.ops [T0 26,oz 27 9,TJ 28 1 oB [((0,1),27)],Or 29 1 8 26 28,oy 6 29])) 30 14 14 30) (Im 2 (oL [T0 32,I5 33 32,ol 34 (TK 33),oz 35 34,Oz 36 35 0 2,Ox 37 35 36,Te 38 35 .eql 37 1,I0 39 35 38,Oq 40 39 0 2,Ow 41 39 40,O7 42 39 .eql 41 2,Ih 43 35 (.pick 39 Ii 42),Tc 44 35 43,oy 31 44] 31 (o5 [Tw 45 2,oI 46 45,TM 46,Tb 5]) (oL [T0 48,I5 49 48,ol 50 (TK 49),oz 51 50,Oz 52 51 0 2,Ox 53 51 52,Te 54 51 .eql 53 4,Tc 55 51 54,oz 56 55,Oz 57 56 1 2,Ox 58 56 57,Ih 59 56 (O8 .geq 58),Tc 60 56 59,oz 61 60,Oz 62 61 1 2,Ox 63 61 62,I0 64 61 1,Ih 65 61 (.len 64),Ih 66 61 (.bin .lss 63 65),Tc 67 61 66,oy 47 67] 47 (o5 [OZ 68,Tw 69 2,oI 70 69,Lk 71 68 70,oI 72 71,TM 72,Tb 5]) (oL [T0 74,I5 75 74,Ic 76 .eql 75 1,oz 77 76,Oz 78 77 0 2,Ox 79 77 78,Te 80 77 .eql 79 5,Tc 81 77 80,oy 73 81] 73 (o5 [T0 82,Lk 83 82 ON,oI 84 83,ol 85 (.un .neg 84),TM 85,Tb 5]) (oL [T0 87,I5 88 87,Ic 89 .eql 88 1,oz 90 89,Oz 91 90 0 2,Ox 92 90 91,Te 93 90 .eql 92 6,Tc 94 90 93,oy 86 94] 86 (o5 [T0 95,Lk 96 95 ON,oI 97 96,IX 98 .sub Th 97,TM 98,Tb 5]) (Id [T0 100,I5 101 100,Ic 102 .eql 101 2,oy 99 102] 99 (TO [IG (OP 103 2),OS 104 103,TC 105 6,IG (Lk 106 105 ON),OS 107 106,TC 108 6,IG (Lk 109 108 Th),OS 110 109,(Iq 111 42 [104,107,110],OK),IG (Tx 112 111),IG (Ty 113 111),IG (TM 112),IG (oy 5 113)] .ret)))))) (o5 (TH (I3 4) 5)))))
def jpL:XF:=⟨[0,1],jkj,[(.t 4),(.t 5)]⟩
theorem jua:jy γ 16=some jpL:=by kernel_rfl
def jki:XC:=(ov [TU 2,Om 4,Om 5] (OL [Ta 9 2,OZ 10,OB 11 16 9 10,oz 8 11,Tx 12 8,Ty 13 8,oy 6 12,oy 7 13] [oz 14 7,oz 15 14,I0 16 15 6,Te 17 15 .eql 16 1,Tc 18 15 17,oz 19 7,TM 18,oy 5 19]))
def jpK:XF:=⟨[0,1],jki,[(.t 4),(.t 5)]⟩
theorem jt9:jy γ 17=some jpK:=by kernel_rfl
def jj8:XC:=(oY [TU 3,IE 4 1,O6 6,Om 7] (ov [OP 16 4,Ta 17 16,oz 18 2,OB 19 17 17 18,oz 15 19,Tx 20 15,Ty 21 15,oy 8 20,oy 9 21] (Iz [oz 22 8,TN 23 22,oz 24 23,II 25 24 9,TT 26 24 25,Lf 27 24 26] 27 (TH (O6 6) 7))) (OV [oz 28 2,Oy 29 49 28,oy 10 29] (T8 [oF 30 6 4,Oi 31 30,IQ 32 31,I3 33] 0 34 33 32 34 0 1 [Il 35 7 31 33,oV 36 7 35,o9 12 [oB,oB,oB,oK,.nils,oB,oB],o6 7 12 36] (Og [Tw 38 12,Ta 39 38,oz 40 2,OB 41 16 39 40,oz 37 41,Tx 42 37,Ty 43 37,oy 13 42,oy 14 43] [oz 44 14,TN 45 44,oz 46 45,Oq 47 46 0 12,Ow 48 46 47,Ig 49 46 (O8 .lss 48),Td 50 46 49,oz 51 50,Oq 52 51 0 12,Ow 53 51 52,II 54 51 2,TR 55 51 54,Ig 56 51 (.bin .geq 53 55),Lf 57 51 56] 57 (TH (O6 6) 7) (.ops [oz 58 10,OP 59 12,oI 60 59,oz 61 13,Lk 62 58 60,o6 1 62 61])) 63 33 33 63) [oz 64 10,T1 65 3,oz 66 10,OB 67 25 65 66,oy 6 64,oy 7 67]))
def jpA:XF:=⟨[0,1,2],jj8,[(.t 6),(.t 7)]⟩
theorem jtZ:jy γ 45=some jpA:=by kernel_rfl
def jj4:XC:=(Og [O6 2] [IZ 3,ow 4 (.gen .eql 30 true 3 (.c .nils))] 4 [O6 2] (o5 [TJ 5 0 oB [],IZ 6,Or 7 1 8 5 6,Tq 7]))
def jpw:XF:=⟨[0],jj4,[(.t 2)]⟩
theorem jtV:jy γ 49=some jpw:=by kernel_rfl
def jj5:XC:=(Og Tv [IZ 6,I5 7 6,OZ 8,I5 9 8,Ix 10 .neq 7 9] 10 Tv (OY (Oe [IZ 11,IQ 12 11,I3 13] 0 (To 14 13 12) 14 0 1 (oY (Tg 15 13 5 15) (.cops [Lc 16,TC 17 5,IG (Lk 18 16 17),OS 19 18,IG (OZ 20),TC 21 5,IG (Lk 22 20 21),OS 23 22,IG (Ix 24 .neq 19 23)]) (Tj 24 Tv .skip)) 25 13 1 13 25) [Tb 4]))
def jpx:XF:=⟨[0,1],jj5,[(.t 4)]⟩
theorem jtW:jy γ 48=some jpx:=by kernel_rfl
def jj6:XC:=(OL (Ti 3) [IZ 4,oI 5 1,OB 6 48 4 5,oy 3 6])
def jpy:XF:=⟨[0,1],jj6,[(.t 3)]⟩
theorem jtX:jy γ 47=some jpy:=by kernel_rfl
def jj7:XC:=(OL Tv [IZ 5,OZ 6,OB 7 63 5 6,ol 8 (O8 .geq 7),TM 8])
def jpz:XF:=⟨[0,1],jj7,[(.t 4)]⟩
theorem jtY:jy γ 46=some jpz:=by kernel_rfl
def jj2:XC:=(OV [I3 4] (T8 [IZ 6,IQ 7 6,I3 8] 0 9 8 7 9 0 1 (Tg 10 8 5 10) (Iz [OZ 11,IZ 12,Ld 13,Lk 14 12 13,oI 15 14,T6 16 11 [15]] 16 (Tg 17 5 4 17)) 18 8 8 18) [O0 4 (-(0+1))])
def jpu:XF:=⟨[0,1],jj2,[(.t 4)]⟩
theorem jtT:jy γ 63=some jpu:=by kernel_rfl
def jkd:XC:=(Og [TU 2,O6 4] [T1 10 2,OZ 11,OB 12 25 10 11,OW 13 12] 13 [O6 4] (oY [O6 5] (T8 [Lg 14 2,Oi 15 14,IQ 16 15,I3 17] 0 18 17 16 18 0 1 [Il 19 7 15 17,oV 20 7 19,o9 7 [oB,oB,oK,.nils,oB,oB,.nils],o6 7 7 20] (ov [T1 22 2,oV 23 7 7,OZ 24,Iq 25 45 [22,23,24],oz 21 25,Tx 26 21,Ty 27 21,o9 8 [.nils],o6 1 8 26,oy 9 27] (OA [oz 28 9,oz 29 28,I0 30 29 5,Ih 31 29 (.fn 47 [8]),Tn 32 (29,true) 46 [30,31],Ih 33 29 (IB 32),I7 34 29 33 oX] 34 [Ld 35,oI 36 8,Ln 37 1 [((0,1),36)],Or 38 1 24 35 37,oy 5 38])) 39 17 17 39) (OY (OA [Ld 40,I5 41 40,ow 42 (TK 41)] 42 [Ld 43,OZ 44,Oy 45 49 44,Ln 46 1 [((0,1),45)],Or 47 1 24 43 46,oy 5 47]) (Tg 48 5 4 48))))
def jpF:XF:=⟨[0,1],jkd,[(.t 4)]⟩
theorem jt4:jy γ 27=some jpF:=by kernel_rfl
def jj3:XC:=(OL (Ti 3) [IZ 4,oI 5 1,OB 6 48 4 5,oy 3 6])
def jpv:XF:=⟨[0,1],jj3,[(.t 3)]⟩
theorem jtU:jy γ 51=some jpv:=by kernel_rfl
def jkb:XC:=(OL [TU 3,IE 5 2,Om 6] [T1 7 3,OZ 8,OB 9 27 7 8,ol 10 (.fn 51 [5]),OB 11 46 9 10,oy 6 11])
def jpD:XF:=⟨[0,1,2],jkb,[(.t 6)]⟩
theorem jt2:jy γ 30=some jpD:=by kernel_rfl
def jkc:XC:=(Og Tv [IZ 6,I5 7 6,OZ 8,I5 9 8,Ix 10 .neq 7 9] 10 Tv (OY (Oe [IZ 11,IQ 12 11,I3 13] 0 (To 14 13 12) 14 0 1 (oY (Tg 15 13 5 15) (.cops [Lc 16,TC 17 5,IG (Lk 18 16 17),OS 19 18,IG (OZ 20),TC 21 5,IG (Lk 22 20 21),OS 23 22,IG (Ix 24 .neq 19 23)]) (Tj 24 Tv .skip)) 25 13 1 13 25) [Tb 4]))
def jpE:XF:=⟨[0,1],jkc,[(.t 4)]⟩
theorem jt3:jy γ 29=some jpE:=by kernel_rfl
def jka:XC:=(OV Tv (T8 [oy 7 0,IQ 8 7,I3 9] 0 10 9 8 10 0 1 [Lk 11 7 9,oI 12 11,oy 6 12] (Iz [T0 13,OZ 14,T6 15 (oR 29 []) [13,14]] 15 [Tb 4]) 16 9 9 16) Tv)
def jpC:XF:=⟨[0,1],jka,[(.t 4)]⟩
theorem jt1:jy γ 32=some jpC:=by kernel_rfl
def jkk:XC:=(ov [TU 1,o9 2 [.nils,.nils,.nils],Om 3] (Og [T1 10 1,Oy 11 35 10,oz 9 11,Tx 12 9,Ty 13 9,TM 12,oy 5 13] [Ld 14,ol 15 (O8 .neq 14),oz 16 15,II 17 16 4,Ig 18 16 (.lenS 17),O7 19 16 .gtr 18 5000,Lf 20 16 19] 20 [Iw 21 [.nils,.nils,.nils] [],o6 3 2 21,Om 3] (oY [TZ 23,OB 24 34 23 (o8 [116,114,117,101]),oz 22 24,Tx 25 22,Ty 26 22,Ij 27 22 2,o9 6 [.nils,.nils,.nils],ol 7 (.alloc OJ),o9 8 [oB,oB,oB],o6 3 6 25,TW 7 26,o6 3 8 27] (.dops [La 28 3 6 6 35,La 29 3 8 8 45,TG 30 [oB,oB,oB] [],IP (ol 31 (TQ .eql 45 29 30)),Tr 32 31,ID (Ih 33 32 (.ldA 3 6)) 6 35 [],(Iy (Tn 34 (32,true) 36 [33]) 0 [(5,35)],OK),IP (Te 35 32 .leq 34 300),IP (Tc 36 32 35),TV 3 2 28,IP (oy 3 36)]) .ret)))
def jpM:XF:=⟨[0],jkk,[(.cA 2 3),(.t 3)]⟩
theorem jub:jy γ 10=some jpM:=by kernel_rfl
def svV (s:List Int):AV:=.lst s.length (s.map (.int .i64))
theorem jhT (s:List Int):pc (svV s)=true:=by
 have:(s.map (AV.int .i64)).all pc=true:=by simp[pc]
 simp[svV,pc,this]
theorem jfP (k:Int)(h : -9223372036854775808<=k)(h2:k<=9223372036854775807):wq k=k:=Xt h h2
section
variable {st:St} {K:AV->St->Prop}
theorem jaM (a b:Int):jh (Jm .add (.int .i64 a) (.int .i64 b) st) K=K (.int .i64 (wq (a+b))) st:=rfl
theorem jmC (a b:Int):jh (Jm .sub (.int .i64 a) (.int .i64 b) st) K=K (.int .i64 (wq (a - b))) st:=rfl
theorem jsW (a b:Int):jh (Jm .mul (.int .i64 a) (.int .i64 b) st) K=K (.int .i64 (wq (a * b))) st:=rfl
theorem jsV (a:Int):jh (unV .neg (.int .i64 a) st) K=K (.int .i64 (wq (-a))) st:=by
 have e:IntKind.i64.wrap (0 - a)=wq (-a):=by rw[<-JK,Int.zero_sub];rfl
 simp only[unV,Yl,O,e,jh]
end
theorem jtL (hb:NB base)(q:Bool):Tot base 61 [.bool q] (.int .i64 (if q=true then 1 else 0)):=by
 refine hb.tot ?_ rfl rfl;cases q with
 |true=>
  refine jG jqw (by rfl) (hb.pur 61 1 dc) ?_;simp only[jk2,jr,κ,μ,ν,ξ];rw[(by unfold jbF;simp only[qq];rfl:jbF=_)];repeat'(first|apply jb<;>intro _|simp(disch:=first|exact dzG|fail) only[r8,δ,ε,ζ,η,θ])
  exact G0.v rfl rfl
 |false=>
  refine jG jqw (by rfl) (hb.pur 61 1 dc) ?_;simp only[jk2,jr,κ,μ,ν,ξ];rw[(by unfold jbF;simp only[qq];rfl:jbF=_)];repeat'(first|apply jb<;>intro _|simp(disch:=first|exact dzG|fail) only[r8,δ,ε,ζ,η,θ])
  exact G0.v rfl rfl
def tpO (o:Option Int):AV:=.tup [.int .i64 (o.getD 0),.bool o.isSome]
theorem ZL {s:St}{o:Option Int}{x:Int}{q:Bool}(h1:x=o.getD 0)(h2:q=o.isSome):G0 (tpO o) (.tup [.int .i64 x,.bool q]) s:=by
 subst h1 h2;exact FzD.tup (.cons (.pc rfl) (.cons (.pc rfl) .nil))
set_option maxHeartbeats 4000000 in
theorem jto (hb:NB base)(op a b:Int):Tot base 42 [.int .i64 op,.int .i64 a,.int .i64 b] (tpO (jca op a b)):=by
 refine hb.tot ?_ rfl rfl;have B:=jtL hb;refine jG jt0 (by rfl) (hb.pur 42 1 dc) ?_;simp only[jpB,jr,κ,μ,ν,ξ];rw[(by unfold jj9;simp only[qq];rfl:jj9=_)];repeat'(first|apply jb<;>intro _|simp(disch:=first|exact dzG|fail) only[B,jaM,jmC,jsW,r8,δ,ε,ζ,η,θ])
 all_goals(refine ZL ?_ ?_<;>simp[jca,QR,Int.min_def,Int.max_def, *])
theorem qW {vars:List VarT}{s:List Int}:qy vars s=true↔s.length=vars.length/\∀ i (h1:i<vars.length) (h2:i<s.length),vars[i].lo<=s[i]/\s[i]<=vars[i].hi:=by
 unfold qy;rw[Qaa,decide_eq_true_eq,Qal];refine⟨λ⟨a,b⟩=>⟨a,λi h1 h2=>?_⟩,λ⟨a,b⟩=>⟨a,λi hi=>?_⟩⟩
 ·have:=b i (Qbo.2 h1);rw[Qaq,Qag h1,Qaq,Qag h2] at this;simpa using this
 ·have h1:=Qbo.1 hi;have:=b i h1 om;rw[Qaq,Qag h1,Qaq,Qag (show i<s.length by omega)];simpa using this
theorem VQ {vars:List VarT}{s:List Int}(h:¬ (s.length=vars.length/\∀ i (h1:i<vars.length) (h2:i<s.length),vars[i].lo<=s[i]/\s[i]<=vars[i].hi)):qy vars s=false:=by
 rw[Qch];exact λk=>h (qW.1 k)
set_option maxHeartbeats 4000000 in
theorem Kc (hb:NB base)(m:ModT)(sv:List Int)(hm:m.vars.length<=1000000)(hs:sv.length<=1099511627776):PL γ base 25 [.agg (mdE m),svV sv] (.ok (.bool (qy m.vars sv))):=by
 unfold svV;have hl:((sv.length:Int)=(m.vars.length:Int))=(sv.length=m.vars.length):=by rw[eq_iff_iff];omega
 refine zg jt6 (by rfl) (hb.pur 25 5 dc) rfl ?_;simp only[jpH,jr,κ,μ,ν,ξ];rw[(by unfold jkf;simp only[qq];rfl:jkf=_)];repeat'(first|apply jb<;>intro _|simp(disch:=first|exact dzG|fail) only[hl,r8,δ,ε,ζ,η,θ])
 ·rename_i h;exact G0.v (congrArg AV.bool (VQ λk=>h k.1).symm) rfl
 ·rename_i h;have h:sv.length=m.vars.length:=by simpa using h
  refine jX m.vars.length (λk L st=>(∀ j (h1:j<m.vars.length) (h2:j<sv.length),j<k->m.vars[j].lo<=sv[j]/\sv[j]<=m.vars[j].hi)/\1<=st.nx/\Has L 1 (.lst sv.length (sv.map (.int .i64)))/\Has L 14 (.lst m.vars.length (fl vaE m.vars))) ?_ (λk L s hk hI hi hn=>?_) (λL s hI=>?_)
  ·refine⟨λj h1 h2 hj=>absurd hj (Qay _),by(first|omega|(simp only[jg,jj,jt,jq,jp];first|done|omega)),?_,?_⟩<;>exact hsX
  ·obtain⟨h0,n1,i1,i14⟩:=hI;have hks:k<sv.length:=om
   repeat'(first|apply jb<;>intro _|simp(disch:=first|exact dzG|fail) only[ja i1,ja i14,ja hi,ja hn,Xh,r8,δ,ε,ζ,η,θ])
   ·rename_i h3;refine G0.v (congrArg AV.bool (VQ λw=>?_).symm) rfl;have:=(w.2 k hk hks).1;omega
   ·rename_i h3 h4;refine G0.v (congrArg AV.bool (VQ λw=>?_).symm) rfl;have:=(w.2 k hk hks).2;omega
   ·rename_i h3 h4;refine⟨⟨λj h1 h2 hj=>?_,om,?_,?_⟩,?_,?_⟩
    ·by_cases e:j=k
     ·subst e;omega
     ·exact h0 j h1 h2 om
    all_goals exact hsX
  ·obtain⟨h0,n1,i1,i14⟩:=hI;repeat'(first|apply jb<;>intro _|simp(disch:=first|exact dzG|fail) only[r8,δ,ε,ζ,η,θ])
   exact G0.v (congrArg AV.bool (qW.2 ⟨h,λi h1 h2=>h0 i h1 h2 h1⟩).symm) rfl
set_option maxHeartbeats 4000000 in
theorem jo0 (hb:NB base)(a b:List Int)(ha:a.length<=1099511627776)(hb2:b.length<=1099511627776):PX γ base 48 [svV a,svV b] (.ok (.bool (decide (a=b)))):=by
 unfold svV;have hl:((a.length:Int)=(b.length:Int))=(a.length=b.length):=by rw[eq_iff_iff];omega
 refine jG jtW (by rfl) (hb.pur 48 1 dc) ?_;simp only[jpx,jr,κ,μ,ν,ξ];rw[(by unfold jj5;simp only[qq];rfl:jj5=_)];repeat'(first|apply jb<;>intro _|simp(disch:=first|exact dzG|fail) only[hl,r8,δ,ε,ζ,η,θ])
 ·rename_i h;exact G0.v (congrArg AV.bool (decide_eq_false λk=>h (by rw[k])).symm) rfl
 ·rename_i h;have h:a.length=b.length:=by simpa using h
  refine jX a.length (λk L st=>(∀ j (h1:j<a.length) (h2:j<b.length),j<k->a[j]=b[j])/\Has L 0 (.lst a.length (a.map (.int .i64)))/\Has L 1 (.lst b.length (b.map (.int .i64)))) ?_ (λk L s hk hI hi hn=>?_) (λL s hI=>?_)
  ·refine⟨λj h1 h2 hj=>absurd hj (Qay _),?_,?_⟩<;>exact hsX
  ·obtain⟨h0,i0,i1⟩:=hI;have hks:k<b.length:=om
   repeat'(first|apply jb<;>intro _|simp(disch:=first|exact dzG|fail) only[ja i0,ja i1,ja hi,ja hn,Xh,r8,δ,ε,ζ,η,θ])
   ·rename_i h3;exact G0.v (congrArg AV.bool (decide_eq_false λw=>h3 (by subst w;rfl)).symm) rfl
   ·rename_i h3;refine⟨⟨λj h1 h2 hj=>?_,?_,?_⟩,?_,?_⟩
    ·by_cases e:j=k
     ·subst e;simpa using h3
     ·exact h0 j h1 h2 om
    all_goals exact hsX
  ·obtain⟨h0,i0,i1⟩:=hI;repeat'(first|apply jb<;>intro _|simp(disch:=first|exact dzG|fail) only[r8,δ,ε,ζ,η,θ])
   exact G0.v (congrArg AV.bool (decide_eq_true (Qbq h λi h1 h2=>h0 i h1 h2 h1)).symm) rfl
theorem jlj (sv:List Int)(x:Ex):yE sv x=match qS sv x.kids with|none=>none|some ns=>opV sv x.op x.num ns:=by cases x;rw[yE];rfl
theorem WN {sv:List Int}:∀ {xs ys:List Ex} {ns:List Int},qS sv xs=some ns->qS sv (xs ++ ys)=match qS sv ys with|none=>none|some ms=>some (ns ++ ms)
 |[],ys,ns,h=>by
  rw[qS] at h;cases h;rw[Qan];cases qS sv ys<;>rfl
 |x :: xs,ys,ns,h=>by
  rw[qS] at h;rw[Qaj,qS];cases h1:yE sv x with
  |none=>rw[h1] at h;cases h
  |some n=>
   rw[h1] at h;cases h2:qS sv xs with
   |none=>rw[h2] at h;cases h
   |some ms=>
    rw[h2] at h;cases h;rw[WN h2];cases qS sv ys<;>rfl
theorem jli {sv:List Int}{xs:List Ex}{k:Nat}{ns:List Int}{n:Int}(hk:k<xs.length)(h:qS sv (xs.take k)=some ns)(h2:yE sv xs[k]=some n):qS sv (xs.take (k+1))=some (ns ++ [n]):=by
 rw[yz hk,WN h];simp[qS,h2]
theorem Hv {sv:List Int}{xs:List Ex}{k:Nat}{ns:List Int}(hk:k<xs.length)(h:qS sv (xs.take k)=some ns)(h2:yE sv xs[k]=none):qS sv xs=none:=by
 have e:xs=xs.take k ++ (xs[k] :: xs.drop (k+1)):=by rw[<-Qcf hk,Qbp]
 rw[e,WN h];simp[qS,h2]
set_option maxHeartbeats 8000000 in
theorem jfs (hb:NB base)(sv:List Int)(hs:sv.length<=1099511627776):∀ x:Ex,szE x<=BIG->PL γ base 16 [.agg (eE x),svV sv] (.ok (tpO (yE sv x))):=by
 refine Ex.indk λx ih hx=>?_;have hd:=jlj sv x;have hz:=Y1 x;generalize hks:x.kids=ks at *;have hlen:=Zu ks;unfold BIG at *;unfold svV at *;refine zg jua (by rfl) (hb.pur 16 5 dc) rfl ?_;simp only[jpL,jr,κ,μ,ν,ξ];rw[(by unfold jkj;simp only[qq];rfl:jkj=_)];repeat'(first|apply jb<;>intro _|simp(disch:=first|exact dzG|fail) only[hks,r8,δ,ε,ζ,η,θ])
 refine jX ks.length (λk L s=>(∃ ns v,qS sv (ks.take k)=some ns/\ns.length=k/\Lv 1 s.nx s v k (ns.map (.int .i64)) 1/\Has L 6 v)/\1<=s.nx/\Cl s 0 (eE x)/\Has L 1 (.lst sv.length (sv.map (.int .i64)))/\Has L 2 (.ptr 0 0)/\Has L 12 (.lst ks.length (fl eE ks))) ?_ (λk L s hk hI hi hn=>?_) (λL s hI=>?_)
 ·refine⟨⟨[],.nils,rfl,rfl,Lv.nil,?_⟩,by(first|omega|(simp only[jg,jj,jt,jq,jp];first|done|omega)),by(first|exact cyG|fail),?_,?_,?_⟩<;>exact hsX
 ·obtain⟨⟨ns,v,h1,h2,V,i6⟩,n1,C0,i1,i2,i12⟩:=hI;have hk2:=Zv hk;have e:Tot base 16 [.agg (eE ks[k]),.lst sv.length (sv.map (.int .i64))] (tpO (yE sv ks[k])):=λst K Kp=>(ih ks[k] (Qac hk) om).pa (by simp[pa,pc,q9,zW]) (λst=>hb.no 16 dc _ _) st K Kp;cases hv:yE sv ks[k] with
  |none=>
   rw[hv] at e;have e:Tot base 16 [.agg (eE ks[k]),.lst sv.length (sv.map (.int .i64))] (.tup [.int .i64 0,.bool false]):=e
   (have zz:=C0.r;(repeat'(first|apply jb<;>intro _|simp(disch:=first|exact jZ|fail) only[ja i1,ja i2,ja i6,ja i12,ja hi,ja hn,e,C0.q,C0.r,r8,δ,ε,ζ,η,θ]));all_goals clear zz)
   exact ZL (by rw[hd,Hv hk h1 hv];rfl) (by rw[hd,Hv hk h1 hv];rfl)
  |some n=>
   rw[hv] at e;have e:Tot base 16 [.agg (eE ks[k]),.lst sv.length (sv.map (.int .i64))] (.tup [.int .i64 n,.bool true]):=e;obtain⟨m,hm⟩:∃ m,m=s.nx:=⟨_,rfl⟩;rw[<-hm] at V;have A:=λst bv xc xx K h hv=>@JT 1 m k 1 st v (ns.map (.int .i64)) K 8 bv xc xx h dc om om hv;have V2:∀ st m',Lv 1 m st v k (ns.map (.int .i64)) 1->1<=st.nx->m'=st.nx+1->Lv 1 m' (aps v st [.int .i64 n]) (apv 1 v st) (k+1) ((ns ++ [n]).map (.int .i64)) 1:=λst m' h h2 h3=>by
    rw[Qba];exact h.put rfl h2 h3
   (have zz:=a4 V.ln @jA @jE (aI @V C0.r);(repeat'(first|apply jb<;>intro _|simp(disch:=first|exact jZ|fail) only[ja i1,ja i2,ja i6,ja i12,ja hi,ja hn,e,A,V.at,C0.q,V.ln,jA,jE,V,C0.r,r8,δ,ε,ζ,η,θ]));all_goals clear zz)
   refine⟨⟨⟨ns ++ [n],_,jli hk h1 hv,by simp[h2],V2 _ _ ?_ ?_ ?_,?_⟩,?_,?_,?_,?_,?_⟩,?_,?_⟩;all_goals first
    |(simp(disch:=decide) only[ji,ju];done)
    |(simp(disch:=decide) only[ji];assumption)
    |(simp(disch:=first|decide|omega|(simp only[jg,jj];omega)) only[jH,jA,jE];exact V)
    |(simp(disch:=first|decide|omega|(simp only[jg,jj];omega)) only[V.cl,jB,jD];exact C0)
    |(simp only[jg,jj];done)
    |(simp only[jg,jj];omega)
    |omega
    |rfl
 ·obtain⟨⟨ns,v,h1,h2,V,i6⟩,n1,C0,i1,i2,i12⟩:=hI;rw[Qaf] at h1;rw[h1] at hd;dsimp only at hd;unfold opV at hd;rcases V with ⟨rfl,h0,_⟩|⟨b,rfl,h0,_,C,hb1,hb2⟩
  ·have hn0:ns=[]:=QbH.1 om;subst hn0;have z1:¬ ((0:Nat)=1):=dc
   by_cases g1:x.op=1\/x.op=2
   ·rw[if_pos ⟨rfl,g1⟩] at hd
    (have zz:=C0.r;(repeat'(first|apply jb<;>intro _|simp(disch:=first|exact jZ|fail) only[ja i1,ja i2,ja i6,g1,C0.q,C0.r,r8,δ,ε,ζ,η,θ]));all_goals clear zz)
    all_goals first|exact ZL (by rw[hd];rfl) (by rw[hd];rfl)|(exfalso;omega)
   ·rw[if_neg (λh=>g1 h.2)] at hd;by_cases g2:x.op=4/\0<=x.num/\x.num<(sv.length:Int)
    ·rw[if_pos ⟨rfl,g2⟩] at hd;obtain⟨g2,g3,g4⟩:=g2;have g5:x.num.toNat<sv.length:=om
     have eL:∀ (st:St) (K:AV->St->Prop),jh (yb (.lptr (sv.map (AV.int .i64)) x.num.toNat) st) K=K (.int .i64 sv[x.num.toNat]) st:=λst K=>Xh g5
     (have zz:=C0.r;(repeat'(first|apply jb<;>intro _|simp(disch:=first|exact jZ|fail) only[ja i1,ja i2,ja i6,g2,g3,g4,eL,C0.q,C0.r,r8,δ,ε,ζ,η,θ]));all_goals clear zz)
     all_goals first|exact ZL (by rw[hd,Qaq,Qag g5];rfl) (by rw[hd];rfl)|(exfalso;omega)
    ·rw[if_neg (λh=>g2 h.2),if_neg (λh=>by simp at h),if_neg (λh=>by simp at h),if_neg (by simp)] at hd
     (have zz:=C0.r;(repeat'(first|apply jb<;>intro _|simp(disch:=first|exact jZ|fail) only[ja i1,ja i2,ja i6,C0.q,C0.r,r8,δ,ε,ζ,η,θ]));all_goals clear zz)
     all_goals first|exact ZL (by rw[hd];rfl) (by rw[hd];rfl)|(exfalso;omega)
  ·have z0:¬ (ks.length:Int)=0:=om
   rw[if_neg (λh=>by omega),if_neg (λh=>by omega)] at hd;by_cases k1:ks.length=1
   ·have k1':(ks.length:Int)=1:=om
    have k2':¬ (ks.length:Int)=2:=om
    have f0:rat s.h b 0=.int .i64 (ns.getD 0 0):=by
     rw[C.cell 0 (by simp;omega)];simp[Qad,show 0<ns.length by omega]
    by_cases g5:x.op=5
    ·rw[if_pos ⟨om,g5⟩] at hd
     (have zz:=aI C.len C0.r;(repeat'(first|apply jb<;>intro _|simp(disch:=first|exact jZ|fail) only[ja i1,ja i2,ja i6,z0,k1',g5,f0,jsV,C0.q,C.len,C0.r,r8,δ,ε,ζ,η,θ]));all_goals clear zz)
     all_goals first|exact ZL (by rw[hd];rfl) (by rw[hd];rfl)
    ·rw[if_neg (λh=>g5 h.2)] at hd;by_cases g6:x.op=6
     ·rw[if_pos ⟨om,g6⟩] at hd
      (have zz:=aI C.len C0.r;(repeat'(first|apply jb<;>intro _|simp(disch:=first|exact jZ|fail) only[ja i1,ja i2,ja i6,z0,k1',g5,g6,f0,jmC,C0.q,C.len,C0.r,r8,δ,ε,ζ,η,θ]));all_goals clear zz)
      all_goals first|exact ZL (by rw[hd];rfl) (by rw[hd];rfl)
     ·rw[if_neg (λh=>g6 h.2),if_neg om] at hd
      (have zz:=C0.r;(repeat'(first|apply jb<;>intro _|simp(disch:=first|exact jZ|fail) only[ja i1,ja i2,ja i6,z0,k1',k2',g5,g6,C0.q,C0.r,r8,δ,ε,ζ,η,θ]));all_goals clear zz)
      all_goals first|exact ZL (by rw[hd];rfl) (by rw[hd];rfl)
   ·have k1':¬ (ks.length:Int)=1:=om
    rw[if_neg (λh=>by omega),if_neg (λh=>by omega)] at hd;by_cases k2:ks.length=2
    ·have k2':(ks.length:Int)=2:=om
     rw[if_pos om] at hd;have f0:rat s.h b 0=.int .i64 (ns.getD 0 0):=by
      rw[C.cell 0 (by simp;omega)];simp[Qad,show 0<ns.length by omega]
     have f1:rat s.h b 1=.int .i64 (ns.getD 1 0):=by
      rw[C.cell 1 (by simp;omega)];simp[Qad,show 1<ns.length by omega]
     have E2:=jto hb x.op (ns.getD 0 0) (ns.getD 1 0);unfold tpO at E2
     (have zz:=aI C.len C0.r;(repeat'(first|apply jb<;>intro _|simp(disch:=first|exact jZ|fail) only[ja i1,ja i2,ja i6,z0,k1',k2',f0,f1,E2,C0.q,C.len,C0.r,r8,δ,ε,ζ,η,θ]));all_goals clear zz)
     all_goals first|exact ZL (by rw[hd]) (by rw[hd])
    ·have k2':¬ (ks.length:Int)=2:=om
     rw[if_neg om] at hd
     (have zz:=C0.r;(repeat'(first|apply jb<;>intro _|simp(disch:=first|exact jZ|fail) only[ja i1,ja i2,ja i6,z0,k1',k2',C0.q,C0.r,r8,δ,ε,ζ,η,θ]));all_goals clear zz)
     all_goals first|exact ZL (by rw[hd];rfl) (by rw[hd];rfl)
theorem jpg (hb:NB base)(sv:List Int)(hs:sv.length<=1099511627776)(x:Ex)(hx:szE x<=BIG):Tot base 16 [.agg (eE x),svV sv] (tpO (yE sv x)):=λst K Kp=>(jfs hb sv hs x hx).pa (by unfold svV;simp[pa,pc,q9,zW]) (λst=>hb.no 16 dc _ _) st K Kp
theorem jpp (hb:NB base)(sv:List Int)(hs:sv.length<=1099511627776)(x:Ex)(hx:szE x<=BIG):PL γ base 17 [.agg (eE x),svV sv] (.ok (.tup [.bool (decide (yE sv x=some 1)),.bool (yE sv x).isSome])):=by
 have e:=jpg hb sv hs x hx;unfold tpO at e;unfold svV at *;refine zg jt9 (by rfl) (hb.pur 17 5 dc) rfl ?_;simp only[jpK,jr,κ,μ,ν,ξ];rw[(by unfold jki;simp only[qq];rfl:jki=_)];cases hv:yE sv x with
 |none=>
  rw[hv] at e;repeat'(first|apply jb<;>intro _|simp(disch:=first|exact dzG|fail) only[e,r8,δ,ε,ζ,η,θ])
  exact FzD.tup (.cons (.pc rfl) (.cons (.pc rfl) .nil))
 |some n=>
  rw[hv] at e;have e:Tot base 16 [.agg (eE x),.lst sv.length (sv.map (.int .i64))] (.tup [.int .i64 n,.bool true]):=e;have e1:decide (some n=some 1)=decide (n=1):=by simp
  rw[e1];repeat'(first|apply jb<;>intro _|simp(disch:=first|exact dzG|fail) only[e,r8,δ,ε,ζ,η,θ])
  exact FzD.tup (.cons (.pc rfl) (.cons (.pc rfl) .nil))
end Go.Sy
end
noncomputable section
namespace Go.Sy
open Go.Ev Go.RowKit
def Lw (lo hi:Nat)(s:St)(v:AV)(n:Nat)(cs:List AV)(z:Nat):Prop:=∃ b ex,v=.slice b 0 n n z ex/\(ex=true->n=0)/\cs.length=n * z/\Cl s b cs/\lo<=b/\b<hi
theorem Lw.new {s:St}{z lo hi:Nat}(h1:lo<=s.nx)(h2:s.nx<hi):Lw lo hi (nw s []) (.slice s.nx 0 0 0 z true) 0 [] z:=⟨s.nx,true,rfl,λ_=>rfl,by simp,Cl.new s [],h1,h2⟩
theorem Lw.fz {lo hi n z m d:Nat}{s:St}{v:AV}{cs:List AV}(h:Lw lo hi s v n cs z)(hm:m<=lo)(hp:cs.all pc=true):FzD m (d+2) s v (.lst n cs):=by
 obtain⟨b,ex,rfl,_,h3,h4,h5,h6⟩:=h;refine FzD.slice h4.rw_ (QaO h3.symm) om ?_;rw[<-h3,Qaf];exact FzsD.pc hp
theorem Lw.nwO {lo hi n z:Nat}{s:St}{v:AV}{cs:List AV}(h:Lw lo hi s v n cs z)(ds:List AV):Lw lo hi (nw s ds) v n cs z:=by
 obtain⟨b,ex,h1,h2,h3,h4,h5,h6⟩:=h;exact⟨b,ex,h1,h2,h3,h4.nw ds,h5,h6⟩
structure ApL (lo:Nat)(s s':St):Prop where
 nx:s.nx<=s'.nx
 fr:s'.fr=s.fr
 hp:∀ c,c<lo->c<s.nx->jv s'.h c=jv s.h c
theorem ApL.cl {lo:Nat}{s s':St}(a:ApL lo s s')(c:Nat)(ds:List AV)(hc:c<lo)(C:Cl s c ds):Cl s' c ds:=C.keep a.nx (a.hp c hc C.lt)
theorem Lw.keep {lo hi lo2 n z:Nat}{s s':St}{v:AV}{cs:List AV}(h:Lw lo hi s v n cs z)(a:ApL lo2 s s')(hh:hi<=lo2):Lw lo hi s' v n cs z:=by
 obtain⟨b,ex,h1,h2,h3,h4,h5,h6⟩:=h;exact⟨b,ex,h1,h2,h3,a.cl b cs om h4,h5,h6⟩
theorem ApL.nwO (s:St)(ds:List AV):ApL s.nx s (nw s ds):=⟨by rw[jg];omega,by rw[Vf],λc hc h=>q6 om⟩
theorem ApL.trans {lo lo2:Nat}{s t u:St}(a:ApL lo s t)(b:ApL lo2 t u)(h:lo<=lo2):ApL lo s u:=⟨Qab a.nx b.nx,b.fr.trans a.fr,λc hc h=>(b.hp c om (Qaw h a.nx)).trans (a.hp c hc h)⟩
theorem ju5 {lo hi n z n2 bytes:Nat}{s:St}{v:AV}{cs cs2:List AV}(h:Lw lo hi s v n cs z)(hhi:hi<=s.nx)(hl:cs2.length=n2 * z)(hz:0<z)(hby:(n+n2) * bytes<=140737488355328)(h63:n+n2<=9223372036854775807) :
  ∃ v' s',(∀ K:AV->St->Prop,jh (Jc z bytes v (.lst n2 cs2) s) K=K v' s')/\Lw lo s'.nx s' v' (n+n2) (cs ++ cs2) z/\ApL lo s s':=by
 obtain⟨b,ex,rfl,hex,h3,h4,h5,h6⟩:=h;obtain⟨m',zl',zz',ks',hg'⟩:=h4.row;have h4l:=h4.len;rw[yG hg'] at h4l;have e1:Qcy (QcA n2 z) (jO cs2)=true:=qu (by rw[jL];exact QaO hl.symm);have e2:yh cs2 (QcA n2 z)=cs2:=by rw[qK];exact(by rw[show QcA n2 z=cs2.length from hl.symm,Qaf])
 have e3:Qcw (jO cs2) (QcA n2 z)=true:=YB (by rw[jL];exact hl);by_cases h0:n2=0
 ·subst h0;have hc:cs2=[]:=QbH.1 om;subst hc;refine⟨_,s,λK=>?_,⟨b,ex,rfl,by simpa using hex,by simpa using h3,by simpa using h4,h5,om⟩,⟨τ _,rfl,λ_ _ _=>rfl⟩⟩;have e4:Qcy (Qcz n 0) n=true:=qu (τ _);have e5:Qcw 0 0=true:=rfl;simp only[Jc,zA,firstCells,e1,cond_true,e2,qY,e3,hg',yl,jF,e4,e5,jh];rfl
 ·have e4:Qcy (Qcz n n2) n=false:=jbA (by show n<n+n2;omega);have e5:Qcy (QcA (Qcz n n2) bytes) 140737488355328=true:=qu hby;have e6:Qcy (Qcz n n2) 9223372036854775807=true:=qu h63;cases ex with
  |true=>
   have hn:=hex rfl;subst hn;have hc:cs=[]:=QbH.1 om;subst hc;have e7:Qcy (Qcz 0 (QcA 0 z)) m'=true:=qu (by show 0+0 * z<=m';omega);have e8:jP zl' zz' ks' (QcA 0 z) 0=[]:=by rw[qi,show QcA 0 z=0 from QaU z];rfl
   have e9:yQ [] cs2=cs2:=by rw[yw];rfl
   refine⟨.slice s.nx 0 (0+n2) (0+n2) z false,nw s cs2,λK=>?_,⟨s.nx,false,rfl,(λh=>by cases h),by rw[Qan,hl,Qam],Cl.new s _,om,by rw[jg];omega⟩,⟨by rw[jg];omega,by rw[Vf],λc hc h=>q6 om⟩⟩;simp only[Jc,zA,firstCells,e1,cond_true,e2,qY,e3,hg',yl,jF,e4,e5,e6,cond_false,e7,e8,e9,St.alloc_eq,jh];conv=>rhs;unfold nw
   rw[show QcA (Qcz 0 n2) z=cs2.length by rw[hl];exact congrArg (· * z) (Qam n2)];rfl
  |false=>
   have e7:Qcw z z=true:=YB rfl;have e8:Qcw 0 0=true:=rfl;have e9:Qcw (QcA n z) m'=true:=YB (by rw[h4l,h3];rfl);have e10:QcA (Qcz n n2) z=m'+cs2.length:=by rw[hl,h4l,h3];exact QaL n n2 z
   have ea:ap s b cs2=⟨s.nx+1,(qf (jN s.nx)).run (.row (m'+cs2.length) zl' zz' (qx cs2 ks' m')) ((qf (jN b)).run .dead s.h),min s.dirty b,s.fr⟩:=by
    unfold ap apO;rw[hg']
   have hne:b≠s.nx:=om
   refine⟨.slice s.nx 0 (n+n2) (n+n2) z false,ap s b cs2,λK=>?_,⟨s.nx,false,rfl,(λh=>by cases h),by rw[υ,h3,hl,QaL],h4.ap cs2,om,by rw[ea];exact Qbz _⟩,⟨by rw[ea];exact Nat.le_succ _,by rw[ea],λc hc h=>kw om om⟩⟩;simp only[Jc,zA,firstCells,e1,cond_true,e2,qY,e3,hg',yl,jF,e4,e5,e6,cond_false,e7,e8,e9,St.put_eq,St.alloc_eq,jh];rw[e10,ea];rfl
end Go.Sy
end
noncomputable section
set_option maxRecDepth 100000
namespace Go.Sy
open Go.Ev Go.Proofs
variable {base:Bs}
structure CloneP (base:Bs):Prop where
 zero:∀ st,base.run 49 [.lst 0 []] st=.ok (.lst 0 []) st
 more:∀ n cs st,base.run 49 [.lst (n+1) cs] st=.no
 live:∀ c n m x st,base.run 49 [.slice c 0 n m 1 x] st=.no
def OutV (lo:Nat)(s:St)(v:AV)(out:List Int):Prop:=(out=[]/\v=.lst 0 [])\/∃ b ex,v=.slice b 0 out.length out.length 1 ex/\Cl s b (out.map (.int .i64))/\lo<=b
theorem OutV.fz {lo m d:Nat}{s:St}{v:AV}{out:List Int}(h:OutV lo s v out)(hm:m<=lo):FzD m (d+2) s v (svV out):=by
 rcases h with ⟨rfl,rfl⟩|⟨b,ex,rfl,C,hl⟩
 ·exact FzD.pa rfl
 ·refine FzD.slice C.rw_ (by simp) om ?_;rw[QaI,<-Qah (f:=AV.int .i64),Qaf];exact FzsD.pc (zW _)
theorem OutV.nwO {lo:Nat}{s:St}{v:AV}{out:List Int}(h:OutV lo s v out)(ds:List AV):OutV lo (Go.Sy.nw s ds) v out:=h.imp id λ⟨b,ex,h1,h2,h3⟩=>⟨b,ex,h1,h2.nw ds,h3⟩
theorem ApL.refl (lo:Nat)(s:St):ApL lo s s:=⟨τ _,rfl,λ_ _ _=>rfl⟩
theorem ApL.nw2 {lo:Nat}{s t:St}(a:ApL lo s t)(ds:List AV):ApL lo s (Go.Sy.nw t ds):=⟨by have:=a.nx;rw[jg];omega,a.fr,λc hc h=>(q6 (by have:=a.nx;omega)).trans (a.hp c hc h)⟩
theorem ApL.wr2 {lo b:Nat}{s t:St}(a:ApL lo s t)(hb:lo<=b)(o:Nat)(vs:List AV):ApL lo s (Go.Sy.wr t b o vs):=⟨a.nx,a.fr,λc hc h=>(zG om).trans (a.hp c hc h)⟩
theorem ApL.to {lo lo2:Nat}{s t u:St}(a:ApL lo s t)(b:ApL lo2 t u)(h:lo<=lo2):ApL lo s u:=a.trans b h
def V1 (p:Nat)(st:St)(v:AV)(sv:List Int):Prop:=v=svV sv\/∃ c ex,v=.slice c 0 sv.length sv.length 1 ex/\Cl st c (sv.map (.int .i64))/\c<p
section
variable {p:Nat} {s t:St} {v:AV} {sv:List Int}
theorem V1.lend (h:V1 p s v sv):lend s.h v=some (svV sv):=by
 rcases h with rfl|⟨c,ex,rfl,C,_⟩
 ·exact GZ (by unfold svV;simp[pa,pc,zW])
 ·exact gI C (by simp) (zW _)
theorem V1.keep (h:V1 p s v sv){lo:Nat}(a:ApL lo s t)(hp:p<=lo):V1 p t v sv:=h.imp id λ⟨c,ex,e,C,hc⟩=>⟨c,ex,e,a.cl c _ om C,hc⟩
theorem V1.bar (h:V1 p s v sv):V1 p s.bare v sv:=h.imp id λ⟨c,ex,e,C,hc⟩=>⟨c,ex,e,⟨C.lt,C.row,C.len,C.cell⟩,hc⟩
theorem V1.len {K:AV->St->Prop}(h:V1 p s v sv)(st:St):jh (lenV v st) K=K (.int .i64 (sv.length:Int)) st:=by
 rcases h with rfl|⟨c,ex,rfl,_⟩<;>rfl
theorem V1.wr (h:V1 p s v sv){b:Nat}(hb:p<=b)(o:Nat)(vs:List AV):V1 p (Go.Sy.wr s b o vs) v sv:=h.imp id λ⟨c,ex,e,C,hc⟩=>⟨c,ex,e,C.wrO om o vs,hc⟩
theorem V1.nw (h:V1 p s v sv)(ds:List AV):V1 p (Go.Sy.nw s ds) v sv:=h.imp id λ⟨c,ex,e,C,hc⟩=>⟨c,ex,e,C.nw ds,hc⟩
theorem jnt {st s:St}{v u:AV}{K:AV->St->Prop}(F:FzD st.nx 9 s v u)(a:ApL st.nx st.bare s)(hK:∀ s',ApL st.nx st s'->K u s'):∃ u ks,fz 9 s.h v=some (u,ks)/\K u (back st (kills ks s)):=by
 obtain⟨ks,e,h⟩:=F;have hn:st.bare.nx=st.nx:=rfl;refine⟨u,ks,e,hK _ ⟨a.nx,rfl,λc hc hl=>?_⟩⟩;have e1:=Xp ks s.h c;rw[if_neg (λhm=>by have:=h c hm;omega)] at e1;exact e1.trans (a.hp c hc hl)
end
theorem jsC {lo hi n z n2 bytes:Nat}{s:St}{v x:AV}{cs cs2:List AV}(h:Lw lo hi s v n cs z)(h1:∀ k:Nat->ER,zA x k=k n2)(h2:∀ k:List AV->ER,firstCells s z n2 x k=k cs2)(hhi:hi<=s.nx)(hl:cs2.length=n2 * z)(hz:0<z)(hby:(n+n2) * bytes<=140737488355328)(h63:n+n2<=9223372036854775807) :
  ∃ v' s',(∀ K:AV->St->Prop,jh (Jc z bytes v x s) K=K v' s')/\Lw lo s'.nx s' v' (n+n2) (cs ++ cs2) z/\ApL lo s s':=by
 obtain⟨v',s',e,r1,r2⟩:=ju5 (bytes:=bytes) (n2:=n2) (cs2:=cs2) h hhi hl hz hby h63;refine⟨v',s',λK=>?_,r1,r2⟩;rw[<-e K];have e1:Qcy (QcA n2 z) (jO cs2)=true:=qu (by rw[jL];exact QaO hl.symm);have e2:yh cs2 (QcA n2 z)=cs2:=by rw[qK];exact(by rw[show QcA n2 z=cs2.length from hl.symm,Qaf])
 unfold Jc;rw[h1,h2];simp only[zA,firstCells,e1,cond_true,e2]
theorem V1.app {p b lo2:Nat}{s:St}{x:AV}{l:List Int}(h:V1 p s x l)(C:Cl s b [])(h1:lo2<=b)(hl:l.length<=1000000000000) :
  ∃ v' s',(∀ K:AV->St->Prop,jh (Jc 1 8 (.slice b 0 0 0 1 true) x s) K=K v' s')/\Lw lo2 s'.nx s' v' l.length (l.map (.int .i64)) 1/\ApL lo2 s s':=by
 have w:Lw lo2 s.nx s (.slice b 0 0 0 1 true) 0 [] 1:=⟨b,true,rfl,λ_=>rfl,rfl,C,h1,C.lt⟩;have done:(∀ k:Nat->ER,zA x k=k l.length)->(∀ k:List AV->ER,firstCells s 1 l.length x k=k (l.map (.int .i64)))->∃ v' s',(∀ K:AV->St->Prop,jh (Jc 1 8 (.slice b 0 0 0 1 true) x s) K=K v' s')/\Lw lo2 s'.nx s' v' l.length (l.map (.int .i64)) 1/\ApL lo2 s s':=λq1 q2=>by
  obtain⟨v',s',e,r1,r2⟩:=jsC (bytes:=8) w q1 q2 (τ _) (by simp) dc om om;rw[Qam,Qan] at r1;exact⟨v',s',e,r1,r2⟩
 rcases h with rfl|⟨c,ex,rfl,D,_⟩
 ·have e1:Qcy (QcA l.length 1) (jO (l.map (AV.int .i64)))=true:=qu (by rw[jL,Qah];exact QaO (QaI _));have e2:yh (l.map (AV.int .i64)) (QcA l.length 1)=l.map (AV.int .i64):=by rw[qK,show QcA l.length 1=(l.map (AV.int .i64)).length from by rw[Qah];exact QaI _,Qaf]
  exact done (λk=>rfl) λk=>by unfold svV;simp only[firstCells,e1,cond_true,e2]
 ·obtain⟨m',zl',zz',ks',hg'⟩:=D.row;have h4l:=D.len;rw[yG hg',Qah] at h4l;have e1:QcA l.length 1=l.length:=QaI _;have e7:Qcy (Qcz 0 l.length) m'=true:=qu (by show 0+l.length<=m';omega);have e8:jP zl' zz' ks' l.length 0=l.map (.int .i64):=by
   have h:=D.rats0 (Qah ..);rw[JW] at h;rw[qi,<-h];exact QaW λi _=>by rw[JG hg']
  exact done (λk=>rfl) λk=>by simp only[firstCells,hg',yl,jF,e1,e7,cond_true,e8]
theorem jfi (hb:NB base)(hC:CloneP base){sv:List Int}(hs:sv.length<=1000000000000){p:Nat}{st:St}{x:AV}(V:V1 p st x sv){K Kp:AV->St->Prop}(hK:∀ v s',OutV st.nx s' v sv->ApL st.nx st s'->K v s'):XB γ base 49 [x] st K Kp:=by
 by_cases h0:x=.lst 0 []
 ·have e:sv=[]:=by
   rcases V with h|⟨c,ex,h,_⟩
   ·rw[h0] at h;unfold svV at h;cases sv with
    |nil=>rfl
    |cons y ys=>cases h
   ·rw[h0] at h;cases h
  subst h0;have E:=Wa (P:=γ) (base:=base) (hC.zero st) K Kp;refine Eq.mpr E ?_;rw[uO];exact hK _ _ (.inl ⟨e,rfl⟩) (ApL.refl _ _)
 ·have hno:base.run 49 [x] st.bare=.no:=by
   rcases V with rfl|⟨c,ex,rfl,_⟩
   ·cases sv with
    |nil=>exact absurd rfl h0
    |cons y ys=>exact hC.more _ _ _
   ·exact hC.live _ _ _ _ _
  have hno2:base.run 49 [x] st=.no:=by
   rcases V with rfl|⟨c,ex,rfl,_⟩
   ·cases sv with
    |nil=>exact absurd rfl h0
    |cons y ys=>exact hC.more _ _ _
   ·exact hC.live _ _ _ _ _
  have N:∀ s,Xu γ .eql 30 true x .nils s=.ok (.bool false) s:=λs=>by
   rcases V with rfl|⟨c,ex,rfl,_⟩
   ·cases sv with
    |nil=>exact absurd rfl h0
    |cons y ys=>
     have:∀ (n:Nat) (cs:List AV),Xu γ .eql 30 true (.lst (n+1) cs) .nils s=.ok (.bool false) s:=λn cs=>by kernel_rfl
     exact this _ _
   ·kernel_rfl
  refine zH jtV (by rfl) ⟨hno2,hb.pur 49 0 dc⟩ ?_;simp only[jpw,jr,κ,μ,ν,ξ];have hbn:st.bare.nx=st.nx:=rfl;obtain⟨v',s',e,w,q⟩:=((V.bar).nw []).app (lo2:=st.nx) (Cl.new st.bare []) (τ _) hs;have e:∀ K:AV->St->Prop,jh (Jc 1 8 (.slice st.nx 0 0 0 1 true) x (nw st.bare [])) K=K v' s':=e;rw[(by unfold jj4;simp only[qq];rfl:jj4=_)];repeat'(first|apply jb<;>intro _|simp(disch:=first|exact dzG|fail) only[N,jbm,e,hbn,r8,δ,ε,ζ,η,θ])
  obtain⟨b,ex,rfl,hex,h3,C,h5,h6⟩:=w;refine hK _ _ (.inr ⟨b,ex,rfl,?_,h5⟩) ⟨?_,?_,λc hc hl=>?_⟩
  ·exact⟨C.lt,C.row,C.len,C.cell⟩
  ·have:=q.nx;rw[jg] at this;show st.nx<=s'.nx;have e0:st.bare.nx=st.nx:=rfl;omega
  ·rfl
  ·exact(q.hp c hc (by rw[jg];exact Nat.lt_succ_of_lt hl)).trans (q6 (Qbh hl))
theorem OutV.lend {lo:Nat}{s:St}{v:AV}{out:List Int}(h:OutV lo s v out):lend s.h v=some (svV out):=by
 rcases h with ⟨rfl,rfl⟩|⟨b,ex,rfl,C,_⟩
 ·exact GZ rfl
 ·exact gI C (by simp) (zW _)
theorem jen:∀ (l:List Int) (i:Nat) (n:Int),i<l.length->upd (l.map (AV.int .i64)) i [.int .i64 n]=(l.set i n).map (.int .i64)
 |x :: xs,0,n,_=>by simp[YZ,ZJ]
 |x :: xs,i+1,n,h=>by
  have:=jen xs i n (by simpa using h);simp only[κ,List.set_cons_succ,ZK,this]
structure ModB (m:ModT):Prop where
 vars:m.vars.length<=1000000
 moves:m.moves.length<=1000000
 acts:∀ v∈m.moves,v.acts.length<=1000000/\szE v.when<=BIG/\∀ a∈v.acts,szE a.to<=BIG
theorem jtv (mv:MoveT):((moE mv).drop 0).take 6=eE mv.when:=by
 unfold moE;rw[Qbg,List.take_left' (Jl _)]
theorem jrj {s:St}{b:Nat}{mv:MoveT}(C:Cl s b (moE mv)):rats s.h b 0 6=eE mv.when:=by
 rw[C.ratsP 6 0 (by rw[um];decide),jtv]
theorem jcr (s:St)(a:SetT):rats (Go.Sy.wr (Go.Sy.nw s [.int .i64 0,.int .i64 0,.int .i64 0,.str [],.nils,.int .i64 0,.int .i64 0]) s.nx 0 (seE a)).h s.nx 1 6=eE a.to:=by
 have C:Cl (Go.Sy.wr (Go.Sy.nw s [.int .i64 0,.int .i64 0,.int .i64 0,.str [],.nils,.int .i64 0,.int .i64 0]) s.nx 0 (seE a)) s.nx (seE a):=(Cl.new s _).wr0 (by rw[ZP];rfl);rw[C.ratsP 6 1 (by rw[ZP];decide)];unfold seE;rw[List.drop_one,List.tail_cons,<-Jl a.to,Qaf]
theorem ApL.bar {lo:Nat}{st s:St}(a:ApL lo st.bare s):ApL lo st.bare s.bare:=⟨a.nx,rfl,a.hp⟩
theorem FzD.nil0 {m d:Nat}{s:St}:FzD m (d+1) s .nils (svV []):=FzD.nils
set_option maxHeartbeats 8000000 in
theorem jsc (hb:NB base)(hC:CloneP base)(m:ModT)(hm:m.vars.length<=1000000)(mv:MoveT)(ha:mv.acts.length<=1000000)(hw:szE mv.when<=BIG)(hto:∀ a∈mv.acts,szE a.to<=BIG)(sv:List Int)(hs:sv.length<=1000000000000){st:St}{x:AV}(V:V1 st.nx st x sv){K Kp:AV->St->Prop}(hK:∀ s',ApL st.nx st s'->K (.tup [svV (J8 m.vars mv sv).1,.bool (J8 m.vars mv sv).2]) s') :
  XB γ base 45 [.agg (mdE m),.agg (moE mv),x] st K Kp:=by
 have hd:J8 m.vars mv sv=if yE sv mv.when=some 1 then(match WP sv mv.acts sv with|none=>([],false)|some t=>(t,qy m.vars t)) else([],false):=rfl
 have hbn:st.bare.nx=st.nx:=rfl;have fin:∀ {s:St} {v:AV} {q:Bool},ApL st.nx st.bare s->FzD st.nx 8 s v (svV (J8 m.vars mv sv).1)->q=(J8 m.vars mv sv).2->∃ u ks,fz 9 s.h (.tup [v,.bool q])=some (u,ks)/\K u (back st (kills ks s)):=λa f e=>by
  subst e;exact jnt (FzD.tup (.cons f (.cons (.pc rfl) .nil))) a hK
 have C0:Cl (nw (nw st.bare (mdE m)) (moE mv)) st.nx (mdE m):=(Cl.new st.bare (mdE m)).nw _;have C1:Cl (nw (nw st.bare (mdE m)) (moE mv)) (st.nx+1) (moE mv):=Cl.new (nw st.bare (mdE m)) (moE mv);have A0:ApL st.nx st.bare (nw (nw st.bare (mdE m)) (moE mv)):=((ApL.refl st.nx st.bare).nw2 _).nw2 _;have V0:V1 st.nx (nw (nw st.bare (mdE m)) (moE mv)) x sv:=(V.bar.nw _).nw _;have EH:=λK Kp=>(jpp hb sv om mv.when hw).xb (st:=nw (nw st.bare (mdE m)) (moE mv)) (aZ':=[.agg (eE mv.when),x]) (JO (by simp[pa,pc,q9]) (q8 V0.lend JE)) (λst=>hb.no 17 dc _ _) K Kp;have fW:=jrj C1;have n0:(nw (nw st.bare (mdE m)) (moE mv)).nx=st.nx+2:=rfl;refine Vc jtZ (by rfl) (hb.pur 45 2 dc) (hb.no 45 dc _ _) ?_;simp only[jpA,jr,κ,μ,ν,ξ];rw[(by unfold jj8;simp only[qq];rfl:jj8=_)];generalize hp:st.nx=p at *;by_cases h1:yE sv mv.when=some 1
 ·rw[h1] at EH;rw[if_pos h1] at hd;have EH:∀ K Kp,XB γ base 17 [.agg (eE mv.when),x] (nw (nw st.bare (mdE m)) (moE mv)) K Kp=K (.tup [.bool true,.bool true]) (nw (nw st.bare (mdE m)) (moE mv)):=by simpa[XP] using EH
  repeat'(first|apply jb<;>intro _|simp(disch:=first|exact dzG|fail) only[hbn,fW,EH,XP,r8,δ,ε,ζ,η,θ])
  refine jfi (sv:=sv) hb hC hs V0 λv u O q=>?_;have AU:=A0.to q om;have CU0:Cl u p (mdE m):=q.cl p _ (by rw[n0];omega) C0;have CU1:Cl u (p+1) (moE mv):=q.cl (p+1) _ (by rw[n0];omega) C1;have VU:=V0.keep q om;have n2:=q.nx;rw[n0] at O n2;clear fW EH q C0 C1 A0 V0
  (have zz:=aI @CU0.r @CU1.r;(repeat'(first|apply jb<;>intro _|simp(disch:=first|exact jZ|fail) only[hbn,CU0.q,CU1.q,CU0.r,CU1.r,r8,δ,ε,ζ,η,θ]));all_goals clear zz)
  refine jX mv.acts.length (λk L s=>(∃ out v,WP sv mv.acts sv=WP sv (mv.acts.drop k) out/\out.length=sv.length/\OutV (p+2) s v out/\Has L 10 v)/\ApL p st.bare s/\p+2<=s.nx/\Cl s p (mdE m)/\Cl s (p+1) (moE mv)/\V1 p s x sv/\Has L 2 x/\Has L 3 (.ptr p 0)/\Has L 4 (.ptr (p+1) 0)/\Has L 31 (.lst mv.acts.length (fl seE mv.acts))) ?_ (λk L s hk hI hi hn=>?_) (λL s hI=>?_)
  ·refine⟨⟨sv,v,rfl,rfl,O,?_⟩,AU,n2,CU0,CU1,VU,?_,?_,?_,?_⟩<;>exact hsX
  ·obtain⟨⟨out,v,h2,h3,O,i10⟩,AS,n2,C0,C1,VS,i2,i3,i4,i31⟩:=hI;have VS1:V1 p (Go.Sy.wr (Go.Sy.nw s [.int .i64 0,.int .i64 0,.int .i64 0,.str [],.nils,.int .i64 0,.int .i64 0]) s.nx 0 (seE mv.acts[k])) x sv:=(VS.nw _).wr om _ _;have AS1:ApL p st.bare (Go.Sy.wr (Go.Sy.nw s [.int .i64 0,.int .i64 0,.int .i64 0,.str [],.nils,.int .i64 0,.int .i64 0]) s.nx 0 (seE mv.acts[k])):=(AS.nw2 _).wr2 om _ _;have e:=λK Kp=>(jfs hb sv om mv.acts[k].to (hto _ (Qac hk))).xb (st:=Go.Sy.wr (Go.Sy.nw s [.int .i64 0,.int .i64 0,.int .i64 0,.str [],.nils,.int .i64 0,.int .i64 0]) s.nx 0 (seE mv.acts[k])) (aZ':=[.agg (eE mv.acts[k].to),x]) (JO (by simp[pa,pc,q9]) (q8 VS1.lend JE)) (λst=>hb.no 16 dc _ _) K Kp;have eL:=λ(t:St) (K:AV->St->Prop)=>VS.len (K:=K) t;have hdr:mv.acts.drop k=mv.acts[k] :: mv.acts.drop (k+1):=Qcf hk;rw[hdr,WP] at h2;simp only[XP] at e;cases hv:yE sv mv.acts[k].to with
   |none=>
    rw[hv] at h2 e;have e:∀ K Kp,XB γ base 16 [.agg (eE mv.acts[k].to),x] (Go.Sy.wr (Go.Sy.nw s [.int .i64 0,.int .i64 0,.int .i64 0,.str [],.nils,.int .i64 0,.int .i64 0]) s.nx 0 (seE mv.acts[k])) K Kp=K (.tup [.int .i64 0,.bool false]) (Go.Sy.wr (Go.Sy.nw s [.int .i64 0,.int .i64 0,.int .i64 0,.str [],.nils,.int .i64 0,.int .i64 0]) s.nx 0 (seE mv.acts[k])):=e;rw[h2] at hd
    (have zz:=aI C0.r C1.r;(repeat'(first|apply jb<;>intro _|simp(disch:=first|exact jZ|fail) only[ja i2,ja i3,ja i4,ja i10,ja i31,ja hi,ja hn,jcr,e,eL,C0.q,C1.q,C0.r,C1.r,r8,δ,ε,ζ,η,θ]));all_goals clear zz)
    all_goals first|exact fin AS1.bar (by rw[hd];exact FzD.nil0) (by rw[hd])|exact fin AS1 (by rw[hd];exact FzD.nil0) (by rw[hd])
   |some n=>
    rw[hv] at h2 e;have e:∀ K Kp,XB γ base 16 [.agg (eE mv.acts[k].to),x] (Go.Sy.wr (Go.Sy.nw s [.int .i64 0,.int .i64 0,.int .i64 0,.str [],.nils,.int .i64 0,.int .i64 0]) s.nx 0 (seE mv.acts[k])) K Kp=K (.tup [.int .i64 n,.bool true]) (Go.Sy.wr (Go.Sy.nw s [.int .i64 0,.int .i64 0,.int .i64 0,.str [],.nils,.int .i64 0,.int .i64 0]) s.nx 0 (seE mv.acts[k])):=e;dsimp only at h2;by_cases g:mv.acts[k].var<0\/(sv.length:Int)<=mv.acts[k].var
    ·rw[if_pos g] at h2;rw[h2] at hd
     (have zz:=aI C0.r C1.r;(repeat'(first|apply jb<;>intro _|simp(disch:=first|exact jZ|fail) only[ja i2,ja i3,ja i4,ja i10,ja i31,ja hi,ja hn,jcr,e,eL,C0.q,C1.q,C0.r,C1.r,r8,δ,ε,ζ,η,θ]));all_goals clear zz)
     all_goals first|exact fin AS1.bar (by rw[hd];exact FzD.nil0) (by rw[hd])|exact fin AS1 (by rw[hd];exact FzD.nil0) (by rw[hd])|(exfalso;omega)
    ·rw[if_neg g] at h2;have g1:¬ mv.acts[k].var<0:=λh=>g (.inl h);have g2:¬ (sv.length:Int)<=mv.acts[k].var:=λh=>g (.inr h);rcases O with ⟨rfl,_⟩|⟨b,ex,rfl,C,hb2⟩
     ·simp at h3;omega
     ·have hbn:=C.lt;have hlen:qv s.h b=out.length:=by rw[C.len,Qah]
      have hz:mv.acts[k].var.toNat+1<=out.length:=om
      have gx:mv.acts[k].var<(out.length:Int):=om
      have gx0:0<=mv.acts[k].var:=om
      (have zz:=aI C0.r (aI C1.r C.r);(repeat'(first|apply jb<;>intro _|simp(disch:=first|exact jZ|fail) only[ja i2,ja i3,ja i4,ja i10,ja i31,ja hi,ja hn,jcr,e,eL,g1,g2,gx,C0.q,C1.q,C.q,C0.r,C1.r,C.r,r8,δ,ε,ζ,η,θ]));all_goals clear zz)
      have hC2:Cl (Go.Sy.wr (Go.Sy.wr (Go.Sy.nw s [.int .i64 0,.int .i64 0,.int .i64 0,.str [],.nils,.int .i64 0,.int .i64 0]) s.nx 0 (seE mv.acts[k])) b mv.acts[k].var.toNat [.int .i64 n]) b ((out.set mv.acts[k].var.toNat n).map (.int .i64)):=by
       rw[<-jen _ _ _ om];exact((C.nw _).wrO om _ _).wr _ _
      refine⟨⟨⟨_,.slice b 0 out.length out.length 1 ex,h2,by simp[h3],.inr ⟨b,ex,by rw[List.length_set],hC2,hb2⟩,?_⟩,AS1.wr2 om _ _,?_,?_,?_,VS1.wr om _ _,?_,?_,?_,?_⟩,?_,?_⟩;all_goals first
       |(simp(disch:=decide) only[ji,ju,List.length_set];done)
       |(simp(disch:=decide) only[ji,List.length_set];assumption)
       |(simp only[jg,jj];omega)
       |exact((C0.nw _).wrO om _ _).wrO om _ _
       |exact((C1.nw _).wrO om _ _).wrO om _ _
       |omega
  ·obtain⟨⟨out,v,h2,h3,O,i10⟩,AS,n2,C0,C1,VS,i2,i3,i4,i31⟩:=hI;rw[QbG,WP] at h2;rw[h2] at hd;dsimp only at hd;have E25:=λK Kp=>(Kc hb m out hm om).xb (st:=s) (JO (by simp[pa,pc,J2]) (q8 O.lend JE)) (λst=>hb.no 25 dc _ _) K Kp;unfold mdE at E25
   (have zz:=aI C0.r C1.r;(repeat'(first|apply jb<;>intro _|simp(disch:=first|exact jZ|fail) only[ja i2,ja i3,ja i4,ja i10,E25,XP,C0.q,C1.q,C0.r,C1.r,r8,δ,ε,ζ,η,θ]));all_goals clear zz)
   first
    |exact fin AS.bar (by rw[hd];exact O.fz om) (by rw[hd])
    |exact fin AS (by rw[hd];exact O.fz om) (by rw[hd])
 ·have EH:∀ K Kp,XB γ base 17 [.agg (eE mv.when),x] (nw (nw st.bare (mdE m)) (moE mv)) K Kp=K (.tup [.bool false,.bool (yE sv mv.when).isSome]) (nw (nw st.bare (mdE m)) (moE mv)):=by simpa[XP,h1] using EH
  rw[if_neg h1] at hd;repeat'(first|apply jb<;>intro _|simp(disch:=first|exact dzG|fail) only[hbn,fW,EH,XP,r8,δ,ε,ζ,η,θ])
  all_goals first|exact fin A0.bar (by rw[hd];exact FzD.nil0) (by rw[hd])|exact fin A0 (by rw[hd];exact FzD.nil0) (by rw[hd])
abbrev SvT:=List Int
def svE (s:SvT):List AV:=[svV s]
theorem ub (s:SvT):(svE s).length=1:=nr rfl
theorem jm1 (s:SvT)(k:Nat):(svE s).getD k .bad=([svV s]:List AV).getD k .bad:=nr rfl
theorem jm3 (s:SvT)(k:Nat):(svE s).drop k=([svV s]:List AV).drop k:=nr rfl
theorem KY (s:SvT):(svE s).all pc=true:=by simp[svE,jhT]
theorem jfU (s:SvT):lall AV.cell (svE s)=true:=nr rfl
theorem jm2 {st:St}{K:AV->St->Prop}{xs:List SvT}{i:Nat}(h:i<xs.length):jh (zI 1 (.lptr (fl svE xs) (i * 1)) st) K=K (.agg (svE xs[i])) st:=Q9 ub h
theorem jhU {st:St}{K:AV->St->Prop}{xs:List SvT}{i:Nat}(h:i<xs.length){k:Nat}(hk:k<1):jh (yb (.lptr (fl svE xs) (i * 1+k)) st) K=K ((svE xs[i]).getD k .bad) st:=ye ub h hk
theorem jcb {st:St}{K:AV->St->Prop}{xs:List SvT}{i:Nat}(h:i<xs.length):jh (yb (.lptr (fl svE xs) (i * 1)) st) K=K ((svE xs[i]).getD 0 .bad) st:=ye (k:=0) ub h dc
theorem qb:type_of% (a4 @ub @jm1 @jm3 (a4 @jfU @jm2 @jcb @jhU)):=a4 @ub @jm1 @jm3 (a4 @jfU @jm2 @jcb @jhU)
theorem UK {ls:List SvT}{k:Nat}{st:St}{K:AV->St->Prop}(h:k<ls.length):jh (yb (.lptr (fl svE ls) k) st) K=K (svV ls[k]) st:=by
 have:=jcb (st:=st) (K:=K) h;rw[QaI] at this;exact this
theorem jr5 (hb:NB base)(a b:List Int)(ha:a.length<=1099511627776)(hb2:b.length<=1099511627776):Tot base 48 [svV a,svV b] (.bool (decide (a=b))):=hb.tot (jo0 hb a b ha hb2) rfl rfl
theorem r11:type_of%(a8 @jd @jf @je @jc @jk @jl @jn (a4 @jo @jm @qb @rzZ)):=a8 @jd @jf @je @jc @jk @jl @jn (a4 @jo @jm @qb @rzZ)
theorem jtu (hb:NB base)(a b:List Int)(ha:a.length<=1099511627776)(hb2:b.length<=1099511627776):Tot base 47 [svV a,.lptr [svV b] 0] (.bool (decide (a=b))):=by
 refine hb.tot ?_ (by unfold svV;simp[pa,pc,zW]) rfl;have e:=jr5 hb a b ha hb2;generalize svV a=va at *;generalize svV b=vb at *;refine jG jtX (by rfl) (hb.pur 47 1 dc) ?_;simp only[jpy,jr,κ,μ,ν,ξ];rw[(by unfold jj6;simp only[qq];rfl:jj6=_)];repeat'(first|apply jb<;>intro _|simp(disch:=first|exact dzG|fail) only[Jh,e,r11,δ,ε,ζ,η,θ])
 exact G0.v rfl rfl
theorem jtD (hb:NB base)(a b:List Int)(ha:a.length<=1099511627776)(hb2:b.length<=1099511627776):Tot base 51 [svV a,.lptr [svV b] 0] (.bool (decide (a=b))):=by
 refine hb.tot ?_ (by unfold svV;simp[pa,pc,zW]) rfl;have e:=jr5 hb a b ha hb2;generalize svV a=va at *;generalize svV b=vb at *;refine jG jtU (by rfl) (hb.pur 51 1 dc) ?_;simp only[jpv,jr,κ,μ,ν,ξ];rw[(by unfold jj3;simp only[qq];rfl:jj3=_)];repeat'(first|apply jb<;>intro _|simp(disch:=first|exact dzG|fail) only[Jh,e,r11,δ,ε,ζ,η,θ])
 exact G0.v rfl rfl
theorem jty (hb:NB base)(f:Nat)(ls:List SvT)(hl:ls.length<=BIG)(t:SvT)(hf:∀ x∈ls,Tot base f [svV x,.lptr [svV t] 0] (.bool (decide (x=t)))):PL γ base 63 [.lst ls.length (fl svE ls),.fn f [.lptr [svV t] 0]] (.ok (.int .i64 (fi (λx=>decide (x=t)) ls))):=by
 refine zg jtT (by rfl) (hb.pur 63 5 dc) rfl ?_;simp only[jpu,jr,κ,μ,ν,ξ];rw[(by unfold jj2;simp only[qq];rfl:jj2=_)];unfold BIG at hl;repeat'(first|apply jb<;>intro _|simp(disch:=first|exact dzG|fail) only[r11,δ,ε,ζ,η,θ])
 refine jX ls.length (λk L s=>(∀ j (hj:j<ls.length),j<k->(λx=>decide (x=t)) ls[j]=false)/\Has L 0 (.lst ls.length (fl svE ls))/\Has L 1 (.fn f [.lptr [svV t] 0])) ?_ (λk L s hk hI hi hn=>?_) (λL s hI=>?_)
 ·refine⟨λj _ hj=>absurd hj (Qay _),?_⟩;simp(disch:=decide) only[h12]
 ·obtain⟨h0,i0,i1⟩:=hI;have e:=hf ls[k] (Qac hk);repeat'(first|apply jb<;>intro _|simp(disch:=first|exact dzG|fail) only[ja i0,ja i1,ja hi,ja hn,UK,e,r11,δ,ε,ζ,η,θ])
  ·rename_i h;exact G0.v (congrArg _ (uD hk (λj hj=>h0 j om hj) (by simpa using h)).symm) rfl
  ·rename_i h;refine⟨⟨λj hj hjk=>?_,?_⟩,?_⟩
   ·rcases Qav j k with h2|h2
    ·have:=h0 j hj h2;simpa using this
    ·have:j=k:=om
     subst this;simpa using h
   ·simp(disch:=decide) only[h12,i0,i1]
   ·simp(disch:=decide) only[h12,hi,hn]
 ·obtain⟨h0,i0,i1⟩:=hI;repeat'(first|apply jb<;>intro _|simp(disch:=first|exact dzG|fail) only[r11,δ,ε,ζ,η,θ])
  exact G0.v (congrArg _ (uC λj hj=>h0 j hj hj).symm) rfl
theorem jjh {t:SvT}:∀ {ls:List SvT},decide (0<=fi (λx=>decide (x=t)) ls)=decide (t∈ls)
 |[]=>by simp[fi]
 |x :: xs=>by
  have ih:=jjh (t:=t) (ls:=xs);by_cases h:x=t
  ·simp[fi,h]
  ·have h2:t∈x :: xs↔t∈xs:=by simp[Ne.symm h]
   rw[decide_eq_decide] at ih ⊢;rw[h2,<-ih];have e:fi (λx=>decide (x=t)) (x :: xs)=if fi (λx=>decide (x=t)) xs<0 then -1 else fi (λx=>decide (x=t)) xs+1:=by simp[fi,h]
   rw[e];split<;>omega
theorem jtA (hb:NB base)(f:Nat)(ls:List SvT)(hl:ls.length<=BIG)(t:SvT)(hf:∀ x∈ls,Tot base f [svV x,.lptr [svV t] 0] (.bool (decide (x=t)))):PL γ base 46 [.lst ls.length (fl svE ls),.fn f [.lptr [svV t] 0]] (.ok (.bool (decide (t∈ls)))):=by
 refine zg jtY (by rfl) (hb.pur 46 5 dc) rfl ?_;simp only[jpz,jr,κ,μ,ν,ξ];rw[(by unfold jj7;simp only[qq];rfl:jj7=_)];have e:∀ (st:St) (K Kp:AV->St->Prop),XB γ base 63 [.lst ls.length (fl svE ls),.fn f [.lptr [svV t] 0]] st K Kp=_:=λst K Kp=>(jty hb f ls hl t hf).xb (JO (by simp[pa,pc,y7 KY]) (q8 rfl rfl)) (λst=>hb.no 63 dc _ _) K Kp;have:=jjh (ls:=ls) (t:=t);repeat'(first|apply jb<;>intro _|simp(disch:=first|exact dzG|fail) only[e,r11,δ,ε,ζ,η,θ])
 exact G0.v (congrArg AV.bool this) rfl
theorem HX {vars:List VarT}{sv:List Int}:∀ {xs ys:List MoveT} {out:List (List Int)},Jx vars sv (xs ++ ys) out=Jx vars sv ys (Jx vars sv xs out)
 |[],ys,out=>rfl
 |x :: xs,ys,out=>by rw[Qaj,Jx,Jx,HX]
theorem joG {vars:List VarT}{sv:List Int}{xs:List MoveT}{k:Nat}(hk:k<xs.length){out:List (List Int)}(h:Jx vars sv (xs.take k) []=out):Jx vars sv (xs.take (k+1)) []=if(J8 vars xs[k] sv).2=true/\(J8 vars xs[k] sv).1∉out then out ++ [(J8 vars xs[k] sv).1] else out:=by
 rw[yz hk,HX,h,Jx,Jx]
theorem jnG (hb:NB base)(f:Nat)(ls:List SvT)(hl:ls.length<=BIG)(t:SvT)(hf:∀ x∈ls,Tot base f [svV x,.lptr [svV t] 0] (.bool (decide (x=t)))){v:AV}{st:St}{q n:Nat}(hn:n=ls.length)(h:Lr st v n (fl svE ls))(C:Cl st q [svV t])(K Kp:AV->St->Prop) :
  XB γ base 46 [v,.fn f [.ptr q 0]] st K Kp=K (.bool (decide (t∈ls))) st:=by
 subst hn;refine(jtA hb f ls hl t hf).xb (q8 (h.lend (y7 KY ls)) (q8 ?_ JE)) (λst=>hb.no 46 dc _ _) K Kp;show(Qs st.h [.ptr q 0]).map (AV.fn f)=_;have:ZT st.h (.ptr q 0)=some (.lptr (svE t) 0):=vL C (Ug (KY t) (jfU t));simp only[Qs,this];rfl
theorem V1.up {p q:Nat}{s:St}{v:AV}{sv:List Int}(h:V1 p s v sv)(hq:p<=q):V1 q s v sv:=h.imp id λ⟨c,ex,e,C,hc⟩=>⟨c,ex,e,C,om⟩
theorem Lv.apl {lo hi lo2 n z:Nat}{s s':St}{v:AV}{cs:List AV}(h:Lv lo hi s v n cs z)(a:ApL lo2 s s')(hh:hi<=lo2):Lv lo hi s' v n cs z:=h.imp id λ⟨c,h1,h2,h3,h4,h5,h6⟩=>⟨c,h1,h2,h3,a.cl c _ om h4,h5,h6⟩
set_option maxHeartbeats 8000000 in
theorem jdS (hb:NB base)(hC:CloneP base)(m:ModT)(B:ModB m)(sv:SvT)(hs:sv.length<=1000000000000){st:St}{x:AV}(V:V1 st.nx st x sv){K Kp:AV->St->Prop}(hK:∀ s',ApL st.nx st s'->K (.lst (yg m sv).length (fl svE (yg m sv))) s'):XB γ base 27 [.agg (mdE m),x] st K Kp:=by
 have hm:=B.vars;have hmv:=B.moves;have hd:yg m sv=if qy m.vars sv=true then(if(Jx m.vars sv m.moves []).length=0 then [sv] else Jx m.vars sv m.moves []) else []:=rfl
 have hbn:st.bare.nx=st.nx:=rfl;have fin:∀ {s:St} {v:AV},ApL st.nx st.bare s->FzD st.nx 9 s v (.lst (yg m sv).length (fl svE (yg m sv)))->∃ u ks,fz 9 s.h v=some (u,ks)/\K u (back st (kills ks s)):=λa f=>jnt f a hK;have C0:Cl (nw st.bare (mdE m)) st.nx (mdE m):=Cl.new st.bare (mdE m);have A0:ApL st.nx st.bare (nw st.bare (mdE m)):=(ApL.refl st.nx st.bare).nw2 _;have V0:V1 st.nx (nw st.bare (mdE m)) x sv:=V.bar.nw _;have E25:=λK Kp=>(Kc hb m sv hm om).xb (st:=nw st.bare (mdE m)) (aZ':=[.agg (mdE m),x]) (JO (by simp[pa,pc,J2]) (q8 V0.lend JE)) (λst=>hb.no 25 dc _ _) K Kp;have n0:(nw st.bare (mdE m)).nx=st.nx+1:=rfl;refine Vc jt4 (by rfl) (hb.pur 27 2 dc) (hb.no 27 dc _ _) ?_;simp only[jpF,jr,κ,μ,ν,ξ];rw[(by unfold jkd;simp only[qq];rfl:jkd=_)];generalize hp:st.nx=p at *;cases hr:qy m.vars sv with
 |false=>
  rw[hr] at E25 hd;rw[if_neg dc] at hd;repeat'(first|apply jb<;>intro _|simp(disch:=first|exact dzG|fail) only[hbn,E25,XP,r11,δ,ε,ζ,η,θ])
  all_goals exact fin (by assumption) (by rw[hd];exact FzD.nils)
 |true=>
  rw[hr] at E25 hd;rw[if_pos rfl] at hd;repeat'(first|apply jb<;>intro _|simp(disch:=first|exact dzG|fail) only[hbn,E25,XP,r11,δ,ε,ζ,η,θ])
  refine jX m.moves.length (λk L s=>(∃ out v,Jx m.vars sv (m.moves.take k) []=out/\out.length<=k/\Lv (p+1) s.nx s v out.length (fl svE out) 1/\Has L 5 v)/\ApL p st.bare s/\p+1<=s.nx/\Cl s p (mdE m)/\V1 p s x sv/\Has L 1 x/\Has L 2 (.ptr p 0)/\Has L 15 (.lst m.moves.length (fl moE m.moves))) ?_ (λk L s hk hI hi hn=>?_) (λL s hI=>?_)
  ·refine⟨⟨[],.nils,rfl,τ _,Lv.nil,?_⟩,A0,om,C0,V0,?_,?_,?_⟩<;>exact hsX
  ·obtain⟨⟨out,v,h1,h2,VL,i5⟩,AS,n1,CS,VS,i1,i2,i15⟩:=hI;have b:=B.acts m.moves[k] (Qac hk);have hS:=joG hk h1;have hR:(J8 m.vars m.moves[k] sv).2=true->qy m.vars (J8 m.vars m.moves[k] sv).1=true:=λh=>wU (mv:=m.moves[k]) (s:=sv) (by rw[<-h]);have hO:∀ x∈out,x.length=m.vars.length:=λx hx=>by
    rw[<-h1] at hx;rcases uk hx with h|⟨w,_,e⟩
    · cases h
    · exact(qW.1 (wU e)).1
   obtain⟨u,hu⟩:∃ u,u=Go.Sy.wr (Go.Sy.nw s [AV.int IntKind.i64 0,AV.int IntKind.i64 0,AV.str [],AV.nils,AV.int IntKind.i64 0,AV.int IntKind.i64 0,AV.nils]) s.nx 0 (moE m.moves[k]):=⟨_,rfl⟩;have un:u.nx=s.nx+1:=by rw[hu];rfl
   have AU:ApL p st.bare u:=by rw[hu];exact(AS.nw2 _).wr2 om _ _
   have CU:Cl u p (mdE m):=by rw[hu];exact(CS.nw _).wrO om _ _
   have VU:V1 p u x sv:=by rw[hu];exact(VS.nw _).wr om _ _
   have LU:Lv (p+1) s.nx u v out.length (fl svE out) 1:=by
    rw[hu];simp(disch:=first|omega|(simp only[jg,jj];omega)) only[jE,jA];exact VL
   (have zz:=@CS.r;(repeat'(first|apply jb<;>intro _|simp(disch:=first|exact jZ|fail) only[ja i1,ja i2,ja i5,ja i15,ja hi,ja hn,CS.q,CS.r,r11,δ,ε,ζ,η,θ]));all_goals clear zz)
   rw[<-hu];clear hu;refine jsc hb hC m hm m.moves[k] b.1 b.2.1 b.2.2 sv hs (VU.up om) λu2 a=>?_;have n2:=a.nx;have A2:ApL p st.bare u2:=AU.to a om;have C2:Cl u2 p (mdE m):=a.cl p _ om CU;have V2:=VU.keep a om;have L2:=LU.apl a om;obtain⟨p2,hp2⟩:∃ p2,p2=s.nx:=⟨_,rfl⟩;rw[<-hp2] at L2;clear AU CU VU LU AS CS VS VL a;generalize J8 m.vars m.moves[k] sv=d at hS hR;obtain⟨t,q⟩:=d;dsimp only at hS hR;have tp:(svV t).plain=true:=rfl;have tcl:(svV t).cells.length=1:=rfl;have tc:(svV t).cells=[svV t]:=rfl;have tl:lall AV.cell [svV t]=true:=rfl;have tl':lall AV.cell (svV t).cells=true:=rfl;obtain⟨S,hSt⟩:∃ S,S=Go.Sy.wr (Go.Sy.nw u2 [AV.nils]) u2.nx 0 [svV t]:=⟨_,rfl⟩;have VS:Lv (p+1) p2 S v out.length (fl svE out) 1:=by
    rw[hSt];simp(disch:=first|omega|(simp only[jg,jj];omega)) only[jE,jA];exact L2
   have AS:ApL p st.bare S:=by rw[hSt];exact(A2.nw2 _).wr2 om _ _
   have CS:Cl S p (mdE m):=by rw[hSt];exact(C2.nw _).wrO om _ _
   have US:V1 p S x sv:=by rw[hSt];exact(V2.nw _).wr om _ _
   have CX:Cl S u2.nx [svV t]:=by
    rw[hSt];exact(Cl.new u2 [AV.nils]).wr0 rfl
   have nS:S.nx=u2.nx+1:=by rw[hSt];rfl
   cases q with
   |false=>
    rw[if_neg (by simp)] at hS;repeat'(first|apply jb<;>intro _|simp(disch:=first|exact dzG|fail) only[ja i1,ja i2,ja i5,ja i15,ja hi,ja hn,tc,r11,δ,ε,ζ,η,θ])
    rw[<-hSt];refine⟨⟨⟨out,v,hS,om,VS.up om,?_⟩,AS,om,CS,US,?_,?_,?_⟩,?_,?_⟩<;>exact hsX
   |true=>
    have ht:=(qW.1 (hR rfl)).1;repeat'(first|apply jb<;>intro _|simp(disch:=first|exact dzG|fail) only[ja i1,ja i2,ja i5,ja i15,ja hi,ja hn,tc,r11,δ,ε,ζ,η,θ])
    rw[<-hSt];clear hSt;refine Eq.mpr (jnG hb 47 out (by unfold BIG;omega) t (λx hx=>jtu hb x t (by have:=hO x hx;omega) om) rfl VS.lr CX _ _) ?_;have A:=λst bv xc xx K h hv=>@JT (p+1) p2 out.length 1 st v (fl svE out) K 24 bv xc xx h dc om om hv;by_cases hin:t∈out
    · rw[if_neg (λh=>h.2 hin)] at hS;rw[decide_eq_true hin];repeat'(first|apply jb<;>intro _|simp(disch:=first|exact dzG|fail) only[ja i1,ja i2,ja i5,ja i15,ja hi,ja hn,r11,δ,ε,ζ,η,θ])
      refine⟨⟨⟨out,v,hS,om,VS.up om,?_⟩,AS,om,CS,US,?_,?_,?_⟩,?_,?_⟩<;>exact hsX
    · rw[if_pos ⟨rfl,hin⟩] at hS;rw[decide_eq_false hin];have hX:rat S.h u2.nx 0=svV t:=CX.cell 0 (by simp)
      (have zz:=a4 @VS @jE @jA @CX.r;(repeat'(first|apply jb<;>intro _|simp(disch:=first|exact jZ|fail) only[ja i1,ja i2,ja i5,ja i15,ja hi,ja hn,hX,tc,A,CX.q,VS,jE,jA,CX.r,r11,δ,ε,ζ,η,θ]));all_goals clear zz)
      have VN:Lv (p+1) p2 (Go.Sy.nw S [svV t]) v out.length (fl svE out) 1:=by
       simp(disch:=omega) only[jE];exact VS
      have V3:=VN.put (news:=[svV t]) rfl (by rw[jg];omega) (m:=S.nx+1+1) (by rw[jg]);have e3:fl svE (out ++ [t])=fl svE out ++ [svV t]:=by rw[Q1,J5];rfl
      have AN:ApL p st.bare (aps v (Go.Sy.nw S [svV t]) [svV t]):=⟨by rw[jq,jg];have:=AS.nx;omega,by rw[Ze];exact AS.fr,λc hc hl=>(VN.get _ _ c (.inl om) (by rw[jg];have:=AS.nx;omega)).trans ((q6 (by have:=AS.nx;omega)).trans (AS.hp c hc hl))⟩;have UN:V1 p (aps v (Go.Sy.nw S [svV t]) [svV t]) x sv:=US.imp id λ⟨c,ex,e,C,hc⟩=>⟨c,ex,e,(C.nw _).aps VN (.inl om),hc⟩;refine⟨⟨⟨out ++ [t],apv 1 v (Go.Sy.nw S [svV t]),hS,by simp;omega,?_,?_⟩,AN,?_,(CS.nw _).aps VN (.inl om),UN,?_,?_,?_⟩,?_,?_⟩;all_goals first
       |(rw[e3,υ];exact V3)
       |(simp(disch:=decide) only[ji,ju];done)
       |(simp(disch:=decide) only[ji];assumption)
       |omega
  ·obtain⟨⟨out,v,h1,h2,VL,i5⟩,AS,n1,CS,VS,i1,i2,i15⟩:=hI;rw[Qaf] at h1;rw[h1] at hd;rcases VL with ⟨rfl,h0,_⟩|⟨b,rfl,h0,_,C,hb1,hb2⟩
   ·rw[if_pos h0] at hd;repeat'(first|apply jb<;>intro _|simp(disch:=first|exact dzG|fail) only[ja i1,ja i2,ja i5,r11,δ,ε,ζ,η,θ])
    refine jfi (sv:=sv) hb hC hs VS λw u O q=>?_;have AU:=AS.to q om;have wp:w.plain=true/\w.cells=[w]/\lall AV.cell [w]=true:=by
      rcases O with ⟨_,rfl⟩|⟨b,ex,rfl,_⟩<;>exact⟨rfl,rfl,rfl⟩
    obtain⟨wp,wc,wl⟩:=wp;have wcl:w.cells.length=1:=by rw[wc];rfl
    have A:=λst bv xc xx K hv=>@JT 1 u.nx 0 1 st .nils [] K 24 bv xc xx Lv.nil dc dc dc hv;have un:=q.nx;repeat'(first|apply jb<;>intro _|simp(disch:=first|exact dzG|fail) only[A,wc,r11,δ,ε,ζ,η,θ])
    have C3:Cl (aps AV.nils (Go.Sy.nw u [w]) [w]) (Go.Sy.nw u [w]).nx [w]:=Cl.new (Go.Sy.nw u [w]) [w];have AE:ApL p st.bare (aps AV.nils (Go.Sy.nw u [w]) [w]):=(AU.nw2 _).nw2 _;have O2:OutV s.nx (aps AV.nils (Go.Sy.nw u [w]) [w]) w sv:=(O.nwO [w]).nwO [w];have F:FzD p 9 (aps AV.nils (Go.Sy.nw u [w]) [w]) (apv 1 AV.nils (Go.Sy.nw u [w])) (.lst 1 [svV sv]):=by
      refine FzD.slice C3.rw_ (by simp) (by rw[jg];omega) ?_;exact FzsD.cons (O2.fz om) .nil
    first
      |exact fin AE.bar (by rw[hd];exact F)
      |exact fin AE (by rw[hd];exact F)
   ·have h0':¬ (out.length:Int)=0:=om
    rw[if_neg om] at hd;repeat'(first|apply jb<;>intro _|simp(disch:=first|exact dzG|fail) only[ja i1,ja i2,ja i5,h0',r11,δ,ε,ζ,η,θ])
    have F:FzD p 9 s (.slice b 0 out.length out.length 1 false) (.lst (yg m sv).length (fl svE (yg m sv))):=by
     rw[hd];refine FzD.slice C.rw_ (by rw[Jk ub];exact τ _) om ?_;rw[<-Jk ub,Qaf];exact FzsD.pc (y7 KY _)
    first
      |exact fin AS.bar F
      |exact fin AS F
theorem HV {m:ModT}{sv x:SvT}(h:x∈yg m sv):x.length=m.vars.length:=by
 unfold yg at h;split at h
 ·rename_i hr;split at h
  ·simp only[QaK] at h;rw[h];exact(qW.1 hr).1
  ·rcases uk h with h|⟨w,_,e⟩
   ·cases h
   ·exact(qW.1 (wU e)).1
 ·cases h
theorem V7 {m:ModT}{sv:SvT}:(yg m sv).length<=m.moves.length+1:=by
 unfold yg;split
 ·split
  ·simp
  ·have:=@HW m.vars sv m.moves [];simp at this;omega
 ·simp
set_option maxHeartbeats 4000000 in
theorem jj0 (hb:NB base)(hC:CloneP base)(m:ModT)(B:ModB m)(sv t:SvT)(hs:sv.length<=1000000000000)(ht:t.length<=1000000000000):Tot base 30 [.agg (mdE m),svV sv,svV t] (.bool (decide (t∈yg m sv))):=by
 refine hb.tot ?_ (by unfold svV;simp[pa,pc,J2,zW]) rfl;have hm:=B.vars;have hmv:=B.moves;have hf:=@V7 m sv;have tp:(svV t).plain=true:=rfl;have tcl:(svV t).cells.length=1:=rfl;have tc:(svV t).cells=[svV t]:=rfl;have tl:lall AV.cell [svV t]=true:=rfl;have tl':lall AV.cell (svV t).cells=true:=rfl;have H:=λ(st:St) q C K Kp=>jnG hb 51 (yg m sv) (by unfold BIG;omega) t (λx hx=>jtD hb x t (by have:=HV hx;omega) om) (v:=.lst (yg m sv).length (fl svE (yg m sv))) (st:=st) (q:=q) rfl (.inl rfl) C K Kp;have f1:(nw st0 (mdE m)).nx=1:=rfl;have CX:=Cl.new (nw st0 (mdE m)) [svV t];rw[f1] at CX;have n2:(nw (nw st0 (mdE m)) [svV t]).nx=2:=rfl;generalize svV t=vt at *;obtain⟨vs,hvs⟩:∃ vs,vs=svV sv:=⟨_,rfl⟩;rw[<-hvs];refine jG jt2 (by rfl) (hb.pur 30 1 dc) ?_;simp only[jpD,jr,κ,μ,ν,ξ];rw[(by unfold jkb;simp only[qq];rfl:jkb=_)];repeat'(first|apply jb<;>intro _|simp(disch:=first|exact dzG|fail) only[tc,r11,δ,ε,ζ,η,θ])
 refine jdS hb hC m B sv hs (.inl hvs) λs' a=>?_;have H1:=H s' 1 (a.cl 1 _ (by rw[n2];decide) CX);repeat'(first|apply jb<;>intro _|simp(disch:=first|exact dzG|fail) only[H1,r11,δ,ε,ζ,η,θ])
 all_goals exact G0.v rfl rfl
set_option maxHeartbeats 4000000 in
theorem joZ (hb:NB base)(a b:List Int)(ha:a.length<=1099511627776)(hb2:b.length<=1099511627776):PX γ base 29 [svV a,svV b] (.ok (.bool (decide (a=b)))):=by
 unfold svV;have hl:((a.length:Int)=(b.length:Int))=(a.length=b.length):=by rw[eq_iff_iff];omega
 refine jG jt3 (by rfl) (hb.pur 29 1 dc) ?_;simp only[jpE,jr,κ,μ,ν,ξ];rw[(by unfold jkc;simp only[qq];rfl:jkc=_)];repeat'(first|apply jb<;>intro _|simp(disch:=first|exact dzG|fail) only[hl,r11,δ,ε,ζ,η,θ])
 ·rename_i h;exact G0.v (congrArg AV.bool (decide_eq_false λk=>h (by rw[k])).symm) rfl
 ·rename_i h;have h:a.length=b.length:=by simpa using h
  refine jX a.length (λk L st=>(∀ j (h1:j<a.length) (h2:j<b.length),j<k->a[j]=b[j])/\Has L 0 (.lst a.length (a.map (.int .i64)))/\Has L 1 (.lst b.length (b.map (.int .i64)))) ?_ (λk L s hk hI hi hn=>?_) (λL s hI=>?_)
  ·refine⟨λj h1 h2 hj=>absurd hj (Qay _),?_,?_⟩<;>exact hsX
  ·obtain⟨h0,i0,i1⟩:=hI;have hks:k<b.length:=om
   repeat'(first|apply jb<;>intro _|simp(disch:=first|exact dzG|fail) only[ja i0,ja i1,ja hi,ja hn,Xh,r11,δ,ε,ζ,η,θ])
   ·rename_i h3;exact G0.v (congrArg AV.bool (decide_eq_false λw=>h3 (by subst w;rfl)).symm) rfl
   ·rename_i h3;refine⟨⟨λj h1 h2 hj=>?_,?_,?_⟩,?_,?_⟩
    ·by_cases e:j=k
     ·subst e;simpa using h3
     ·exact h0 j h1 h2 om
    all_goals exact hsX
  ·obtain⟨h0,i0,i1⟩:=hI;repeat'(first|apply jb<;>intro _|simp(disch:=first|exact dzG|fail) only[r11,δ,ε,ζ,η,θ])
   exact G0.v (congrArg AV.bool (decide_eq_true (Qbq h λi h1 h2=>h0 i h1 h2 h1)).symm) rfl
theorem jtE (hb:NB base)(a b:List Int)(ha:a.length<=1099511627776)(hb2:b.length<=1099511627776):Tot base 29 [svV a,svV b] (.bool (decide (a=b))):=hb.tot (joZ hb a b ha hb2) rfl rfl
theorem jpr (hb:NB base)(ls:List SvT)(hl:ls.length<=BIG)(t:SvT)(ht:t.length<=1099511627776)(hx:∀ x∈ls,x.length<=1099511627776):PL γ base 32 [.lst ls.length (fl svE ls),svV t] (.ok (.bool (decide (t∈ls)))):=by
 unfold BIG at hl;obtain⟨vt,hvt⟩:∃ vt,vt=svV t:=⟨_,rfl⟩;rw[<-hvt];refine zg jt1 (by rfl) (hb.pur 32 5 dc) rfl ?_;simp only[jpC,jr,κ,μ,ν,ξ];rw[(by unfold jka;simp only[qq];rfl:jka=_)];repeat'(first|apply jb<;>intro _|simp(disch:=first|exact dzG|fail) only[r11,δ,ε,ζ,η,θ])
 refine jX ls.length (λk L s=>(∀ j (hj:j<ls.length),j<k->ls[j]≠t)/\Has L 1 vt/\Has L 7 (.lst ls.length (fl svE ls))) ?_ (λk L s hk hI hi hn=>?_) (λL s hI=>?_)
 ·refine⟨λj _ hj=>absurd hj (Qay _),?_⟩;simp(disch:=decide) only[h12]
 ·obtain⟨h0,i1,i7⟩:=hI;have e:=jtE hb ls[k] t (hx _ (Qac hk)) ht;rw[<-hvt] at e;repeat'(first|apply jb<;>intro _|simp(disch:=first|exact dzG|fail) only[ja i1,ja i7,ja hi,ja hn,UK,<-hvt,e,r11,δ,ε,ζ,η,θ])
  ·rename_i h;exact G0.v (congrArg AV.bool (decide_eq_true (h▸Qac hk)).symm) rfl
  ·rename_i h;refine⟨⟨λj hj hjk=>?_,?_,?_⟩,?_,?_⟩
   ·by_cases e:j=k
    ·subst e;exact h
    ·exact h0 j hj om
   all_goals exact hsX
 ·obtain⟨h0,i1,i7⟩:=hI;repeat'(first|apply jb<;>intro _|simp(disch:=first|exact dzG|fail) only[r11,δ,ε,ζ,η,θ])
  refine G0.v (congrArg AV.bool (decide_eq_false λh=>?_).symm) rfl;obtain⟨j,hj,e⟩:=Qbd.1 h;exact h0 j hj hj e
theorem jpq (hb:NB base)(ls:List SvT)(hl:ls.length<=BIG)(t:SvT)(ht:t.length<=1099511627776)(hx:∀ x∈ls,x.length<=1099511627776):Tot base 32 [.lst ls.length (fl svE ls),svV t] (.bool (decide (t∈ls))):=λst K Kp=>(jpr hb ls hl t ht hx).pa (by unfold svV;simp[pa,pc,zW,y7 KY]) (λst=>hb.no 32 dc _ _) st K Kp
theorem jtq:Go.Ev.isAgg γ 35=some true:=by kernel_rfl
theorem jtp:Go.Ev.sizeOf γ 35=some 3:=by kernel_rfl
theorem jtr {b:Nat}{m:ModT}{h:T AO}(ho:3<=qv h b)(hv:rats h b 0 3=mdE m):(jY γ 35 (.ptr b 0) (.agg (mdE m)) h=true)=True:=eq_true (Y5 jtq jtp dc om hv rfl)
theorem ja1 {s:St}{m:ModT}{c:List AV}{q p:Bool}(h:FzsD 0 7 s c (mdE m))(h2:q=p):G0 (.tup [.agg (mdE m),.bool p]) (.tup [.agg c,.bool q]) s:=by
 subst h2;exact FzD.tup (.cons (.agg h) (.cons (.pc rfl) .nil))
theorem jiF {s:St}:FzsD 0 7 s [.nils,.nils,.nils] (mdE md0):=.cons .nils (.cons .nils (.cons .nils .nil))
set_option maxHeartbeats 8000000 in
theorem jri (hb:NB base)(hP:PI base)(src:SrcT)(wr:WrS src):Tot base 10 [.agg (srE src)] (.tup [.agg (mdE (Qh src).1),.bool (Qh src).2]):=by
 refine hb.tot ?_ (by simp[pa,K1]) rfl;have E35:=jjV hb src wr;unfold jfS at E35;have hd:Qh src=match Qc src with|none=>(md0,false)|some t=>if 5000<t.length then(md0,false) else((zn t [116,114,117,101]).m,decide ((zn t [116,114,117,101]).c=0/\(zn t [116,114,117,101]).l=0/\(zn t [116,114,117,101]).k=0) && decide (JF (zn t [116,114,117,101]).m.vars<=300)):=rfl
 refine jG jub (by rfl) (hb.pur 10 1 dc) ?_;simp only[jpM,jr,κ,μ,ν,ξ];rw[(by unfold jkk;simp only[qq];rfl:jkk=_)];cases hs:Qc src with
 |none=>
  rw[hs] at E35 hd;have E35:Tot base 35 [.agg (srE src)] (.tup [.str [],.int .i64 141]):=E35;dsimp only at hd;rw[hd];repeat'(first|apply jb<;>intro _|simp(disch:=first|exact dzG|fail) only[E35,r11,δ,ε,ζ,η,θ])
  all_goals exact ja1 jiF rfl
 |some t=>
  rw[hs] at E35 hd;have E35:Tot base 35 [.agg (srE src)] (.tup [.str t,.int .i64 0]):=E35;dsimp only at hd;by_cases h5:5000<t.length
  ·have h5':(5000:Int)<(t.length:Int):=om
   rw[if_pos h5] at hd;rw[hd];repeat'(first|apply jb<;>intro _|simp(disch:=first|exact dzG|fail) only[E35,h5',r11,δ,ε,ζ,η,θ])
   all_goals exact ja1 jiF rfl
  ·have h5':¬ (5000:Int)<(t.length:Int):=om
   rw[if_neg h5] at hd;rw[hd];have E34:=jsL hb hP t [116,114,117,101] om dc;have ok:=λh=>jcp (l:=t) (f:=[116,114,117,101]) h;unfold KV at E34;generalize zn t [116,114,117,101]=r at E34 ok;obtain⟨m,x,c,l,k⟩:=r;dsimp only at E34 ok ⊢;have E34:Tot base 34 [.str t,.str [116,114,117,101]] (.tup [.agg (mdE m),.agg (eE x),.agg [.int .i64 c,.int .i64 l,.int .i64 k]]):=E34;by_cases hz:c=0/\l=0/\k=0
   ·have V:=(ok hz.1).1;have E36:=λst K Kp=>(jcd hb m.vars V.len m.enums.length m.moves.length (fl enE m.enums) (fl moE m.moves)).pa (by simp[pa,pc]) (λst=>hb.no 36 dc _ _) st K Kp;rw[decide_eq_true hz,Bool.true_and];have E36:∀ (st:St) (K Kp:AV->St->Prop),XB γ base 36 [.agg (mdE m)] st K Kp=K (.int .i64 (JF m.vars)) st:=E36;have f2:(nw (nw st0 (srE src)) [AV.nils,AV.nils,AV.nils]).nx=2:=rfl;have CX:=((((((f2▸Cl.new (nw (nw st0 (srE src)) [AV.nils,AV.nils,AV.nils]) [AV.nils,AV.nils,AV.nils]:Cl (nw (nw (nw st0 (srE src)) [AV.nils,AV.nils,AV.nils]) [AV.nils,AV.nils,AV.nils]) 2 [AV.nils,AV.nils,AV.nils]).nw [AV.int .i64 0,AV.int .i64 0,AV.str [],AV.nils,AV.int .i64 0,AV.int .i64 0]).nw [AV.int .i64 0,AV.int .i64 0,AV.int .i64 0]).wr0 (c':=mdE m) rfl).wrO (c:=3) dc 0 (eE x)).wrO (c:=4) dc 0 [AV.int .i64 0,AV.int .i64 0,AV.int .i64 0]);have sm:=jtr (by rw[CX.len];exact τ 3) (CX.rats0 rfl);obtain⟨rfl,rfl,rfl⟩:=hz;repeat'(first|apply jb<;>intro _|simp(disch:=first|exact dzG|fail) only[E35,h5',E34,jmW,jmV,jmU,fEq,E36,sm,r11,δ,ε,ζ,η,θ])
    all_goals exact ja1 (FzsD.pc (J2 m)) rfl
   ·rw[decide_eq_false hz,Bool.false_and];repeat'(first|apply jb<;>intro _|simp(disch:=first|exact dzG|fail) only[E35,h5',E34,jmW,jmV,jmU,fEq,hz,r11,δ,ε,ζ,η,θ])
    all_goals exact ja1 (FzsD.pc (J2 m)) rfl
def zs8:XC:=(Og (T4 1 2) [Iq 16 9 [],OW 17 16] 17 Ll (Og [T1 19 1,Oy 20 10 19,oz 18 20,Tx 21 18,Ty 22 18,o9 3 [.nils,.nils,.nils],o6 3 3 21,TM 22] [TZ 23,OW 24 23] 24 [Tb 2] (ov [T1 26 3,OB 27 21 26 (IT 300),oz 25 27,Tx 28 25,Ty 29 25,oy 5 28,oy 6 29] (Og [T1 31 3,OB 32 23 31 (IT 300),oz 30 32,Tx 33 30,Ty 34 30,oy 7 33,oy 8 34] [T0 35,TN 36 35,oz 37 36,II 38 37 8,TT 39 37 38,Td 40 37 39,oz 41 40,II 42 41 7,TR 43 41 42,II 44 41 5,TR 45 41 44,Ig 46 41 (.bin .lss 43 45),Lf 47 41 46] 47 Ll (OY (Oe [oy 48 7,IQ 49 48,I3 50] 0 (To 51 50 49) 51 0 1 (Og [oz 52 50,Lk 53 48 50,oI 54 53,oy 9 52,oy 10 54] [T1 55 3,oz 56 10,OB 57 26 55 56,oz 58 9,Ld 59,I5 60 59,IX 61 .lss 58 60,ow 62 (TQ .neq 4 57 61)] 62 Ll (oY [oz 63 9,Ld 64,I5 65 64,IX 66 .lss 63 65,oy 11 66] (T8 [oz 67 7,oz 68 9,ow 69 (.slS 1 67 none (some 68)),IQ 70 69,I3 71] 2 72 71 70 72 2 3 [Lk 73 69 71,oI 74 73,oy 13 74] (.ops [oz 75 11,oz 76 75,O1 77 76 3 3,II 78 76 13,II 79 76 10,Li 80 76 30 [77,78,79],Td 81 76 80,oy 11 81]) 82 71 71 82) (Lb [oz 83 11,OW 84 83] 84 Ll (T8 [T1 85 3,oz 86 10,T6 87 (oR 27 []) [85,86],IQ 88 87,I3 89] 4 90 89 88 90 4 5 [Lk 91 87 89,oI 92 91,oy 15 92] (Iz [oz 93 7,oz 94 15,OB 95 32 93 94,OW 96 95] 96 Ll) 97 89 89 97)))) 98 50 1 50 98) [Tb 2])))))
def ys8:XF:=⟨[0],zs8,[(.t 2)]⟩
theorem xs8:jy γ 8=some ys8:=by kernel_rfl
def jkh:XC:=(ov [TU 2,O6 4,Om 5] (oY [TJ 15 0 oB [],Ln 16 1 [((0,1),15)],oy 6 16] (T8 [OP 17 2,Oi 18 17,IQ 19 18,I3 20] 0 21 20 19 21 0 1 [Il 22 7 18 20,oV 23 7 22,o9 8 [oK,oB,oK,oB,oB,Tl,oB],o6 7 8 23] (ov [O6 9] (oY [oV 25 7 8,Oy 26 43 25,oz 24 26,Tx 27 24,Ty 28 24,oy 10 27,oy 11 28] (T8 [oy 29 6,IQ 30 29,I3 31] 2 32 31 30 32 2 3 [Lk 33 29 31,oI 34 33,oy 13 34] (IV (Tg 35 10 14 35) 4 (.seq (O5 [oz 36 14,oz 37 11,Ix 38 .leq 36 37] 38 (.exit 4)) (IA 5 (Lb [oz 41 9,I5 42 41,OZ 43,Ix 44 .geq 42 43] 44 (TH (O6 4) 5) (.ops [oz 45 9,oz 46 13,oz 47 13,I5 48 47,oz 49 13,I5 50 49,ol 51 (.sl3 30 46 none (some 48) (some 50)),oz 52 14,TJ 53 1 oB [((0,1),52)],Or 54 1 8 51 53,Ln 55 1 [((0,1),54)],Or 56 1 24 45 55,oy 9 56])) [oz 39 14,TB 40 39 1,oy 14 40]))) 57 31 31 57) (.ops (Tg 58 9 6 58)))) 59 20 20 59) (OY (Iz [T0 60,I5 61 60,OZ 62,Ix 63 .gtr 61 62] 63 (TH (O6 4) 5)) [T0 64,TM 64,Tb 5])))
def jpJ:XF:=⟨[0,1],jkh,[(.t 4),(.t 5)]⟩
theorem jt8:jy γ 21=some jpJ:=by kernel_rfl
def jkg:XC:=(ov [TU 2,O6 4,Om 5] (Og [T1 16 2,OZ 17,OB 18 21 16 17,oz 15 18,Tx 19 15,Ty 20 15,oy 6 19,oy 7 20] [oz 21 7,OW 22 21] 22 (TH (O6 4) 5) (oY (IM (ol 23 .mkMap) 8 23) (T8 [oy 24 6,IQ 25 24,I3 26] 0 27 26 25 27 0 1 [oz 28 26,Lk 29 24 26,oI 30 29,oy 9 28,oy 10 30] (.ops [oz 31 8,oz 32 10,Oy 33 44 32,oz 34 9,TB 35 34 1,o4 (.i (.upd 89 31 33 35))]) 36 26 26 36) (OY (IV [I3 11] 2 (.seq (O5 [oz 37 11,T0 38,I5 39 38,I6 40 37 39] 40 (.exit 2)) (IA 3 (TO [IG (T1 43 2),TC 44 6,TC 45 11,IG (Lk 46 44 45),OS 47 46,IG (T6 48 (oR 27 []) [43,47]),IG (IQ 49 48),IG (I3 50)] (Ie 4 (Ob (To 51 50 49) 51 4 5 (ov [Lk 52 48 50,oI 53 52,oy 13 53] (oY [oz 54 13,Oy 55 44 54,oy 14 55] (Id [oz 56 8,oz 57 14,ol 58 (.look 89 56 57 false),ow 59 (O8 .gtr 58)] 59 (.exit 5)) (Lb [T0 60,I5 61 60,OZ 62,Ix 63 .geq 61 62] 63 (TH (O6 4) 5) (ov [T0 64,oz 65 13,Ln 66 1 [((0,1),65)],Or 67 1 24 64 66,oy 6 67] (.ops [oz 68 8,oz 69 14,T0 70,I5 71 70,o4 (.i (.upd 89 68 69 71))]))))) 72 50 1 50 72))) [oz 41 11,TB 42 41 1,oy 11 42]))) [T0 73,TM 73,Tb 5]))))
def jpI:XF:=⟨[0,1],jkg,[(.t 4),(.t 5)]⟩
theorem jt7:jy γ 23=some jpI:=by kernel_rfl
def jke:XC:=(Og (T4 2 4) [T1 7 2,OZ 8,OB 9 25 7 8,OW 10 9] 10 Tv (OY (Oe [OP 11 2,Oi 12 11,IQ 13 12,I3 14] 0 (To 15 14 13) 15 0 1 (oY [oz 16 14,Il 17 7 12 14,oV 18 7 17,o9 6 [oK,oB,oK,oB,oB,Tl,oB],oy 5 16,o6 7 6 18] (.cops [IG (oF 19 5 6),OS 20 19,TC 21 20,IG (I0 22 21 1),IG (I0 23 21 5),IG (Ih 24 21 (.idxS 1 22 23)),IG (Ox 25 21 24),IG (Oz 26 21 6 6),IG (Ox 27 21 26),IG (Ih 28 21 (.bin .neq 25 27)),IG (I7 29 21 28 oX)]) (Tj 29 Tv .skip)) 30 14 1 14 30) [Tb 4]))
def jpG:XF:=⟨[0,1],jke,[(.t 4)]⟩
theorem jt5:jy γ 26=some jpG:=by kernel_rfl
def jbG:XC:=(oY [TU 1,I3 2,I3 3] (Id [oF 4 5 1,Oi 5 4] 5 (TO [IG (oF 6 6 1),OS 7 6,IG (oF 8 6 1),OS 9 8,IG (Tq 7),IG (oy 3 9)] .ret)) (TO [IG (Tm 10 1),OS 11 10,IG (oF 12 4 1),OS 13 12,IG (Tq 11),IG (oy 3 13)] .ret))
def jk3:XF:=⟨[0],jbG,[(.t 2),(.t 3)]⟩
theorem jqx:jy γ 43=some jk3:=by kernel_rfl
end Go.Sy
end
noncomputable section
namespace Go.Sy
def JV (s:List Int):List UInt8:=s.flatMap λn=>32 :: Lib.itoa n
def jdk (l:List UInt8)(v:Nat):Nat:=l.foldl (λv c=>10 * v+(c.toNat - 48)) v
theorem jdj (u:Nat):∀ c∈Lib.decDigits u,48<=c.toNat/\c.toNat<=57:=by
 induction u using Nat.strongRecOn with
 |ind u ih=>
  intro c hc;have e:∀ k,k<10->(UInt8.ofNat (48+k)).toNat=48+k:=λk hk=>by rw[UInt8.toNat_ofNat'];omega
  rw[Lib.decDigits] at hc;split at hc
  ·rename_i h;rw[QaK.1 hc,e _ h];omega
  ·rename_i h;rcases Qau.1 hc with hc|hc
   ·exact ih (u / 10) om c hc
   ·rw[QaK.1 hc,e _ om];omega
theorem jfc (u:Nat):jdk (Lib.decDigits u) 0=u:=by
 induction u using Nat.strongRecOn with
 |ind u ih=>
  have e:∀ k,k<10->(UInt8.ofNat (48+k)).toNat=48+k:=λk hk=>by rw[UInt8.toNat_ofNat'];omega
  rw[Lib.decDigits];split
  ·rename_i h;show 10 * 0+((UInt8.ofNat (48+u)).toNat - 48)=u;rw[e _ h];omega
  ·rename_i h;unfold jdk;rw[Qbb];show 10 * jdk (Lib.decDigits (u / 10)) 0+((UInt8.ofNat (48+u % 10)).toNat - 48)=u;rw[ih (u / 10) om,e _ om];omega
theorem jeT (n:Int):∀ c∈Lib.itoa n,c≠32:=by
 intro c hc e;subst e;unfold Lib.itoa at hc;split at hc
 ·rcases QaS.1 hc with h|h
  ·exact absurd h dc
  ·exact absurd (jdj _ _ h).1 dc
 ·exact absurd (jdj _ _ hc).1 dc
theorem jlU {n m:Int}(h:Lib.itoa n=Lib.itoa m):n=m:=by
 have no:∀ u l,Lib.decDigits u≠45 :: l:=λu l e=>by
  have:=(jdj u 45 (by rw[e];simp)).1;exact absurd this dc
 unfold Lib.itoa at h;split at h<;>split at h
 ·injection h with _ h
  have:=congrArg (jdk · 0) h;simp only[jfc] at this;omega
 ·exact absurd h.symm (no _ _)
 ·exact absurd h (no _ _)
 ·have:=congrArg (jdk · 0) h;simp only[jfc] at this;omega
theorem jo2 {a b r t:List UInt8}(ha:∀ c∈a,c≠32)(hb:∀ c∈b,c≠32)(hr:∀ c l,r=c :: l->c=32)(ht:∀ c l,t=c :: l->c=32)(h:a ++ r=b ++ t):a=b/\r=t:=by
 induction a generalizing b with
 |nil=>
  cases b with
  |nil=>exact⟨rfl,h⟩
  |cons y b=>exact absurd (hr y (b ++ t) h) (hb y (by simp))
 |cons x a ih=>
  cases b with
  |nil=>exact absurd (ht x (a ++ r) h.symm) (ha x (by simp))
  |cons y b=>
   injection h with h1 h2
   obtain⟨e1,e2⟩:=ih (λc hc=>ha c (by simp[hc])) (λc hc=>hb c (by simp[hc])) h2;exact⟨by rw[h1,e1],e2⟩
theorem jcX {s:List Int}:∀ c l,JV s=c :: l->c=32:=by
 intro c l h;cases s with
 |nil=>cases h
 |cons n s=>
  unfold JV at h;rw[Qbf] at h;injection h with h _
  exact h.symm
theorem jeS:∀ {s t:List Int},JV s=JV t->s=t
 |[],[],_=>rfl
 |[],n :: t,h=>by unfold JV at h;rw[Qbf] at h;cases h
 |n :: s,[],h=>by unfold JV at h;rw[Qbf] at h;cases h
 |n :: s,m :: t,h=>by
  unfold JV at h;rw[Qbf,Qbf] at h;injection h with _ h
  obtain⟨e1,e2⟩:=jo2 (jeT n) (jeT m) (jcX (s:=s)) (jcX (s:=t)) h;rw[jlU e1,jeS e2]
set_option maxRecDepth 100000
open Go.Ev Go.Proofs
def zU (s:List Int):List Nat:=(JV s).map UInt8.toNat
theorem jlS {s t:List Int}(h:zU s=zU t):s=t:=by
 refine jeS ?_;unfold zU at h;exact(List.map_inj_right λa b=>UInt8.toNat_inj.1).1 h
def wk (p:List Int×Nat):AV×AV:=(.str (zU p.1),.int .i64 (p.2:Int))
def kvs (l:List (List Int)):List (List Int×Nat):=l.zipIdx 1
theorem jlM (l:List (List Int))(t:List Int):kvs (l ++ [t])=kvs l ++ [(t,l.length+1)]:=by
 unfold kvs;rw[List.zipIdx_append];simp[Qby]
theorem eqS (a b:List Int):(eqF γ 20 9).run (.str (zU a)) (.str (zU b))=some (decide (a=b)):=by
 rw[eq9];by_cases e:a=b
 ·rw[e];simp
 ·rw[decide_eq_false (λk=>e (jlS k)),decide_eq_false e]
theorem Ha (p:List Int):∀ kn:List (List Int×Nat),ZV (eqF γ 20 9) (.str (zU p)) (kn.map wk)=some ((kn.find? λx=>decide (p=x.1)).map λx=>.int .i64 (x.2:Int))
 |[]=>rfl
 |x :: kn=>by
  have ih:=Ha p kn;have e:ZV (eqF γ 20 9) (.str (zU p)) ((x :: kn).map wk)=(match (eqF γ 20 9).run (.str (zU p)) (.str (zU x.1)) with|some b=>cond b (some (some (.int .i64 (x.2:Int)))) (ZV (eqF γ 20 9) (.str (zU p)) (kn.map wk))|none=>none):=rfl;rw[e,eqS,ih,List.find?_cons];by_cases h:p=x.1<;>simp[h]
theorem jhL (p:List Int)(v:Nat):∀ kn:List (List Int×Nat),(∀ x∈kn,p≠x.1)->vB (eqF γ 20 9) (.str (zU p)) (.int .i64 (v:Int)) (kn.map wk)=some ((kn ++ [(p,v)]).map wk)
 |[],_=>rfl
 |x :: kn,hf=>by
  have hx:¬ p=x.1:=hf x (by simp);have ih:=jhL p v kn λy hy=>hf y (by simp[hy]);have e:vB (eqF γ 20 9) (.str (zU p)) (.int .i64 (v:Int)) ((x :: kn).map wk)=(match (eqF γ 20 9).run (.str (zU p)) (.str (zU x.1)) with
   |some b=>cond b (cond (Vj (.str (zU p)) (.str (zU x.1))) (some (Qao (.str (zU p),.int .i64 (v:Int)) (kn.map wk))) none) (match vB (eqF γ 20 9) (.str (zU p)) (.int .i64 (v:Int)) (kn.map wk) with|some l=>some (Qao (wk x) l)|none=>none)
   |none=>none):=rfl
  rw[e,eqS,ih,decide_eq_false hx];rfl
theorem G2 {l:List (List Int)}{x:List Int×Nat}(h:x∈kvs l):x.1∈l/\1<=x.2:=by
 obtain⟨h1,_,h3⟩:=List.mem_zipIdx (x:=x.1) (i:=x.2) h;exact⟨by rw[h3];exact Qac _,h1⟩
theorem jlO {l:List (List Int)}{p:List Int}(h:p∈l):∃ x,(kvs l).find? (λx=>decide (p=x.1))=some x/\1<=x.2:=by
 cases hf:(kvs l).find? (λx=>decide (p=x.1)) with
 |some x=>exact⟨x,rfl,(G2 (List.mem_of_find?_eq_some hf)).2⟩
 |none=>
  obtain⟨i,hi,he⟩:=Qbd.1 h;have hm:(p,1+i)∈kvs l:=by
   unfold kvs;rw[List.mk_mem_zipIdx_iff_le_and_getElem?_sub];refine⟨om,?_⟩;rw[show 1+i - 1=i by omega,Qag hi,he]
  have:=List.find?_eq_none.1 hf _ hm;simp at this
theorem jlN {l:List (List Int)}{p:List Int}(h:p∉l):(kvs l).find? (λx=>decide (p=x.1))=none:=
 List.find?_eq_none.2 λx hx=>by
  have:=(G2 hx).1;simp only[decide_eq_true_eq];rintro rfl;exact h this
def Mq (s:St)(b:Nat)(l:List (List Int)):Prop:=b<s.nx/\jv s.h b=some (.map ((kvs l).map wk))
theorem Mq.keep {s s':St}{b:Nat}{l:List (List Int)}(h:Mq s b l)(hn:s.nx<=s'.nx)(hg:jv s'.h b=jv s.h b):Mq s' b l:=⟨Qaw h.1 hn,hg.trans h.2⟩
theorem joE {s:St}{b:Nat}{l:List (List Int)}{p:List Int}{K:AV->St->Prop}(h:Mq s b l)(hp:p∉l):jh (W9 γ 89 false (.map b) (.str (zU p)) s) K=K (.int .i64 0) s:=by
 unfold W9 Qr;simp only[KP,ze3,O,kf9,cond_true,h.2,XO,Ha,jlN hp,Qbe,jS,jh,cond_false]
theorem joD {s:St}{b:Nat}{l:List (List Int)}{p:List Int}(h:Mq s b l)(hp:p∈l):∃ n:Nat,1<=n/\∀ K:AV->St->Prop,jh (W9 γ 89 false (.map b) (.str (zU p)) s) K=K (.int .i64 (n:Int)) s:=by
 obtain⟨x,hx,h1⟩:=jlO hp;refine⟨x.2,h1,λK=>?_⟩;unfold W9 Qr;simp only[KP,ze3,O,kf9,cond_true,h.2,XO,Ha,hx,QaA,jS,jh,cond_false]
theorem jni {s:St}{b:Nat}{l:List (List Int)}{p:List Int}{n:Int}{K:AV->St->Prop}(h:Mq s b l)(hp:p∉l)(hn:n=((l.length+1:Nat):Int)):jh (jb7 γ 89 (.map b) (.str (zU p)) (.int .i64 n) s) K=K qj (mp s b ((kvs (l ++ [p])).map wk)):=by
 subst hn;unfold jb7 Jg;simp only[KP,O,kf9,cond_true,h.2,XO,jhL p (l.length+1) (kvs l) (λx hx e=>hp (e▸(G2 hx).1)),jS,St.put_eq,jh,jlM];rfl
theorem Mq.put {s:St}{b:Nat}{l:List (List Int)}(h:Mq s b l)(l':List (List Int)):Mq (mp s b ((kvs l').map wk)) b l':=⟨h.1,by rw[Wq,if_pos rfl]⟩
theorem Mq.new (s:St):Mq (nmp s) s.nx []:=⟨Qbz _,by rw[gX,if_pos rfl];rfl⟩
section
def vz0:VarT:=⟨[],0,[],0,0,false,0⟩
def Ya (m:ModT)(s:List Int):Bool:=qy m.vars s && (Qak m.vars.length).all λi=>!((m.vars.getD i vz0).beg && decide (s.getD i 0≠(m.vars.getD i vz0).first))
theorem wA {m:ModT}{s:List Int}(hr:qy m.vars s=true):Ya m s=true↔∀ i (h1:i<m.vars.length) (h2:i<s.length),m.vars[i].beg=true->s[i]=m.vars[i].first:=by
 unfold Ya;rw[hr,Bool.true_and,Qal];have hl:=(qW.1 hr).1;refine⟨λb i h1 h2 hb=>?_,λb i hi=>?_⟩
 ·have:=b i (Qbo.2 h1);rw[Qaq,Qag h1,Qaq,Qag h2] at this;simpa[hb] using this
 ·have h1:=Qbo.1 hi;have:=b i h1 om;rw[Qaq,Qag h1,Qaq,Qag (show i<s.length by omega)];cases hb:m.vars[i].beg with
  |false=>simp[hb]
  |true=>simp[hb,this hb]
theorem jhW {m:ModT}{s:List Int}{i:Nat}(hr:qy m.vars s=true)(h1:i<m.vars.length)(h2:i<s.length)(hb:m.vars[i].beg=true)(hn:¬ s[i]=m.vars[i].first):Ya m s=false:=by
 rw[Qch];exact λk=>hn ((wA hr).1 k i h1 h2 hb)
end
variable {base:Bs}
def Lx (lo hi:Nat)(s:St)(v w:AV)(n:Nat)(cs:List AV)(z:Nat):Prop:=Lv lo hi s w n cs z/\(v=w\/(w=.nils/\∃ b,v=.slice b 0 0 0 z true/\Cl s b []/\lo<=b/\b<hi))
theorem jsI {lo hi n z bytes bv xc:Nat}{s:St}{v w:AV}{cs:List AV}{xx:Bool}{K:AV->St->Prop}(h:Lx lo hi s v w n cs z)(hz:0<z)(hby:(n+1) * bytes<=140737488355328)(h63:n+1<=9223372036854775807)(hv:z<=qv s.h bv) :
  jh (Jc z bytes v (.slice bv 0 1 xc z xx) s) K=K (apv z w s) (aps w s (rats s.h bv 0 z)):=by
 obtain⟨V,rfl|⟨rfl,b,rfl,C,_,_⟩⟩:=h
 ·exact JT V hz hby h63 hv
 ·have hn:n=0:=by
   rcases V with ⟨_,h0,_⟩|⟨b,e,_⟩
   ·exact h0
   ·cases e
  subst hn;obtain⟨m,zl,zz,ks,hg⟩:=QD (h:=s.h) (b:=bv) om;rw[yG hg] at hv;have e0:QcA 1 z=z:=Qbx z;have e1:Qcy (Qcz 0 z) m=true:=qu (by show 0+z<=m;omega);have er:jP zl zz ks z 0=rats s.h bv 0 z:=by
   rw[JW,qi];exact QaW λi _=>by rw[JG hg]
  have el:(rats s.h bv 0 z).length=z:=Qd _ _ _ _;have e3:Qcw (jO (rats s.h bv 0 z)) z=true:=YB (by rw[jL,el]);obtain⟨m',zl',zz',ks',hg'⟩:=C.row;have h4l:=C.len;rw[yG hg'] at h4l;have f4:Qcy (Qcz 0 1) 0=false:=rfl;have f5:Qcy (QcA (Qcz 0 1) bytes) 140737488355328=true:=qu hby;have f6:Qcy (Qcz 0 1) 9223372036854775807=true:=rfl;have e7:Qcy (Qcz 0 (QcA 0 z)) m'=true:=qu (by show 0+0 * z<=m';omega);have e8:jP zl' zz' ks' (QcA 0 z) 0=[]:=by rw[qi,show QcA 0 z=0 from QaU z];rfl
  have e9:∀ l:List AV,yQ [] l=l:=λl=>by rw[yw];rfl
  have e10:QcA (Qcz 0 1) z=z:=by show(0+1) * z=z;omega
  simp only[Jc,zA,firstCells,hg,hg',yl,jF,e0,e1,cond_true,er,qY,e3,f4,f5,f6,cond_false,e7,e8,e9,e10,St.alloc_eq,jh];unfold apv Go.Sy.aps nw;rw[el]
def In1 (s:St)(lo hi b0:Nat)(x:AV)(l:SvT):Prop:=x=svV l\/∃ c ex,x=.slice c 0 l.length l.length 1 ex/\Cl s c (l.map (.int .i64))/\lo<=c/\c<hi/\c≠b0
def InL (s:St)(lo hi b0:Nat):List AV->List SvT->Prop
 |[],[]=>True
 |x :: xs,l :: ls=>In1 s lo hi b0 x l/\InL s lo hi b0 xs ls
 |_,_=>False
structure ApX (lo hi:Nat)(s s':St):Prop where
 nx:s.nx<=s'.nx
 fr:s'.fr=s.fr
 hp:∀ c,(c<lo\/hi<=c)->c<s.nx->jv s'.h c=jv s.h c
theorem ApX.cl {lo hi:Nat}{s s':St}(a:ApX lo hi s s')(c:Nat)(ds:List AV)(hc:c<lo\/hi<=c)(C:Cl s c ds):Cl s' c ds:=C.keep a.nx (a.hp c hc C.lt)
section
variable {lo hi b0:Nat} {s s':St}
theorem InL.mono {lo' hi' b1:Nat}:∀ {xs:List AV} {ls:List SvT},InL s lo hi b0 xs ls->(∀ x l,In1 s lo hi b0 x l->In1 s' lo' hi' b1 x l)->InL s' lo' hi' b1 xs ls
 |[],[],h,f=>trivial
 |x :: xs,l :: ls,h,f=>⟨f _ _ h.1,InL.mono h.2 f⟩
 |[],_ :: _,h,f=>h.elim
 |_ :: _,[],h,f=>h.elim
theorem InL.len:∀ {xs:List AV} {ls:List SvT},InL s lo hi b0 xs ls->xs.length=ls.length
 |[],[],_=>rfl
 |x :: xs,l :: ls,h=>by rw[φ,φ,InL.len h.2]
 |[],_ :: _,h=>h.elim
 |_ :: _,[],h=>h.elim
theorem InL.app {x:AV}{l:SvT}(h1:In1 s lo hi b0 x l):∀ {xs:List AV} {ls:List SvT},InL s lo hi b0 xs ls->InL s lo hi b0 (xs ++ [x]) (ls ++ [l])
 |[],[],_=>⟨h1,trivial⟩
 |y :: xs,k :: ls,h=>⟨h.1,InL.app h1 h.2⟩
 |[],_ :: _,h=>h.elim
 |_ :: _,[],h=>h.elim
theorem InL.get:∀ {xs:List AV} {ls:List SvT} {k:Nat} (hk:k<ls.length) (h:InL s lo hi b0 xs ls),In1 s lo hi b0 (xs.getD k .bad) ls[k]
 |x :: xs,l :: ls,0,_,h=>h.1
 |x :: xs,l :: ls,k+1,hk,h=>InL.get (xs:=xs) (ls:=ls) (k:=k) (by simpa using hk) h.2
 |[],_ :: _,_,_,h=>h.elim
 |_ :: _,[],k,hk,_=>absurd hk (Qay k)
 |[],[],k,hk,_=>absurd hk (Qay k)
theorem In1.fz {m d:Nat}{x:AV}{l:SvT}(h:In1 s lo hi b0 x l)(hm:m<=lo):FzD m (d+2) s x (svV l):=by
 rcases h with rfl|⟨c,ex,rfl,C,h1,_⟩
 ·exact FzD.pa (jhT l)
 ·refine FzD.slice C.rw_ (by simp) om ?_;rw[Qcg (by simp)];exact FzsD.pc (zW _)
theorem InL.fz {m d:Nat}(hm:m<=lo):∀ {xs:List AV} {ls:List SvT},InL s lo hi b0 xs ls->FzsD m (d+2) s xs (fl svE ls)
 |[],[],_=>FzsD.nil
 |x :: xs,l :: ls,h=>FzsD.cons (h.1.fz hm) (InL.fz hm h.2)
 |[],_ :: _,h=>h.elim
 |_ :: _,[],h=>h.elim
end
theorem jjU {b n z bytes bv xc:Nat}{s:St}{cs news:List AV}{xx:Bool}{K:AV->St->Prop}(C:Cl s b cs)(hl:cs.length=n * z)(hz:0<z)(hby:(n+1) * bytes<=140737488355328)(h63:n+1<=9223372036854775807)(hv:z<=qv s.h bv)(hr:rats s.h bv 0 z=news) :
  jh (Jc z bytes (.slice b 0 n n z true) (.slice bv 0 1 xc z xx) s) K=K (.slice s.nx 0 (n+1) (n+1) z false) (nw s (cs ++ news)):=by
 obtain⟨m,zl,zz,ks,hg⟩:=QD (h:=s.h) (b:=bv) om;rw[yG hg] at hv;have e0:QcA 1 z=z:=Qbx z;have e1:Qcy (Qcz 0 z) m=true:=qu (by show 0+z<=m;omega);have er:jP zl zz ks z 0=news:=by
  rw[<-hr,JW,qi];exact QaW λi _=>by rw[JG hg]
 have el:news.length=z:=by rw[<-hr];exact Qd _ _ _ _
 have e3:Qcw (jO news) z=true:=YB (by rw[jL,el]);obtain⟨m',zl',zz',ks',hg'⟩:=C.row;have h4l:=C.len;rw[yG hg'] at h4l;have f4:Qcy (Qcz n 1) n=false:=jbA (by show n<n+1;omega);have f5:Qcy (QcA (Qcz n 1) bytes) 140737488355328=true:=qu hby;have f6:Qcy (Qcz n 1) 9223372036854775807=true:=qu h63;have e7:Qcy (Qcz 0 (QcA n z)) m'=true:=qu (by show 0+n * z<=m';omega);have e8:jP zl' zz' ks' (QcA n z) 0=cs:=by
  have h:=C.rats0 hl;rw[JW] at h;rw[qi,<-h];exact QaW λi _=>by rw[JG hg']
 have e9:yQ cs news=cs ++ news:=by rw[yw]
 have e10:QcA (Qcz n 1) z=(cs ++ news).length:=by rw[υ,hl,el];exact QaQ n z
 simp only[Jc,zA,firstCells,hg,hg',yl,jF,e0,e1,cond_true,er,qY,e3,f4,f5,f6,cond_false,e7,e8,e9,e10,St.alloc_eq,jh];rfl
def LL (lo hi:Nat)(s:St)(v:AV)(ls:List SvT):Prop:=(ls=[]/\(v=.nils\/∃ b,v=.slice b 0 0 0 1 true/\Cl s b []/\lo<=b/\b<hi))\/∃ b cs ex,v=.slice b 0 ls.length ls.length 1 ex/\ls≠[]/\Cl s b cs/\lo<=b/\b<hi/\InL s lo hi b cs ls
section
variable {lo hi:Nat} {s s':St} {v:AV} {ls:List SvT}
theorem LL.len {b:Nat}{n m:Nat}{x:Bool}(h:LL lo hi s (.slice b 0 n m 1 x) ls):n=ls.length:=by
 rcases h with ⟨rfl,h|⟨c,h,_⟩⟩|⟨c,cs,ex,h,_⟩
 ·cases h
 ·cases h;rfl
 ·cases h;rfl
theorem LL.lenV {K:AV->St->Prop}(h:LL lo hi s v ls)(st:St):jh (lenV v st) K=K (.int .i64 (ls.length:Int)) st:=by
 rcases h with ⟨rfl,rfl|⟨c,rfl,_⟩⟩|⟨c,cs,ex,rfl,_⟩<;>rfl
theorem LL.keep (h:LL lo hi s v ls){lo2 hi2:Nat}(a:ApX lo2 hi2 s s')(hh:hi<=lo2\/hi2<=lo):LL lo hi s' v ls:=by
 rcases h with ⟨rfl,rfl|⟨b,rfl,C,h1,h2⟩⟩|⟨b,cs,ex,rfl,hn,C,h1,h2,I⟩
 ·exact .inl ⟨rfl,.inl rfl⟩
 ·exact .inl ⟨rfl,.inr ⟨b,rfl,a.cl _ _ om C,h1,h2⟩⟩
 ·refine .inr ⟨b,cs,ex,rfl,hn,a.cl _ _ om C,h1,h2,I.mono λx l k=>?_⟩;rcases k with rfl|⟨c,ex,rfl,D,k1,k2,k3⟩
  ·exact .inl rfl
  ·exact .inr ⟨c,ex,rfl,a.cl _ _ om D,k1,k2,k3⟩
theorem LL.up {hi':Nat}(h:LL lo hi s v ls)(hh:hi<=hi'):LL lo hi' s v ls:=by
 rcases h with ⟨rfl,rfl|⟨b,rfl,C,h1,h2⟩⟩|⟨b,cs,ex,rfl,hn,C,h1,h2,I⟩
 ·exact .inl ⟨rfl,.inl rfl⟩
 ·exact .inl ⟨rfl,.inr ⟨b,rfl,C,h1,om⟩⟩
 ·refine .inr ⟨b,cs,ex,rfl,hn,C,h1,om,I.mono λx l k=>?_⟩;rcases k with rfl|⟨c,ex,rfl,D,k1,k2,k3⟩
  ·exact .inl rfl
  ·exact .inr ⟨c,ex,rfl,D,k1,om,k3⟩
theorem LL.down {lo':Nat}(h:LL lo hi s v ls)(hh:lo'<=lo):LL lo' hi s v ls:=by
 rcases h with ⟨rfl,rfl|⟨b,rfl,C,h1,h2⟩⟩|⟨b,cs,ex,rfl,hn,C,h1,h2,I⟩
 ·exact .inl ⟨rfl,.inl rfl⟩
 ·exact .inl ⟨rfl,.inr ⟨b,rfl,C,om,h2⟩⟩
 ·refine .inr ⟨b,cs,ex,rfl,hn,C,om,h2,I.mono λx l k=>?_⟩;rcases k with rfl|⟨c,ex,rfl,D,k1,k2,k3⟩
  ·exact .inl rfl
  ·exact .inr ⟨c,ex,rfl,D,om,k2,k3⟩
theorem ApX.nw (s:St)(ds:List AV):ApX s.nx (s.nx+1) s (nw s ds):=⟨by rw[jg];omega,Vf _ _,λc hc h=>q6 om⟩
theorem ApX.wr (s:St)(b o:Nat)(vs:List AV):ApX b (b+1) s (wr s b o vs):=⟨τ _,rfl,λc hc h=>zG om⟩
theorem ApX.of {lo2:Nat}(a:ApL lo2 s s'):ApX lo2 s'.nx s s':=⟨a.nx,a.fr,λc hc h=>by
 rcases hc with hc|hc
 ·exact a.hp c hc h
 ·exact absurd h (by have:=a.nx;omega)⟩
theorem LL.fzd {m d:Nat}(h:LL lo hi s v ls)(hm:m<=lo):FzD m (d+3) s v (.lst ls.length (fl svE ls)):=by
 rcases h with ⟨rfl,rfl|⟨b,rfl,C,h1,h2⟩⟩|⟨b,cs,ex,rfl,hn,C,h1,h2,I⟩
 ·exact FzD.nils
 ·exact FzD.slice C.rw_ (by simp) om FzsD.nil
 ·refine FzD.slice C.rw_ (by rw[I.len];omega) om ?_;rw[Qcg (by rw[I.len];omega)];exact I.fz hm
theorem LL.lend (h:LL lo hi s v ls):lend s.h v=some (.lst ls.length (fl svE ls)):=by
 obtain⟨ks,h1,_⟩:=h.fzd (m:=0) (d:=6) (Qae _);rcases h with ⟨rfl,rfl|⟨b,rfl,_⟩⟩|⟨b,cs,ex,rfl,_⟩
 ·rfl
 ·show(fz 9 s.h _).map (·.1)=_;rw[h1];rfl
 ·show(fz 9 s.h _).map (·.1)=_;rw[h1];rfl
theorem LL.appM {bytes bv xc:Nat}{xx:Bool}{x:AV}{l:SvT}(h:LL lo hi s v ls)(C:Cl s bv [x])(hx:x=svV l\/∃ c ex,x=.slice c 0 l.length l.length 1 ex/\Cl s c (l.map (.int .i64))/\lo<=c/\hi<=c)(hl:lo<=s.nx)(hhi:hi<=s.nx)(hby:(ls.length+1) * bytes<=140737488355328)(h63:ls.length+1<=9223372036854775807) :
  ∃ v' s',(∀ K:AV->St->Prop,jh (Jc 1 bytes v (.slice bv 0 1 xc 1 xx) s) K=K v' s')/\LL lo s'.nx s' v' (ls ++ [l])/\ApX lo hi s s'/\∀ c es,c<s.nx->jv s.h c=some (.map es)->jv s'.h c=jv s.h c:=by
 have hr:rats s.h bv 0 1=[x]:=by have:=C.ratsP 1 0 (by simp);simpa using this
 have hv1:1<=qv s.h bv:=by rw[C.len];exact τ 1
 have new1:∀ {s'':St},(∀ c ds,hi<=c->Cl s c ds->Cl s'' c ds)->s''.nx=s.nx+1->In1 s'' lo s''.nx s.nx x l:=λ{s''} hk hn=>by
  rcases hx with rfl|⟨c,ex,rfl,D,k0,k1⟩
  ·exact .inl rfl
  ·exact .inr ⟨c,ex,rfl,hk _ _ k1 D,by have:=D.lt;omega,by have:=D.lt;omega,Qbh D.lt⟩
 have start:∀ w,(w=v\/w=.nils)->LL lo hi s v ls->ls=[]->Lx lo hi s v .nils 0 [] 1->∃ v' s',(∀ K:AV->St->Prop,jh (Jc 1 bytes v (.slice bv 0 1 xc 1 xx) s) K=K v' s')/\LL lo s'.nx s' v' (ls ++ [l])/\ApX lo hi s s'/\∀ c es,c<s.nx->jv s.h c=some (.map es)->jv s'.h c=jv s.h c:=λw _ _ e X=>by
  subst e;refine⟨apv 1 .nils s,aps .nils s (rats s.h bv 0 1),λK=>jsI X dc hby h63 hv1,?_,?_⟩
  ·rw[hr];exact .inr ⟨s.nx,[x],false,rfl,by simp,Cl.new s _,hl,by rw[jq];omega,⟨new1 (λc ds _ D=>D.nw _) (jq _ _ _),trivial⟩⟩
  ·exact⟨⟨by rw[jq];omega,by rw[Ze],λc _ h=>q6 om⟩,λc _ h _=>q6 om⟩
 have h0:=h;rcases h with ⟨e,rfl|⟨b,rfl,D,h1,h2⟩⟩|⟨b,cs,ex,rfl,hn,D,h1,h2,I⟩
 ·exact start .nils (.inl rfl) h0 e ⟨Lv.nil,.inl rfl⟩
 ·exact start _ (.inl rfl) h0 e ⟨Lv.nil,.inr ⟨rfl,b,rfl,D,h1,h2⟩⟩
 ·have fin:∀ s':St,s'.nx=s.nx+1->s'.fr=s.fr->(∀ c,c≠b->c<s.nx->jv s'.h c=jv s.h c)->Cl s' s.nx (cs ++ [x])->LL lo s'.nx s' (.slice s.nx 0 (ls.length+1) (ls.length+1) 1 false) (ls ++ [l])/\ApX lo hi s s'/\∀ c es,c<s.nx->jv s.h c=some (.map es)->jv s'.h c=jv s.h c:=λs' en ef eh eC=>by
   have ek:∀ c ds,c≠b->Cl s c ds->Cl s' c ds:=λc ds hc E=>E.keep om (eh c hc E.lt);refine⟨.inr ⟨s.nx,cs ++ [x],false,by simp,by simp,eC,hl,om,InL.app (new1 (λc ds hc E=>ek _ _ om E) en) (I.mono λy k q=>?_)⟩,⟨om,ef,λc hc h=>eh _ om h⟩,λc es hl hg=>eh c (λe=>by obtain⟨_,_,_,_,hr⟩:=D.row;rw[e,hr] at hg;cases hg) hl⟩;rcases q with rfl|⟨c,ex,rfl,E,k1,k2,k3⟩
   ·exact .inl rfl
   ·exact .inr ⟨c,ex,rfl,ek _ _ k3 E,k1,by have:=E.lt;omega,Qbh E.lt⟩
  cases ex with
  |false=>
   have V:Lv lo hi s (.slice b 0 ls.length ls.length 1 false) ls.length cs 1:=.inr ⟨b,rfl,QbE.2 hn,by rw[I.len];omega,D,h1,h2⟩;refine⟨apv 1 (.slice b 0 ls.length ls.length 1 false) s,aps (.slice b 0 ls.length ls.length 1 false) s (rats s.h bv 0 1),λK=>JT V dc hby h63 hv1,?_⟩;rw[hr];exact fin _ (jq _ _ _) (Ze _ _ _) (λc hc h=>kw om hc) (D.ap [x])
  |true=>
   refine⟨.slice s.nx 0 (ls.length+1) (ls.length+1) 1 false,Go.Sy.nw s (cs ++ [x]),λK=>jjU (cs:=cs) D (by rw[I.len];omega) dc hby h63 hv1 hr,?_⟩;exact fin _ rfl rfl (λc hc h=>q6 om) (Cl.new s _)
theorem LL.app {bytes bv xc:Nat}{xx:Bool}{x:AV}{l:SvT}(h:LL lo hi s v ls)(C:Cl s bv [x])(hx:x=svV l\/∃ c ex,x=.slice c 0 l.length l.length 1 ex/\Cl s c (l.map (.int .i64))/\lo<=c/\hi<=c)(hl:lo<=s.nx)(hhi:hi<=s.nx)(hby:(ls.length+1) * bytes<=140737488355328)(h63:ls.length+1<=9223372036854775807) :
  ∃ v' s',(∀ K:AV->St->Prop,jh (Jc 1 bytes v (.slice bv 0 1 xc 1 xx) s) K=K v' s')/\LL lo s'.nx s' v' (ls ++ [l])/\ApX lo hi s s':=by
 obtain⟨v',s',e,L,A,_⟩:=h.appM (bytes:=bytes) (xc:=xc) (xx:=xx) C hx hl hhi hby h63;exact⟨v',s',e,L,A⟩
end
theorem In1.app {lo hi b0 lo2 b:Nat}{s:St}{x:AV}{l:SvT}(h:In1 s lo hi b0 x l)(C:Cl s b [])(h1:lo2<=b)(hl:l.length<=1000000000000) :
  ∃ v' s',(∀ K:AV->St->Prop,jh (Jc 1 8 (.slice b 0 0 0 1 true) x s) K=K v' s')/\Lw lo2 s'.nx s' v' l.length (l.map (.int .i64)) 1/\ApL lo2 s s':=by
 have w:Lw lo2 s.nx s (.slice b 0 0 0 1 true) 0 [] 1:=⟨b,true,rfl,λ_=>rfl,rfl,C,h1,C.lt⟩;have fin:(∀ k:Nat->ER,zA x k=k l.length)->(∀ k:List AV->ER,firstCells s 1 l.length x k=k (l.map (.int .i64)))->_:=λq1 q2=>jsC (bytes:=8) w q1 q2 (τ _) (by simp) dc om om;have done:(∀ k:Nat->ER,zA x k=k l.length)->(∀ k:List AV->ER,firstCells s 1 l.length x k=k (l.map (.int .i64)))->∃ v' s',(∀ K:AV->St->Prop,jh (Jc 1 8 (.slice b 0 0 0 1 true) x s) K=K v' s')/\Lw lo2 s'.nx s' v' l.length (l.map (.int .i64)) 1/\ApL lo2 s s':=λq1 q2=>by
  obtain⟨v',s',e,r1,r2⟩:=fin q1 q2;rw[Qam,Qan] at r1;exact⟨v',s',e,r1,r2⟩
 rcases h with rfl|⟨c,ex,rfl,D,_,_,_⟩
 ·have e1:Qcy (QcA l.length 1) (jO (l.map (AV.int .i64)))=true:=qu (by rw[jL,Qah];exact QaO (QaI _));have e2:yh (l.map (AV.int .i64)) (QcA l.length 1)=l.map (AV.int .i64):=by rw[qK,show QcA l.length 1=(l.map (AV.int .i64)).length from by rw[Qah];exact QaI _,Qaf]
  exact done (λk=>rfl) λk=>by unfold svV;simp only[firstCells,e1,cond_true,e2]
 ·obtain⟨m',zl',zz',ks',hg'⟩:=D.row;have h4l:=D.len;rw[yG hg',Qah] at h4l;have e1:QcA l.length 1=l.length:=QaI _;have e7:Qcy (Qcz 0 l.length) m'=true:=qu (by show 0+l.length<=m';omega);have e8:jP zl' zz' ks' l.length 0=l.map (.int .i64):=by
   have h:=D.rats0 (Qah ..);rw[JW] at h;rw[qi,<-h];exact QaW λi _=>by rw[JG hg']
  exact done (λk=>rfl) λk=>by simp only[firstCells,hg',yl,jF,e1,e7,cond_true,e8]
def Je (v:VarT)(s:SvT):List SvT:=(Qak (v.hi - v.lo+1).toNat).map λ(i:Nat)=>s ++ [v.lo+(i:Int)]
def QT (vars:List VarT):List SvT:=vars.foldl (λout v=>out.flatMap (Je v)) [[]]
theorem Vh {v:VarT}:∀ out:List SvT,(out.flatMap (Je v)).length=out.length * (v.hi - v.lo+1).toNat
 |[]=>by simp
 |x :: xs=>by
  rw[Qbf,υ,Vh xs,φ];unfold Je;rw[Qah,Qca,QaQ];omega
theorem jmn (vars:List VarT):∀ out:List SvT,(vars.foldl (λout v=>out.flatMap (Je v)) out).length=vars.foldl (λn v=>n * (v.hi - v.lo+1).toNat) out.length:=by
 induction vars with
 |nil=>intro out;rfl
 |cons v vs ih=>intro out;rw[QbN,ih,Vh];rfl
theorem kJ (vars:List VarT):(QT vars).length=QP vars:=jmn vars [[]]
theorem jjP {vars:List VarT}{k:Nat}(hk:k<vars.length):QT (vars.take (k+1))=(QT (vars.take k)).flatMap (Je vars[k]):=by
 unfold QT;rw[yz hk,Qbb];rfl
theorem jmd {vars:List VarT}(h:∀ v∈vars,VB v):∀ k,QP (vars.take k)<=QP vars:=by
 intro k;have e:QP vars=(vars.drop k).foldl (λn v=>n * (v.hi - v.lo+1).toNat) (QP (vars.take k)):=by
  conv=>lhs;rw[<-Qbp k vars]
  unfold QP;rw[Qbb]
 rw[e];have key:∀ (l:List VarT) (n:Nat),(∀ v∈l,VB v)->n<=l.foldl (λn v=>n * (v.hi - v.lo+1).toNat) n:=by
  intro l;induction l with
  |nil=>intro n _;exact τ _
  |cons v vs ih=>
   intro n hv;rw[QbN];refine Qab ?_ (ih _ λu hu=>hv u (by simp[hu]));have:=(hv v (by simp)).1;exact Nat.le_mul_of_pos_right _ om
 exact key _ _ λv hv=>h v (List.mem_of_mem_drop hv)
theorem jsF {vars:List VarT}:∀ {x:SvT},x∈QT vars->x.length=vars.length:=by
 have key:∀ (vars:List VarT) (out:List SvT) (n:Nat),(∀ x∈out,x.length=n)->∀ x∈vars.foldl (λout v=>out.flatMap (Je v)) out,x.length=n+vars.length:=by
  intro vars;induction vars with
  |nil=>intro out n h x hx;exact h x hx
  |cons v vs ih=>
   intro out n h x hx;have:=ih (out.flatMap (Je v)) (n+1) (λy hy=>by
    obtain⟨z,hz,hy⟩:=List.mem_flatMap.1 hy;unfold Je at hy;obtain⟨i,_,rfl⟩:=QaH.1 hy;rw[υ,h z hz];rfl) x hx
   rw[this,φ];omega
 intro x hx;have:=key vars [[]] 0 (λy hy=>by simp at hy;rw[hy];rfl) x hx;omega
theorem In1.keep {lo hi b0 lo2 hi2:Nat}{s s':St}{x:AV}{l:SvT}(h:In1 s lo hi b0 x l)(a:ApX lo2 hi2 s s')(hh:hi<=lo2\/hi2<=lo):In1 s' lo hi b0 x l:=by
 rcases h with rfl|⟨c,ex,rfl,D,k1,k2,k3⟩
 ·exact .inl rfl
 ·exact .inr ⟨c,ex,rfl,a.cl _ _ om D,k1,k2,k3⟩
theorem jrT {v:VarT}{ls:List SvT}{k:Nat}(hk:k<ls.length):(ls.take (k+1)).flatMap (Je v)=(ls.take k).flatMap (Je v) ++ Je v ls[k]:=by
 rw[yz hk,List.flatMap_append,Qbf,List.flatMap_nil,QaT]
end Go.Sy
end
noncomputable section
namespace Go.Sy
section
variable {α:Type}
theorem jcD [DecidableEq α]:∀ {l m:List α},l.Nodup->(∀ x∈l,x∈m)->l.length<=m.length
 |[],m,_,_=>Qae _
 |x :: l,m,hn,hs=>by
  rw[List.nodup_cons] at hn;have hx:x∈m:=hs x (by simp);have h:=jcD (l:=l) (m:=m.erase x) hn.2 λy hy=>by
   have hne:y≠x:=λe=>hn.1 (e▸hy);exact(List.mem_erase_of_ne hne).2 (hs y (by simp[hy]))
  have hl:=List.length_erase_of_mem hx;have hp:0<m.length:=List.length_pos_of_mem hx;rw[φ];omega
def u6 [DecidableEq α] (most:Int):List α->List α->Option (List α)
 |[],out=>some out
 |t :: ts,out=>if t∈out then u6 most ts out else if most<=(out.length:Int) then none else u6 most ts (out ++ [t])
def Z2 [DecidableEq α] (nx:α->List α)(most:Int):Nat->Nat->List α->Option (List α)
 |0,i,out=>some out
 |n+1,i,out=>match out[i]? with
  |none=>some out
  |some s=>match u6 most (nx s) out with
   |none=>none
   |some o=>Z2 nx most n (i+1) o
structure RInv (nx:α->List α)(P:α->Prop)(fis:List α)(i:Nat)(out:List α):Prop where
 pre:∃ r,out=fis ++ r
 nd:out.Nodup
 good:∀ x∈out,P x
 come:∀ j s,out[j]? = some s->j<fis.length\/∃ k t,k<j/\out[k]? = some t/\s∈nx t
 le:i<=out.length
 cl:∀ k s,k<i->out[k]? = some s->∀ t∈nx s,t∈out
variable {nx:α->List α} {P:α->Prop} {fis:List α}
theorem RInv.start (h1:fis.Nodup)(h2:∀ x∈fis,P x):RInv nx P fis 0 fis:=
 ⟨⟨[],by simp⟩,h1,h2,λj s h=>.inl (Qbm.1 h).1,Qae _,λk s h=>absurd h (Qay _)⟩
theorem RInv.snoc {i:Nat}{out:List α}{s t:α}{k:Nat}(h:RInv nx P fis i out)(hk:out[k]? = some s)(ht:t∈nx s)(hn:t∉out)(hP:P t):RInv nx P fis i (out ++ [t]):=by
 have hkl:=(Qbm.1 hk).1;have hle:∀ j x,out[j]? = some x->(out ++ [t])[j]? = some x:=λj x e=>by
  rw[Qbn (Qbm.1 e).1];exact e
 obtain⟨r,hr⟩:=h.pre;refine⟨⟨r ++ [t],by rw[hr];simp⟩,?_,?_,?_,by rw[υ];exact Qab h.le (Nat.le_add_right _ _),?_⟩
 ·rw[Qcr];refine⟨h.nd,by simp,λa ha b hb=>?_⟩;simp only[QaK] at hb;rw[hb];exact λe=>hn (e▸ha)
 ·intro x hx;rcases Qau.1 hx with hx|hx
  ·exact h.good x hx
  ·simp only[QaK] at hx;rw[hx];exact hP
 ·intro j x hj;by_cases hjl:j<out.length
  ·rw[Qbn hjl] at hj;rcases h.come j x hj with h1|⟨k',t',h1,h2,h3⟩
   ·exact .inl h1
   ·exact .inr ⟨k',t',h1,hle _ _ h2,h3⟩
  ·have hl:=(Qbm.1 hj).1;rw[υ,Qbk] at hl;have hjl':j=out.length:=om
   rw[hjl',Qcb (τ _),Nat.sub_self] at hj;have hx:t=x:=by simpa using hj
   exact .inr ⟨k,s,om,hle _ _ hk,hx▸ht⟩
 ·intro k' x hk' hx t' ht';by_cases hjl:k'<out.length
  ·rw[Qbn hjl] at hx;exact Qcd _ (h.cl k' x hk' hx t' ht')
  ·have hl:=(Qbm.1 hx).1;rw[υ,Qbk] at hl;exact absurd hk' (by have:=h.le;omega)
theorem RInv.add [DecidableEq α] {most:Int}{i:Nat}{s:α}{N:Nat}(hN:∀ l:List α,l.Nodup->(∀ x∈l,P x)->l.length<=N):∀ {ts out:List α},RInv nx P fis i out->out[i]? = some s->(∀ t∈ts,t∈nx s)->(∀ t∈ts,P t)->
  (∃ o,u6 most ts out=some o/\RInv nx P fis i o/\(∃ r,o=out ++ r)/\(∀ t∈ts,t∈o))\/(u6 most ts out=none/\most<(N:Int))
 |[],out,h,hi,_,_=>.inl ⟨out,rfl,h,⟨[],by simp⟩,λt h=>by cases h⟩
 |t :: ts,out,h,hi,h1,h2=>by
  rw[u6];by_cases ht:t∈out
  ·rw[if_pos ht];rcases RInv.add (ts:=ts) (most:=most) hN h hi (λu hu=>h1 u (by simp[hu])) (λu hu=>h2 u (by simp[hu])) with ⟨o,e,ho,⟨r,hr⟩,hc⟩|⟨e,hm⟩
   ·refine .inl ⟨o,e,ho,⟨r,hr⟩,λu hu=>?_⟩;rcases QaS.1 hu with rfl|hu
    ·rw[hr];exact Qcd _ ht
    ·exact hc u hu
   ·exact .inr ⟨e,hm⟩
  ·rw[if_neg ht];have h':=h.snoc hi (h1 t (by simp)) ht (h2 t (by simp));have hl:=hN _ h'.nd h'.good;rw[υ,Qbk] at hl;by_cases hm:most<=(out.length:Int)
   ·rw[if_pos hm];exact .inr ⟨rfl,om⟩
   ·rw[if_neg hm];have hi':(out ++ [t])[i]? = some s:=by rw[Qbn (Qbm.1 hi).1];exact hi
    rcases RInv.add (ts:=ts) (most:=most) hN h' hi' (λu hu=>h1 u (by simp[hu])) (λu hu=>h2 u (by simp[hu])) with ⟨o,e,ho,⟨r,hr⟩,hc⟩|⟨e,hm⟩
    ·refine .inl ⟨o,e,ho,⟨t :: r,by rw[hr];simp⟩,λu hu=>?_⟩;rcases QaS.1 hu with rfl|hu
     ·rw[hr];simp
     ·exact hc u hu
    ·exact .inr ⟨e,hm⟩
theorem RInv.next {i:Nat}{s:α}{out o r:List α}(h:RInv nx P fis i o)(hi:out[i]? = some s)(hr:o=out ++ r)(hc:∀ t∈nx s,t∈o):RInv nx P fis (i+1) o:=by
 have hil:=(Qbm.1 hi).1;refine⟨h.pre,h.nd,h.good,h.come,by rw[hr,υ];omega,λk x hk hx t ht=>?_⟩;by_cases e:k=i
 ·subst e;rw[hr,Qbn hil,hi] at hx;cases hx;exact hc t ht
 ·exact h.cl k x om hx t ht
theorem jcq [DecidableEq α] {most:Int}{N:Nat}(hN:∀ l:List α,l.Nodup->(∀ x∈l,P x)->l.length<=N)(hP:∀ s,P s->∀ t∈nx s,P t)(hm:(N:Int)<=most):∀ {n i:Nat} {out:List α},RInv nx P fis i out->N<n+i->∃ o,Z2 nx most n i out=some o/\RInv nx P fis o.length o
 |0,i,out,h,hn=>by
  have:=hN _ h.nd h.good;have:=h.le;omega
 |n+1,i,out,h,hn=>by
  rw[Z2];cases hi:out[i]? with
  |none=>
   have hl:=List.getElem?_eq_none_iff.1 hi;have:i=out.length:=by have:=h.le;omega
   exact⟨out,rfl,this▸h⟩
  |some s=>
   dsimp only;have hs:=h.good s (List.mem_of_getElem? hi);rcases h.add (most:=most) hN hi (λt ht=>ht) (hP s hs) with ⟨o,e,ho,⟨r,hr⟩,hc⟩|⟨_,hm'⟩
   ·rw[e];exact jcq hN hP hm (ho.next hi hr hc) om
   ·omega
def jmo [DecidableEq α] (ts out:List α):List α:=ts.foldl (λo t=>if t∈o then o else o ++ [t]) out
theorem gu {β:Type}{f:β->List α}:∀ {l:List β},l.Nodup->(∀ x∈l,(f x).Nodup)->(∀ x∈l,∀ y∈l,x≠y->∀ a∈f x,a∉f y)->(l.flatMap f).Nodup
 |[],_,_,_=>by simp
 |x :: l,hn,h1,h2=>by
  rw[List.nodup_cons] at hn;rw[Qbf,Qcr];refine⟨h1 x (by simp),gu hn.2 (λy hy=>h1 y (by simp[hy])) (λy hy z hz=>h2 y (by simp[hy]) z (by simp[hz])),λa ha b hb e=>?_⟩;obtain⟨y,hy,hb⟩:=List.mem_flatMap.1 hb;exact h2 x (by simp) y (by simp[hy]) (λe=>hn.1 (e▸hy)) a ha (e▸hb)
end
set_option maxRecDepth 100000
open Go.Ev Go.Proofs
theorem jf1 {vars:List VarT}{v:VarT}{s:SvT}{n:Int}(h:qy vars s=true)(h1:v.lo<=n)(h2:n<=v.hi):qy (vars ++ [v]) (s ++ [n])=true:=by
 obtain⟨hl,h3⟩:=qW.1 h;refine qW.2 ⟨by simp[hl],λi q1 q2=>?_⟩;by_cases e:i<vars.length
 ·rw[QbF e,QbF om];exact h3 i e om
 ·have hi:i=vars.length:=by simp at q1;omega
  subst hi;rw[Qci (τ _),Qci om];simp only[Nat.sub_self,hl];exact⟨h1,h2⟩
theorem jaC (vars:List VarT)(v:VarT):QT (vars ++ [v])=(QT vars).flatMap (Je v):=by
 unfold QT;rw[Qbb];rfl
theorem uo {v:VarT}{s x:SvT}:x∈Je v s↔∃ n,v.lo<=n/\n<=v.hi/\x=s ++ [n]:=by
 unfold Je;rw[QaH];constructor
 ·rintro ⟨i,hi,rfl⟩;have:=Qbo.1 hi;exact⟨_,om,om,rfl⟩
 ·rintro ⟨n,h1,h2,rfl⟩;refine⟨(n - v.lo).toNat,Qbo.2 om,?_⟩;rw[show v.lo+(((n - v.lo).toNat:Nat):Int)=n by omega]
theorem GN {vars:List VarT}{v:VarT}{x:SvT}:qy (vars ++ [v]) x=true↔∃ s n,x=s ++ [n]/\qy vars s=true/\v.lo<=n/\n<=v.hi:=by
 constructor
 ·intro h;obtain⟨h1,h2⟩:=qW.1 h;rw[υ,Qbk] at h1;have hne:x≠[]:=λe=>by rw[e] at h1;simp at h1
  obtain⟨s,n,rfl⟩:∃ s n,x=s ++ [n]:=⟨x.dropLast,x.getLast hne,(Qcv hne).symm⟩;rw[υ,Qbk] at h1;have hl:s.length=vars.length:=om
  refine⟨s,n,rfl,qW.2 ⟨hl,λi a b=>?_⟩,?_⟩
  ·have:=h2 i (by simp;omega) (by simp;omega);rw[QbF a,QbF b] at this;exact this
  ·have:=h2 vars.length (by simp) (by simp;omega);rw[Qci (τ _),Qci om] at this;simpa using this
 ·rintro ⟨s,n,rfl,h,h1,h2⟩;exact jf1 h h1 h2
theorem Kj:∀ (k:Nat) (vars:List VarT),vars.length=k->∀ x:SvT,x∈QT vars↔qy vars x=true
 |0,vars,hk,x=>by
  have e:vars=[]:=QbH.1 hk;subst e;rw[qW];show x∈[[]]↔_;rw[QaK];constructor
  ·rintro rfl;exact⟨rfl,λi h=>by cases h⟩
  ·rintro ⟨h,_⟩;exact QbH.1 h
 |k+1,vars,hk,x=>by
  have hne:vars≠[]:=λe=>by rw[e] at hk;simp at hk
  obtain⟨vs,v,rfl⟩:∃ vs v,vars=vs ++ [v]:=⟨vars.dropLast,vars.getLast hne,(Qcv hne).symm⟩;rw[υ,Qbk] at hk;rw[jaC,GN,List.mem_flatMap];constructor
  ·rintro ⟨s,hs,hx⟩;obtain⟨n,h1,h2,rfl⟩:=uo.1 hx;exact⟨s,n,rfl,(Kj k vs om s).1 hs,h1,h2⟩
  ·rintro ⟨s,n,rfl,h,h1,h2⟩;exact⟨s,(Kj k vs om s).2 h,uo.2 ⟨n,h1,h2,rfl⟩⟩
theorem jeM {vars:List VarT}{x:SvT}:x∈QT vars↔qy vars x=true:=Kj _ vars rfl x
theorem jfp:∀ (k:Nat) (vars:List VarT),vars.length=k->(QT vars).Nodup
 |0,vars,hk=>by
  have e:vars=[]:=QbH.1 hk;subst e;show([[]]:List SvT).Nodup;simp
 |k+1,vars,hk=>by
  have hne:vars≠[]:=λe=>by rw[e] at hk;simp at hk
  obtain⟨vs,v,rfl⟩:∃ vs v,vars=vs ++ [v]:=⟨vars.dropLast,vars.getLast hne,(Qcv hne).symm⟩;rw[υ,Qbk] at hk;rw[jaC];refine gu (jfp k vs om) (λs _=>?_) λs _ t _ hst a ha hb=>?_
  ·unfold Je;rw[List.nodup_iff_pairwise_ne,List.pairwise_map];refine List.Pairwise.imp ?_ List.nodup_range;intro i j hij e;have:=(List.append_inj' e rfl).2;simp at this;omega
  ·obtain⟨n,_,_,rfl⟩:=uo.1 ha;obtain⟨m,_,_,e⟩:=uo.1 hb;exact hst (List.append_inj' e rfl).1
theorem jdJ (vars:List VarT):(QT vars).Nodup:=jfp _ vars rfl
def uY (v:VarT):VarT:=if v.beg=true then { v with lo:=v.first,hi:=v.first } else v
def yJ (vars:List VarT):List SvT:=QT (vars.map uY)
def QV (vars:List VarT):Prop:=∀ v∈vars,v.beg=true->v.lo<=v.first/\v.first<=v.hi
theorem H0 {m:ModT}(hF:QV m.vars){x:SvT}:x∈yJ m.vars↔Ya m x=true:=by
 unfold yJ;rw[jeM];constructor
 ·intro h;obtain⟨h1,h2⟩:=qW.1 h;rw[Qah] at h1;have hb:∀ i (a:i<m.vars.length) (b:i<x.length),m.vars[i].lo<=x[i]/\x[i]<=m.vars[i].hi/\(m.vars[i].beg=true->x[i]=m.vars[i].first):=λi a b=>by
   have:=h2 i (by rw[Qah];exact a) b;rw[QbP] at this;unfold uY at this;split at this
   ·rename_i hg;have k:=hF _ (Qac a) hg;dsimp only at this;exact⟨om,om,λ_=>by omega⟩
   ·rename_i hg;exact⟨this.1,this.2,λk=>absurd k hg⟩
  have hr:qy m.vars x=true:=qW.2 ⟨h1,λi a b=>⟨(hb i a b).1,(hb i a b).2.1⟩⟩;exact(wA hr).2 λi a b=>(hb i a b).2.2
 ·intro h;have hr:qy m.vars x=true:=by
   unfold Ya at h;rw[Qaa] at h;exact h.1
  have hs:=(wA hr).1 h;obtain⟨h1,h2⟩:=qW.1 hr;refine qW.2 ⟨by rw[Qah];exact h1,λi a b=>?_⟩;rw[Qah] at a;rw[QbP];unfold uY;split
  ·rename_i hg;have:=hs i a b hg;dsimp only;omega
  ·exact h2 i a b
theorem uV {m:ModT}(hF:QV m.vars){x:SvT}(h:x∈yJ m.vars):qy m.vars x=true:=by
 have:=(H0 hF).1 h;unfold Ya at this;rw[Qaa] at this;exact this.1
theorem VO {vars:List VarT}(l:List SvT)(h1:l.Nodup)(h2:∀ x∈l,qy vars x=true):l.length<=QP vars:=by
 rw[<-kJ];exact jcD h1 λx hx=>jeM.2 (h2 x hx)
theorem gv {m:ModT}{s t:SvT}(hs:qy m.vars s=true)(h:t∈yg m s):qy m.vars t=true:=by
 unfold yg at h;rw[if_pos hs] at h;split at h
 ·rw[QaK.1 h];exact hs
 ·rcases uk h with h|⟨w,_,e⟩
  ·cases h
  ·exact wU e
def gf (m:ModT)(most:Int):Option (List SvT):=if((yJ m.vars).length:Int)<=most then Z2 (yg m) most 301 0 (yJ m.vars) else none
theorem jid {m:ModT}(hF:QV m.vars)(hc:QP m.vars<=300):∃ o,gf m 300=some o/\RInv (yg m) (λx=>qy m.vars x=true) (yJ m.vars) o.length o/\o.length<=300:=by
 have hN:∀ l:List SvT,l.Nodup->(∀ x∈l,qy m.vars x=true)->l.length<=300:=λl h1 h2=>Qab (VO l h1 h2) hc;have nd:(yJ m.vars).Nodup:=jdJ _;have fr:∀ x∈yJ m.vars,qy m.vars x=true:=λx hx=>uV hF hx;have hl:=hN _ nd fr;obtain⟨o,e,h⟩:=jcq (nx:=yg m) (most:=300) hN (λs hs t ht=>gv hs ht) dc (n:=301) (RInv.start nd fr) dc;exact⟨o,by unfold gf;rw[if_pos om];exact e,h,hN _ h.nd h.good⟩
end Go.Sy
end
