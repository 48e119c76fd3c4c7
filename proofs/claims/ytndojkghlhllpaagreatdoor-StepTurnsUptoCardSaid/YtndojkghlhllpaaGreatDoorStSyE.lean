/-
  Contracts: the code lowered, what it does told by rules, and the contracts of the functions that the law reaches.
-/
import Derived.Test.YtndojkghlhllpaaGreatDoorStSyD
import Derived.Test.YtndojkghlhllpaaGreatDoorProg
import Derived.KernelRfl
set_option linter.unusedVariables false
set_option linter.unusedSimpArgs false
open Go.Proofs.Tryz renaming prog → γ
open Nat renaming reduceAdd → δ, reduceSub → ε, reduceMul → ζ, reduceBEq → θ, le_refl → τ, le_trans → Qab, zero_le → Qae, zero_add → Qal, le_max_left → Qas, le_max_right → Qat, lt_or_ge → Qau, mul_le_mul_right → Qaw, lt_of_lt_of_le → Qax, not_lt_zero → QaG, add_mul → QaK, sub_zero → QaM, zero_mul → QaQ, succ_mul → QaS, succ_pos → QaT, le_of_eq → QaU, mul_one → Qbd, lt_irrefl → Qbf, min_eq_left → Qbh, ne_of_lt → Qbk, add_assoc → Qbl, add_zero → Qbn, mod_eq_of_lt → Qbp, one_mul → Qbs, succ_lt_succ → Qbw, add_comm → QbE, le_of_lt → QbI, lt_succ_self → QbU, lt_trichotomy → Qcb, le_succ_of_le → Qcg, beq → Qcn, succ → Qco, ble → Qcp, add → Qcq, mul → Qcr, sub → Qcs
open Int renaming reduceToNat → η, natCast_zero → ψ, zero_add → ω, ofNat → Qay, eq_ofNat_of_zero_le → Qbt, natCast_nonneg → QbN, toNat_natCast → QbP
open List renaming map_cons → κ, map_nil → μ, getD_cons_zero → ν, getD_cons_succ → ξ, length_cons → υ, length_append → φ, length_nil → χ, getD → Qac, getElem_mem → Qad, cons_append → Qaf, take_length → Qag, range' → Qah, all_eq_true → Qai, getElem?_eq_getElem → Qaj, range → Qak, nil_append → Qam, length_take → Qan, getD_eq_getElem?_getD → Qap, cons → Qaq, length_map → Qar, mem_append → Qaz, length_drop → QaC, all_cons → QaD, take_zero → QaF, append_assoc → QaH, mem_map → QaI, eq_nil_of_length_eq_zero → QaN, append_nil → QaP, map_congr_left → QaV, mem_cons → QaW, map_append → QaX, all_append → QaY, foldl_append → Qba, map_map → Qbb, drop_zero → Qbe, take_append_drop → Qbg, range'_succ → Qbi, mem_singleton → Qbm, drop_drop → Qbo, foldl_cons → Qbr, getElem_cons_zero → Qbu, length_pos_iff → Qbx, getElem_cons_drop → Qby, getElem?_take → Qbz, ext_getElem → QbA, mem_iff_getElem → QbB, getElem?_map → QbD, map_toArray → QbF, mem_range → QbH, getElem_cons_succ → QbJ, getElem?_drop → QbK, mem_of_mem_take → QbL, take_take → QbM, foldr_cons → QbO, length_range → QbQ, take_add_one → QbR, flatMap_cons → QbS, mem_cons_of_mem → QbV, drop_length → QbW, getElem?_append_left → QbY, getElem?_append_right → QbZ, countP_singleton → Qcd, take_succ_cons → Qce, take_of_length_le → Qcf, drop_eq_getElem_cons → Qcj, getElem_append_left → Qck, getElem_append_right → Qcl
open Bool renaming and_eq_true → Qaa, or_eq_true → Qav, eq_iff_iff → QaE, false_eq_true → QaO, not_eq_true' → QaR, or_eq_false_iff → Qbj, true_eq_false → Qbv
open Array renaming length_toList → Qao, getElem?_eq_some_iff → QaA, replicate → QaL, toList_map → Qbq, getElem?_toList → QbG, getD_eq_getD_getElem? → QbT, toList_append → Qca, mem_toList_iff → Qcc, getElem?_eq_getElem → Qch, getElem?_setIfInBounds_ne → Qci
open Option renaming map_some → QaB, getD_some → QaJ, bind_some → QaZ, map_none → Qbc, map_eq_some_iff → QbC, isSome_iff_exists → Qcm
open Function renaming comp_def → QbX
noncomputable section
set_option maxRecDepth 100000
namespace Go.Sy
open Go.Ev Go.Proofs
variable {base:Bs}
structure Kq (p mb lo:Nat)(s s':St):Prop where
 nx:s.nx<=s'.nx
 fr:s'.fr=s.fr
 get:∀ b,b<lo->b≠p->b≠mb->jx s'.h b=jx s.h b
section
variable {p mb lo:Nat} {s t u:St}
theorem Kq.refl:Kq p mb lo s s:=⟨τ _,rfl,λ_ _ _ _=>rfl⟩
theorem Kq.trans (h:Kq p mb lo s t)(k:Kq p mb lo t u):Kq p mb lo s u:=⟨Qab h.nx k.nx,k.fr.trans h.fr,λb h1 h2 h3=>(k.get b h1 h2 h3).trans (h.get b h1 h2 h3)⟩
theorem Kq.nw (h:Kq p mb lo s t)(hl:lo<=t.nx)(ds:List AV):Kq p mb lo s (Go.Sy.nw t ds):=⟨Qcg h.nx,h.fr,λb h1 h2 h3=>(JA om).trans (h.get b h1 h2 h3)⟩
theorem Kq.wr (h:Kq p mb lo s t){c:Nat}(hc:c=p\/lo<=c)(o:Nat)(vs:List AV):Kq p mb lo s (Go.Sy.wr t c o vs):=⟨h.nx,h.fr,λb h1 h2 h3=>(Jg om).trans (h.get b h1 h2 h3)⟩
theorem Kq.kl (h:Kq p mb lo s t){c:Nat}(hc:lo<=c):Kq p mb lo s (Go.Sy.kl c t):=⟨h.nx,h.fr,λb h1 h2 h3=>(vJ om).trans (h.get b h1 h2 h3)⟩
theorem Kq.mp (h:Kq p mb lo s t)(es:List (AV×AV)):Kq p mb lo s (Go.Sy.mp t mb es):=⟨h.nx,h.fr,λb h1 h2 h3=>by rw[gI,if_neg h3];exact h.get b h1 h2 h3⟩
theorem Kq.aps (h:Kq p mb lo s t){hi n z:Nat}{v:AV}{ds:List AV}{u:St}(V:Lv lo hi u v n ds z)(hl:lo<=t.nx)(news:List AV):Kq p mb lo s (Go.Sy.aps v t news):=⟨by rw[jm];exact Qcg h.nx,by rw[Z0];exact h.fr,λb h1 h2 h3=>(V.get t news b (.inl h1) om).trans (h.get b h1 h2 h3)⟩
theorem Kq.keep (h:Kq p mb lo s t)(k:Keep p t u)(hl:lo<=t.nx):Kq p mb lo s u:=⟨Qab h.nx k.nx,k.fr.trans h.fr,λb h1 h2 h3=>(k.get b om h2).trans (h.get b h1 h2 h3)⟩
theorem Kq.cl (h:Kq p mb lo s t){b:Nat}{cs:List AV}(C:Cl s b cs)(h1:b<lo)(h2:b≠p)(h3:b≠mb):Cl t b cs:=C.keep h.nx (h.get b h1 h2 h3)
theorem Kq.bk (h:Kq p mb lo s.bare t):Kq p mb lo s (bk s t):=⟨h.nx,rfl,h.get⟩
end
theorem Mp.nw {s:St}{b:Nat}{ts:List (List Nat)}(h:Mp s b ts)(ds:List AV):Mp (Go.Sy.nw s ds) b ts:=h.keep (Nat.le_succ _) (JA (by have:=h.lt;omega))
theorem Mp.wr {s:St}{b:Nat}{ts:List (List Nat)}(h:Mp s b ts){c:Nat}(hc:b≠c)(o:Nat)(ds:List AV):Mp (Go.Sy.wr s c o ds) b ts:=h.keep (τ _) (Jg hc)
theorem Vf {s:St}{b c:Nat}{es:List (AV×AV)}{cs:List AV}(h:c≠b):Cl (mp s b es) c cs=Cl s c cs:=propext ⟨λC=>C.keep (QaU (jfO s b es)) (by rw[gI,if_neg h]),λC=>C.keep (τ _) (by rw[gI,if_neg h])⟩
structure MS (p mb lo hi:Nat)(m:ModT)(ts:List (List Nat))(v1 v2 v3:AV)(s:St):Prop where
 cp:Cl s p [v1,v2,v3,.map mb,.bool false]
 mp:Mp s mb ts
 l1:Lv lo hi s v1 m.vars.length (fl vaE m.vars) 7
 l2:Lv lo hi s v2 m.enums.length (fl enE m.enums) 4
 l3:Lv lo hi s v3 m.moves.length (fl moE m.moves) 7
 d12:Df v1 v2
 d13:Df v1 v3
 d23:Df v2 v3
 hp:p<lo
 hm:mb<lo
 pm:p≠mb
 lo:lo<=hi
 hi:hi<=s.nx
def MX (p mb lo:Nat)(m:ModT)(ts:List (List Nat))(s:St):Prop:=∃ v1 v2 v3,MS p mb lo s.nx m ts v1 v2 v3 s
section
variable {p mb lo hi:Nat} {m:ModT} {ts us:List (List Nat)} {v1 v2 v3:AV} {s t:St}
theorem Lv.mp {n z:Nat}{v:AV}{cs:List AV}{es:List (AV×AV)}(h:Lv lo hi s v n cs z)(hm:mb<lo):Lv lo hi (Go.Sy.mp s mb es) v n cs z:=h.imp id λ⟨c,h1,h2,h3,h4,h5,h6⟩=>⟨c,h1,h2,h3,by rw[Vf om];exact h4,h5,h6⟩
theorem MS.nw (S:MS p mb lo hi m ts v1 v2 v3 s)(ds:List AV):MS p mb lo hi m ts v1 v2 v3 (Go.Sy.nw s ds):=by
 obtain⟨C,M,l1,l2,l3,d12,d13,d23,hp,hm,pm,h1,h2⟩:=S;exact⟨ckX,M.nw ds,ckX,ckX,ckX,d12,d13,d23,hp,hm,pm,h1,by rw[jg];omega⟩
theorem MS.wr (S:MS p mb lo hi m ts v1 v2 v3 s){c:Nat}(hc:hi<=c)(o:Nat)(ds:List AV):MS p mb lo hi m ts v1 v2 v3 (Go.Sy.wr s c o ds):=by
 obtain⟨C,M,l1,l2,l3,d12,d13,d23,hp,hm,pm,h1,h2⟩:=S;exact⟨ckX,M.wr om o ds,ckX,ckX,ckX,d12,d13,d23,hp,hm,pm,h1,by rw[jh];omega⟩
theorem MS.take (S:MS p mb lo hi m ts v1 v2 v3 s)(us:List (List Nat)):MS p mb lo hi m us v1 v2 v3 (Go.Sy.mp s mb (mpl us)):=by
 obtain⟨C,M,l1,l2,l3,d12,d13,d23,hp,hm,pm,h1,h2⟩:=S;exact⟨by rw[Vf pm];exact C,M.put,l1.mp hm,l2.mp hm,l3.mp hm,d12,d13,d23,hp,hm,pm,h1,h2⟩
theorem MS.keep (S:MS p mb lo hi m ts v1 v2 v3 s)(k:Keep p s t)(C':Cl t p [v1,v2,v3,.map mb,.bool false]):MS p mb lo hi m ts v1 v2 v3 t:=by
 obtain⟨C,M,l1,l2,l3,d12,d13,d23,hp,hm,pm,h1,h2⟩:=S;exact⟨C',M.keep k.nx (k.get mb M.lt om),k.lv l1 (.inl hp),k.lv l2 (.inl hp),k.lv l3 (.inl hp),d12,d13,d23,hp,hm,pm,h1,Qab h2 k.nx⟩
theorem MS.up (S:MS p mb lo hi m ts v1 v2 v3 s){hi':Nat}(h:hi<=hi')(h2:hi'<=s.nx):MS p mb lo hi' m ts v1 v2 v3 s:=by
 obtain⟨C,M,l1,l2,l3,d12,d13,d23,hp,hm,pm,h1,h3⟩:=S;exact⟨C,M,l1.up h,l2.up h,l3.up h,d12,d13,d23,hp,hm,pm,Qab h1 h,h2⟩
theorem MS.bare (S:MS p mb lo hi m ts v1 v2 v3 s):MS p mb lo hi m ts v1 v2 v3 s.bare:=by
 obtain⟨C,M,l1,l2,l3,d12,d13,d23,hp,hm,pm,h1,h2⟩:=S;exact⟨C.bar,⟨M.lt,M.get⟩,by rw[jH];exact l1,by rw[jH];exact l2,by rw[jH];exact l3,d12,d13,d23,hp,hm,pm,h1,h2⟩
theorem MS.ofbk {u:St}(S:MS p mb lo hi m ts v1 v2 v3 s):MS p mb lo hi m ts v1 v2 v3 (bk u s):=by
 obtain⟨C,M,l1,l2,l3,d12,d13,d23,hp,hm,pm,h1,h2⟩:=S;have e:∀ b cs,Cl s b cs->Cl (bk u s) b cs:=λb cs h=>⟨h.lt,h.row,h.len,h.cell⟩;have el:∀ v n cs z,Lv lo hi s v n cs z->Lv lo hi (bk u s) v n cs z:=λv n cs z h=>h.imp id λ⟨c,h1,h2,h3,h4,h5,h6⟩=>⟨c,h1,h2,h3,e _ _ h4,h5,h6⟩;exact⟨e _ _ C,⟨M.lt,M.get⟩,el _ _ _ _ l1,el _ _ _ _ l2,el _ _ _ _ l3,d12,d13,d23,hp,hm,pm,h1,h2⟩
theorem MS.enum (S:MS p mb lo hi m ts v1 v2 v3 s)(e:EnumT):MS p mb lo (s.nx+1) { m with enums:=m.enums ++ [e] } ts v1 (apv 4 v2 s) v3 (Go.Sy.wr (Go.Sy.aps v2 s (enE e)) p 1 [apv 4 v2 s]):=by
 obtain⟨C,M,l1,l2,l3,d12,d13,d23,hp,hm,pm,h1,h2⟩:=S;have h4:=C.lt;have hn:(Go.Sy.wr (Go.Sy.aps v2 s (enE e)) p 1 [apv 4 v2 s]).nx=s.nx+1:=by rw[jh,jm]
 refine⟨?_,?_,?_,?_,?_,(Df.put l1 h2).2,d13,(Df.put l3 h2).1,hp,hm,pm,om,by rw[hn];exact τ _⟩
 ·exact(cast (l2.cl s (enE e) _ p (.inl hp) h4).symm C:Cl (Go.Sy.aps v2 s (enE e)) p _).wr 1 [apv 4 v2 s]
 ·exact M.keep (by rw[hn];omega) (by rw[Jg (λh=>pm h.symm)];exact l2.get s (enE e) mb (.inl hm) M.lt)
 ·rw[jz (.inl hp)];exact(l1.apsD (Df.symm d12)).up om
 ·rw[jz (.inl hp),φ,Qn,JJ];exact l2.put (Jr e) om rfl
 ·rw[jz (.inl hp)];exact(l3.apsD d23).up om
end
def KM (p mb lo:Nat)(st:St)(r:KR (ModT×List (List Nat)))(K Kp:AV->St->Prop):Prop:=match r with
 |.ok y=>∀ s',Kq p mb lo st s'->MX p mb lo y.1 y.2 s'->K (.tup []) s'
 |.er c l k=>∀ s',Kq p mb lo st s'->Kp (kf c l k) s'
def Xy (ts:List (List Nat))(nm:List Nat)(l c:Int):KR (List (List Nat)):=if nm∈ts then .er 162 l c else .ok (ts ++ [nm])
def zo (l c:Int):List (List Nat)->List (List Nat)->KR (List (List Nat))
 |ts,[]=>.ok ts
 |ts,n :: ns=>match Xy ts n l c with
  |.er a b d=>.er a b d
  |.ok ts=>zo l c ts ns
def wO (m:ModT)(ts:List (List Nat))(e:EnumT):KR (ModT×List (List Nat)):=match zo e.line e.col ts (e.name :: e.vals) with
 |.er a b d=>.er a b d
 |.ok ts=>.ok ({ m with enums:=m.enums ++ [e] },ts)
theorem Wx {l c:Int}:∀ {xs ys:List (List Nat)} {ts:List (List Nat)},zo l c ts (xs ++ ys)=match zo l c ts xs with | .er a b d=>.er a b d | .ok us=>zo l c us ys
 |[],ys,ts=>rfl
 |x :: xs,ys,ts=>by
  simp only[Qaf,zo];cases Xy ts x l c with
  |er a b d=>rfl
  |ok us=>exact Wx
set_option maxHeartbeats 4000000 in
theorem jqU (hb:NB base)(hcl:∀ vs:List (List Nat),0<vs.length->vs.length<=1000000->Tot base 91 [.lst vs.length (vs.map .str)] (.lst vs.length (vs.map .str))){p mb lo:Nat}{m:ModT}{ts:List (List Nat)}{st:St}(e:EnumT)(hv:0<e.vals.length)(hv2:e.vals.length<=1000000)(hE:m.enums.length<=1000000)(H:MX p mb lo m ts st)(K Kp:AV->St->Prop)(hK:KM p mb lo st (wO m ts e) K Kp):XB γ base 68 [.ptr p 0,.agg (enE e)] st K Kp:=by
 obtain⟨v1,v2,v3,S⟩:=H;obtain⟨C,M,l1,l2,l3,d12,d13,d23,hp,hm,pm,lo0,hi0⟩:=id S;refine Jx x61 (by rfl) (hb.at0 68 dc dc _ _) ?_;simp only[y61,ju,κ,μ,ν,ξ];rw[(by unfold z61;simp only[qq];rfl:z61=_)];have q0:Kq p mb lo st.bare st.bare:=Kq.refl;have hnx:st.bare.nx=st.nx:=rfl;have S0:=S.bare.nw (enE e);have q1:=q0.nw lo0 (enE e);have Cb:Cl (Go.Sy.nw st.bare (enE e)) st.nx (enE e):=Cl.new st.bare (enE e);unfold wO at hK;repeat'(first|apply jc<;>intro _|simp(disch:=first|exact dzG|fail) only[r8,δ,ε,ζ,η,θ])
 refine KB hb S0.cp S0.mp _ _ _ _ _ ?_;by_cases h:e.name∈ts
 ·rw[if_pos h];have e1:zo e.line e.col ts (e.name :: e.vals)=.er 162 e.line e.col:=by simp only[zo,Xy,if_pos h]
  rw[e1] at hK;exact hK _ q1.bk
 ·rw[if_neg h];have e1:zo e.line e.col ts (e.name :: e.vals)=zo e.line e.col (ts ++ [e.name]) e.vals:=by simp only[zo,Xy,if_neg h]
  rw[e1] at hK
  replace S0:=S0.take (ts ++ [e.name])
  replace q1:=q1.mp (mpl (ts ++ [e.name]))
  have Cb:Cl (Go.Sy.mp (Go.Sy.nw st.bare (enE e)) mb (mpl (ts ++ [e.name]))) st.nx (enE e):=by rw[Vf om];exact Cb
  have hn1:(Go.Sy.mp (Go.Sy.nw st.bare (enE e)) mb (mpl (ts ++ [e.name]))).nx=st.nx+1:=rfl;generalize Go.Sy.mp (Go.Sy.nw st.bare (enE e)) mb (mpl (ts ++ [e.name]))=s1 at *
  (have zz:=@Cb.r;(repeat'(first|apply jc<;>intro _|simp(disch:=first|exact jT|fail) only[Cb.q,Cb.r,r8,δ,ε,ζ,η,θ]));all_goals clear zz)
  refine qg e.vals.length (λk L s=>∃ us,zo e.line e.col (ts ++ [e.name]) (e.vals.take k)=.ok us/\MS p mb lo st.nx m us v1 v2 v3 s/\Kq p mb lo st.bare s/\st.nx+1<=s.nx/\Cl s st.nx (enE e)/\Has L 0 (.ptr p 0)/\Has L 3 (.ptr st.nx 0)/\Has L 15 (.lst e.vals.length (e.vals.map .str))) (by first|assumption|omega) dc (by simp(disch:=decide) only[jf,jb]) (by simp(disch:=decide) only[jf,jb]) ?_ (λk L s v h=>(by obtain⟨us,h1,h2,h3,h4,h5,h6,h7,h8⟩:=h;refine⟨us,h1,h2,h3,h4,h5,?_,?_,?_⟩<;>simp(disch:=decide) only[jb]<;>assumption)) (λk L s v h=>(by obtain⟨us,h1,h2,h3,h4,h5,h6,h7,h8⟩:=h;refine⟨us,h1,h2,h3,h4,h5,?_,?_,?_⟩<;>simp(disch:=decide) only[jb]<;>assumption)) (λk L s hk hI hi hn=>?_) (λL s hI=>?_)
  ·refine⟨_,by rw[QaF,zo],S0,q1,om,Cb,?_,?_,?_⟩<;>simp(disch:=decide) only[jb,jf]
  ·obtain⟨us,h1,S1,q1,hnn,Cb,i0,i3,i15⟩:=hI;have tk:e.vals.take (k+1)=e.vals.take k ++ [e.vals[k]]:=yw hk
   (have zz:=@Cb.r;(repeat'(first|apply jc<;>intro _|simp(disch:=first|exact jT|fail) only[ja i0,ja i3,ja i15,ja hi,ja hn,jbL hk,Cb.q,Cb.r,r8,δ,ε,ζ,η,θ]));all_goals clear zz)
   refine KB hb S1.cp S1.mp _ _ _ _ _ ?_;by_cases h:e.vals[k]∈us
   ·rw[if_pos h];have e2:zo e.line e.col (ts ++ [e.name]) e.vals=.er 162 e.line e.col:=by
     have e3:e.vals=e.vals.take k ++ (e.vals[k] :: e.vals.drop (k+1)):=by rw[Qby,Qbg]
     rw[e3,Wx,h1];simp only[zo,Xy,if_pos h]
    rw[e2] at hK;exact hK _ q1.bk
   ·rw[if_neg h];have e2:zo e.line e.col (ts ++ [e.name]) (e.vals.take (k+1))=.ok (us ++ [e.vals[k]]):=by
     rw[tk,Wx,h1];simp only[zo,Xy,if_neg h]
    repeat'(first|apply jc<;>intro _|simp(disch:=first|exact dzG|fail) only[r8,δ,ε,ζ,η,θ])
    refine⟨⟨_,e2,S1.take _,q1.mp _,by rw[jfO];exact hnn,by rw[Vf om];exact Cb,?_,?_,?_⟩,?_,?_⟩<;>simp(disch:=decide) only[jb]<;>assumption
  ·obtain⟨us,h1,S1,q1,hnn,Cb,i0,i3,i15⟩:=hI;rw[Qag] at h1;rw[h1] at hK;have T:=λ(h:0<e.vals.length)=>hcl e.vals h hv2;have Cp:=S1.cp;have V2:=S1.l2;have ve2:=V2.eqs;have Ap:=λst' bv xc xx K h hv=>@J2 lo st.nx m.enums.length 4 st' v2 (fl enE m.enums) K 56 bv xc xx h dc om om hv;have hqp:st.nx≠p:=om
   have S2:=(S1.nw (enE e)).enum e;have S2:=(S2.up (by(first|omega|(simp only[jg,jh,jt,jm,jl];first|done|omega))) (τ _)).ofbk (u:=st);have q2:=(((q1.nw om (enE e)).aps V2 (by(first|omega|(simp only[jg,jh,jt,jm,jl];first|done|omega))) (enE e)).wr (.inl rfl) 1 [apv 4 v2 (Go.Sy.nw s (enE e))]).bk;have g0:rat s.h st.nx 0=.str e.name:=(Cb.cell 0 (by rw[Jr];decide)).trans (by rw[Vd];rfl);have g2:rat s.h st.nx 2=.int .i64 e.line:=(Cb.cell 2 (by rw[Jr];decide)).trans (by rw[Vd];rfl);have g3:rat s.h st.nx 3=.int .i64 e.col:=(Cb.cell 3 (by rw[Jr];decide)).trans (by rw[Vd];rfl);have gp:rat s.h p 1=v2:=Cp.cell 1 (by simp only[υ,χ];omega);have ln:qu s.h st.nx=4:=by rw[Cb.len,Jr]
   (have zz:=aI V2.ln (aI V2.rts (aI @jz (aI @jE (aI @jJ (aI @V2 (aI @jA (aI @jI (aI @jK (aI @Cb.r @Cp.r)))))))));(repeat'(first|apply jc<;>intro _|simp(disch:=first|exact jT|fail) only[ja i0,ja i3,T hv,Ap,GA,sm9,Gz,sm3,ve2,V2.at,jA,Cb.q,Cp.q,V2.ln,V2.rts,jz,jE,jJ,V2,jA,jI,jK,Cb.r,Cp.r,r8,δ,ε,ζ,η,θ]));all_goals clear zz)
   have a9:=(sm9 om g0 rfl).mpr trivial;have a2:=(sm3 om g2 rfl).mpr trivial;have a3:=(sm3 om g3 rfl).mpr trivial;have a23:=(GA (by rw[Cp.len];simp only[υ,χ];omega) gp ve2).mpr trivial;repeat' apply aI
   all_goals first|exact a9|exact a23|exact a2|exact a3|exact hK _ q2 ⟨_,_,_,S2⟩
mutual
def JZ:Ex->Option Ex
 |.mk op num name ks l c=>if op=4 then some (.mk op num name ks l c) else zR ks
def zR:List Ex->Option Ex
 |[]=>none
 |x :: xs=>match JZ x with
  |some y=>some y
  |none=>zR xs
end
theorem uo (x:Ex):JZ x=if x.op=4 then some x else zR x.kids:=by cases x;rw[JZ];rfl
theorem uM:∀ {xs ys:List Ex},zR (xs ++ ys)=match zR xs with|some y=>some y|none=>zR ys
 |[],ys=>rfl
 |x :: xs,ys=>by
  simp only[Qaf,zR];cases JZ x with
  |some y=>rfl
  |none=>exact uM
def Jl (x:Ex):Ex×Bool:=match JZ x with
 |some y=>(y,true)
 |none=>(x,false)
theorem G0.exb {s:St}{a:List AV}{b:Bool}{u:AV}(h:u=.tup [.agg a,.bool b])(ha:a.all pc=true):G0 u (.tup [.agg a,.bool b]) s:=by
 subst h;exact FzD.tup (.cons (.agg (.pc ha)) (.cons (.pc rfl) .nil))
set_option maxHeartbeats 4000000 in
theorem jnV (hb:NB base):∀ x:Ex,wo x=true->Tot base 95 [.agg (eE x)] (.tup [.agg (eE (Jl x).1),.bool (Jl x).2]):=by
 refine Ex.indk λx ih hw=>?_;have hw':x.kids.length<=1000000/\YU x.kids=true:=by cases x;rw[wo,Qaa,decide_eq_true_eq] at hw;exact hw
 refine hb.tot ?_ (by first|rfl|simp[pa,pc,qS,Xc,J0,JB,YV,wy,wC,Q7,Y7]) rfl;refine jF jtq (by rfl) (hb.pur 95 1 dc) ?_;simp only[jpc,ju,κ,μ,ν,ξ];rw[(by unfold jkk;simp only[qq];rfl:jkk=_)];repeat'(first|apply jc<;>intro _|simp(disch:=first|exact dzG|fail) only[r8,δ,ε,ζ,η,θ])
 ·rename_i h;have e:Jl x=(x,true):=by unfold Jl;rw[uo,if_pos h]
  rw[e];exact G0.exb rfl (qS x)
 rename_i h;have e0:JZ x=zR x.kids:=by rw[uo,if_neg h]
 refine qg x.kids.length (λk L s=>zR (x.kids.take k)=none/\2<=s.nx/\Cl s 0 (eE x)/\Cl s 1 z6/\Has L 1 (.ptr 0 0)/\Has L 2 (.ptr 1 0)/\Has L 13 (.lst x.kids.length (fl eE x.kids))) (by first|assumption|omega) dc (by simp(disch:=decide) only[jf,jb]) (by simp(disch:=decide) only[jf,jb]) ?_ (λk L s v h=>(by obtain⟨h1,h2,h3,h4,h5,h6,h7⟩:=h;refine⟨h1,h2,h3,h4,?_,?_,?_⟩<;>simp(disch:=decide) only[jb]<;>assumption)) (λk L s v h=>(by obtain⟨h1,h2,h3,h4,h5,h6,h7⟩:=h;refine⟨h1,h2,h3,h4,?_,?_,?_⟩<;>simp(disch:=decide) only[jb]<;>assumption)) (λk L s hk hI hi hn=>?_) (λL s hI=>?_)
 ·refine⟨by rw[QaF,zR],by(first|omega|(simp only[jg,jh,jt,jm,jl];first|done|omega)),?_,Cl.new _ _,?_,?_,?_⟩
  ·have n0:=Cl.new st0 (eE x);exact n0.nw _
  all_goals simp(disch:=decide) only[jb,jf]
 ·obtain⟨h1,h2,C0,C1,i1,i2,i13⟩:=hI;have E:=ih x.kids[k] (Qad hk) (Vs hk hw'.2);have tk:x.kids.take (k+1)=x.kids.take k ++ [x.kids[k]]:=yw hk;cases hf:JZ x.kids[k] with
  |some y=>
   have e:Jl x=(y,true):=by
    unfold Jl;have e3:x.kids=x.kids.take k ++ (x.kids[k] :: x.kids.drop (k+1)):=by rw[Qby,Qbg]
    rw[e0,e3,uM,h1];simp only[zR,hf]
   have e2:Jl x.kids[k]=(y,true):=by unfold Jl;rw[hf]
   rw[e2] at E;unfold z6 at C1
   (have zz:=aI C0.r C1.r;(repeat'(first|apply jc<;>intro _|simp(disch:=first|exact jT|fail) only[ja i1,ja i2,ja i13,ja hi,ja hn,E,C0.q,C1.q,C0.r,C1.r,r8,δ,ε,ζ,η,θ]));all_goals clear zz)
   rw[e];exact G0.exb rfl (qS y)
  |none=>
   have e2:Jl x.kids[k]=(x.kids[k],false):=by unfold Jl;rw[hf]
   rw[e2] at E
   (have zz:=aI C0.r C1.r;(repeat'(first|apply jc<;>intro _|simp(disch:=first|exact jT|fail) only[ja i1,ja i2,ja i13,ja hi,ja hn,E,C0.q,C1.q,C0.r,C1.r,r8,δ,ε,ζ,η,θ]));all_goals clear zz)
   refine⟨⟨?_,by(first|omega|(simp only[jg,jh,jt,jm,jl];first|done|omega)),ckX,ckX,?_,?_,?_⟩,?_,?_⟩
   ·rw[tk,uM,h1];simp only[zR,hf]
   all_goals(simp(disch:=decide) only[jb];assumption)
 ·obtain⟨h1,h2,C0,C1,i1,i2,i13⟩:=hI;rw[Qag] at h1;have e:Jl x=(x,false):=by unfold Jl;rw[e0,h1]
  unfold z6 at C1
  (have zz:=aI C0.r C1.r;(repeat'(first|apply jc<;>intro _|simp(disch:=first|exact jT|fail) only[ja i1,ja i2,C0.q,C1.q,C0.r,C1.r,r8,δ,ε,ζ,η,θ]));all_goals clear zz)
  rw[e,<-qx];exact G0.exb rfl (qS x)
section
variable {st:St} {K:AV->St->Prop}
theorem jhm (k:IntKind)(a b:Int):jk (Jk .add (.int k a) (.int k b) st) K=K (.int k (qO k (a+b))) st:=by
 cases k<;>rfl
theorem jg1 (k:IntKind)(a b:Int):jk (Jk .sub (.int k a) (.int k b) st) K=K (.int k (qO k (a - b))) st:=by
 cases k<;>rfl
theorem jg9 (k:IntKind)(a b:Int):jk (Jk .mul (.int k a) (.int k b) st) K=K (.int k (qO k (a * b))) st:=by
 cases k<;>rfl
theorem jpr (k:IntKind)(a:Int):jk (unV .neg (.int k a) st) K=K (.int k (qO k (-a))) st:=by
 have e:k.wrap (0 - a)=qO k (-a):=by rw[<-JD,Int.zero_sub]
 simp only[unV,Yh,O,e,jk]
theorem jhk (k j:IntKind)(a:Int):jk (jq6 k (.int j a) st) K=K (.int k (qO k a)) st:=by
 cases k<;>cases j<;>rfl
end
def Ke (b:Bool):Int:=if b then 1 else 0
def jgu (op num a b:Int):Int:=
 if op=5 then qO .i64 (-a) else if op=6 then qO .i64 (1 - a) else if op=14 then qO .i64 (a * b) else if op=15 then qO .i64 (a+b) else if op=16 then qO .i64 (a - b)
 else if op=17\/op=30 then Ke (decide (a=b)) else if op=18 then Ke (decide (a≠b)) else if op=19 then Ke (decide (a<b)) else if op=20\/op=29 then Ke (decide (a<=b))
 else if op=21 then Ke (decide (b<a)) else if op=22 then Ke (decide (b<=a)) else if op=27 then qO .i64 (a * b) else if op=28 then max a b else num
mutual
def Jm:Ex->Int
 |.mk op num _ ks _ _=>jgu op num ((Qp ks).getD 0 0) ((Qp ks).getD 1 0)
def Qp:List Ex->List Int
 |[]=>[]
 |x :: xs=>Jm x :: Qp xs
end
mutual
def J9:Ex->Bool
 |.mk _ _ _ ks _ _=>decide (ks.length<=2) && JU ks
def JU:List Ex->Bool
 |[]=>true
 |x :: xs=>J9 x && JU xs
end
theorem jja (x:Ex):Jm x=jgu x.op x.num ((Qp x.kids).getD 0 0) ((Qp x.kids).getD 1 0):=by cases x;rw[Jm];rfl
theorem Hg:∀ {xs:List Ex} {k:Nat} (h:k<xs.length),JU xs=true->J9 xs[k]=true
 |x :: xs,0,_,h=>by rw[JU,Qaa] at h;exact h.1
 |x :: xs,k+1,hk,h=>by rw[JU,Qaa] at h;exact Hg (xs:=xs) (k:=k) (by simpa using hk) h.2
theorem gQ:∀ {xs:List Ex} {k:Nat} (h:k<xs.length),zR xs=none->JZ xs[k]=none
 |x :: xs,0,_,h=>by
  rw[zR] at h;cases hx:JZ x with
  |none=>exact hx
  |some y=>rw[hx] at h;cases h
 |x :: xs,k+1,hk,h=>by
  rw[zR] at h;cases hx:JZ x with
  |none=>rw[hx] at h;exact gQ (xs:=xs) (k:=k) (by simpa using hk) h
  |some y=>rw[hx] at h;cases h
def Kh (ks:List Ex)(k:Nat):List AV:=[.int .i64 ((Qp (ks.take k)).getD 0 0),.int .i64 ((Qp (ks.take k)).getD 1 0)]
theorem jdk (ks:List Ex)(k:Nat):(Kh ks k).length=2:=nr rfl
theorem jn8 {ks:List Ex}{k:Nat}(hk:k<ks.length)(h2:ks.length<=2):upd (Kh ks k) k [.int .i64 (Jm ks[k])]=Kh ks (k+1):=by
 match ks,k with
 |[a],0=>rfl
 |[a,b],0=>rfl
 |[a,b],1=>rfl
 |[a],k+1=>simp at hk
 |[a,b],k+2=>exact absurd hk (by simp)
 |a :: b :: c :: l,_=>simp at h2
theorem jst (hb:NB base)(q:Bool):Tot base 124 [.bool q] (.int .i64 (Ke q)):=by
 refine hb.tot ?_ rfl rfl;refine jF js4 (by rfl) (hb.pur 124 1 dc) ?_;simp only[joQ,ju,κ,μ,ν,ξ];rw[(by unfold jjY;simp only[qq];rfl:jjY=_)];repeat'(first|apply jc<;>intro _|simp(disch:=first|exact dzG|fail) only[r8,δ,ε,ζ,η,θ])
 ·rename_i h;subst h;exact G0.v rfl rfl
 ·rename_i h;have h:q=false:=by simpa using h
  subst h;exact G0.v rfl rfl
set_option maxHeartbeats 4000000 in
theorem jgw (hb:NB base):∀ x:Ex,J9 x=true->JZ x=none->Tot base 96 [.agg (eE x)] (.int .i64 (Jm x)):=by
 refine Ex.indk λx ih ht hf=>?_;have ht':x.kids.length<=2/\JU x.kids=true:=by cases x;rw[J9,Qaa,decide_eq_true_eq] at ht;exact ht
 have hop:x.op≠4:=λh=>by rw[uo,if_pos h] at hf;cases hf
 rw[uo,if_neg hop] at hf;refine hb.tot ?_ (by first|rfl|simp[pa,pc,qS,Xc,J0,JB,YV,wy,wC,Q7,Y7]) rfl;refine jF jtp (by rfl) (hb.pur 96 1 dc) ?_;simp only[jpb,ju,κ,μ,ν,ξ];rw[(by unfold jkj;simp only[qq];rfl:jkj=_)];repeat'(first|apply jc<;>intro _|simp(disch:=first|exact dzG|fail) only[r8,δ,ε,ζ,η,θ])
 refine qg x.kids.length (λk L s=>2<=s.nx/\Cl s 0 (eE x)/\Cl s 1 (Kh x.kids k)/\Has L 1 (.ptr 0 0)/\Has L 3 (.ptr 1 0)/\Has L 8 (.lst x.kids.length (fl eE x.kids))) (by first|assumption|omega) dc (by simp(disch:=decide) only[jf,jb]) (by simp(disch:=decide) only[jf,jb]) ?_ (λk L s v h=>(by obtain⟨h2,h3,h4,h5,h6,h7⟩:=h;refine⟨h2,h3,h4,?_,?_,?_⟩<;>simp(disch:=decide) only[jb]<;>assumption)) (λk L s v h=>(by obtain⟨h2,h3,h4,h5,h6,h7⟩:=h;refine⟨h2,h3,h4,?_,?_,?_⟩<;>simp(disch:=decide) only[jb]<;>assumption)) (λk L s hk hI hi hn=>?_) (λL s hI=>?_)
 ·refine⟨by(first|omega|(simp only[jg,jh,jt,jm,jl];first|done|omega)),?_,Cl.new _ _,?_,?_,?_⟩
  ·have n0:=Cl.new st0 (eE x);exact n0.nw _
  all_goals simp(disch:=decide) only[jb,jf]
 ·obtain⟨h2,C0,C1,i1,i3,i8⟩:=hI;have E:=ih x.kids[k] (Qad hk) (Hg hk ht'.2) (gQ hk hf);have ap:=jn8 hk ht'.1;have hk2:k<2:=om
  (have zz:=aI @jdk (aI C0.r C1.r);(repeat'(first|apply jc<;>intro _|simp(disch:=first|exact jT|fail) only[ja i1,ja i3,ja i8,ja hi,ja hn,E,jdk,C0.q,C1.q,jdk,C0.r,C1.r,r8,δ,ε,ζ,η,θ]));all_goals clear zz)
  refine⟨⟨by(first|omega|(simp only[jg,jh,jt,jm,jl];first|done|omega)),ckX,Cl.cv (Cl.wr (?_:Cl _ 1 (Kh x.kids k)) k _) ap,?_,?_,?_⟩,?_,?_⟩
  ·exact ckX
  all_goals(simp(disch:=decide) only[jb];assumption)
 ·obtain⟨h2,C0,C1,i1,i3,i8⟩:=hI;have hc:=jja x;have ea:Kh x.kids x.kids.length=[.int .i64 ((Qp x.kids).getD 0 0),.int .i64 ((Qp x.kids).getD 1 0)]:=by unfold Kh;rw[Qag]
  rw[ea] at C1;generalize (Qp x.kids).getD 0 0=a at *;generalize (Qp x.kids).getD 1 0=b at *;rw[hc];have B:=jst hb
  (have zz:=aI C0.r C1.r;(repeat'(first|apply jc<;>intro _|simp(disch:=first|exact jT|fail) only[ja i1,ja i3,ja i8,B,jpr,jg1,jg9,jhm,C0.q,C1.q,C0.r,C1.r,r8,δ,ε,ζ,η,θ]));all_goals clear zz)
  all_goals(refine G0.v (congrArg _ ?_) rfl;unfold jgu;simp_all)
def stW (n:Int)(v:VarT):Int:=qO .u64 (n * qO .u64 (qO .u64 (qO .u64 v.hi - qO .u64 v.lo)+1))
def Jy (vars:List VarT):Int:=qO .i64 (vars.foldl stW 1)
set_option maxHeartbeats 4000000 in
theorem jbT (hb:NB base)(vars:List VarT)(hl:vars.length<=1000000)(n2 n3:Nat)(c2 c3:List AV):PL γ base 36 [.agg [.lst vars.length (fl vaE vars),.lst n2 c2,.lst n3 c3]] (.ok (.int .i64 (Jy vars))):=by
 refine QW x33 (by rfl) (hb.pur 36 5 dc) rfl ?_;simp only[y33,ju,κ,μ,ν,ξ];rw[(by unfold z33;simp only[qq];rfl:z33=_)];repeat'(first|apply jc<;>intro _|simp(disch:=first|exact dzG|fail) only[r8,δ,ε,ζ,η,θ])
 refine qg vars.length (λk L s=>1<=s.nx/\Has L 3 (.int .u64 ((vars.take k).foldl stW 1))/\Has L 7 (.lst vars.length (fl vaE vars))) (by first|assumption|omega) dc (by simp(disch:=decide) only[jf,jb]) (by simp(disch:=decide) only[jf,jb]) ?_ (λk L s v h=>(by obtain⟨h1,h2,h3⟩:=h;refine⟨h1,?_,?_⟩<;>simp(disch:=decide) only[jb]<;>assumption)) (λk L s v h=>(by obtain⟨h1,h2,h3⟩:=h;refine⟨h1,?_,?_⟩<;>simp(disch:=decide) only[jb]<;>assumption)) (λk L s hk hI hi hn=>?_) (λL s hI=>?_)
 ·refine⟨by(first|omega|(simp only[jg,jh,jt,jm,jl];first|done|omega)),?_,?_⟩<;>simp(disch:=decide) only[jb,jf,QaF,List.foldl_nil]
 ·obtain⟨h1,i3,i7⟩:=hI;have tk:vars.take (k+1)=vars.take k ++ [vars[k]]:=yw hk;have A1:=λa b st K=>@jhm st K .u64 a b;have A2:=λa b st K=>@jg1 st K .u64 a b;repeat'(first|apply jc<;>intro _|simp(disch:=first|exact dzG|fail) only[ja i3,ja i7,ja hi,ja hn,jhk,jg9,A1,A2,r8,δ,ε,ζ,η,θ])
  refine⟨⟨by(first|omega|(simp only[jg,jh,jt,jm,jl];first|done|omega)),?_,?_⟩,?_,?_⟩
  ·rw[tk,Qba];exact⟨rfl,rfl⟩
  all_goals(simp(disch:=decide) only[jb];assumption)
 ·obtain⟨h1,i3,i7⟩:=hI;rw[Qag] at i3;repeat'(first|apply jc<;>intro _|simp(disch:=first|exact dzG|fail) only[ja i3,jhk,r8,δ,ε,ζ,η,θ])
  exact G0.v rfl rfl
def Jt (vars:List VarT)(enums:List EnumT):VarT->List Ex->KR VarT
 |v,[]=>.ok v
 |v,x :: xs=>match yE vars enums false x v.kind v.enum with
  |.er a b c=>.er a b c
  |.ok y=>match JZ y with
   |some z=>.er 161 z.line z.col
   |none=>if Jm y<v.lo\/v.hi<Jm y then .er 164 x.line x.col else Jt vars enums { v with beg:=true,first:=Jm y } xs
theorem Kf {vars:List VarT}{enums:List EnumT}:∀ {xs ys:List Ex} {v:VarT},Jt vars enums v (xs ++ ys)=match Jt vars enums v xs with | .er a b c=>.er a b c | .ok u=>Jt vars enums u ys
 |[],ys,v=>rfl
 |x :: xs,ys,v=>by
  simp only[Qaf,Jt];cases yE vars enums false x v.kind v.enum with
  |er a b c=>rfl
  |ok y=>
   dsimp only;cases JZ y with
   |some z=>rfl
   |none=>
    dsimp only;split
    ·rfl
    ·exact Kf
def en0:EnumT:=⟨[],[],0,0⟩
def Js (enums:List EnumT)(nm:List Nat):Int:=fi (λx=>decide (x.name=nm)) enums
def uj (enums:List EnumT)(d:DeclT):KR VarT:=
 if d.ty=[98,111,111,108] then .ok ⟨d.name,2,[],0,1,false,0⟩
 else if 0<=Js enums d.ty then .ok ⟨d.name,3,d.ty,0,((enums.getD (Js enums d.ty).toNat en0).vals.length:Int) - 1,false,0⟩
 else if d.ty≠[] then .er 161 d.line d.col
 else if d.hi<d.lo then .er 164 d.line d.col
 else if 1024<=d.hi - d.lo then .er 165 d.line d.col
 else .ok ⟨d.name,1,[],d.lo,d.hi,false,0⟩
def kR (m:ModT)(ts:List (List Nat))(d:DeclT)(v:VarT):KR (ModT×List (List Nat)):=
 if 281474976710656<Jy (m.vars ++ [v]) then .er 165 d.line d.col else .ok ({ m with vars:=m.vars ++ [v] },ts)
def wT (m:ModT)(ts:List (List Nat))(d:DeclT)(v:VarT):KR (ModT×List (List Nat)):=match Jt m.vars m.enums v d.begins with
 |.er a b c=>.er a b c
 |.ok v=>kR m ts d v
def XR (m:ModT)(ts:List (List Nat))(d:DeclT):KR (ModT×List (List Nat)):=match Xy ts d.name d.line d.col with
 |.er a b c=>.er a b c
 |.ok ts=>match uj m.enums d with
  |.er a b c=>.er a b c
  |.ok v=>wT m ts d v
section
variable {p mb lo hi:Nat} {m:ModT} {ts us:List (List Nat)} {v1 v2 v3:AV} {s t:St}
theorem MS.ck (S:MS p mb lo hi m ts v1 v2 v3 s):Ck p v1 v2 v3 (.map mb) m.vars m.enums false s:=by
 obtain⟨C,M,l1,l2,l3,d12,d13,d23,hp,hm,pm,h1,h2⟩:=S;refine⟨C,l1.lr,l2.lr,?_,?_⟩
 ·intro b k z x e;rcases l1 with ⟨h,_⟩|⟨c,h,h2,_⟩
  ·rw[h] at e;cases e
  ·rw[h] at e;cases e;omega
 ·intro b k z x e;rcases l2 with ⟨h,_⟩|⟨c,h,h2,_⟩
  ·rw[h] at e;cases e
  ·rw[h] at e;cases e;omega
theorem MS.var (S:MS p mb lo hi m ts v1 v2 v3 s)(e:VarT):MS p mb lo (s.nx+1) { m with vars:=m.vars ++ [e] } ts (apv 7 v1 s) v2 v3 (Go.Sy.wr (Go.Sy.aps v1 s (vaE e)) p 0 [apv 7 v1 s]):=by
 obtain⟨C,M,l1,l2,l3,d12,d13,d23,hp,hm,pm,h1,h2⟩:=S;have h4:=C.lt;have hn:(Go.Sy.wr (Go.Sy.aps v1 s (vaE e)) p 0 [apv 7 v1 s]).nx=s.nx+1:=by rw[jh,jm]
 refine⟨?_,?_,?_,?_,?_,(Df.put l2 h2).1,(Df.put l3 h2).1,d23,hp,hm,pm,om,by rw[hn];exact τ _⟩
 ·exact(cast (l1.cl s (vaE e) _ p (.inl hp) h4).symm C:Cl (Go.Sy.aps v1 s (vaE e)) p _).wr 0 [apv 7 v1 s]
 ·exact M.keep (by rw[hn];omega) (by rw[Jg (λh=>pm h.symm)];exact l1.get s (vaE e) mb (.inl hm) M.lt)
 ·rw[jz (.inl hp),φ,Qn,JJ];exact l1.put (Xw e) om rfl
 ·rw[jz (.inl hp)];exact(l2.apsD d12).up om
 ·rw[jz (.inl hp)];exact(l3.apsD d13).up om
end
def va0:List AV:=[.str [],.int .i64 0,.str [],.int .i64 0,.int .i64 0,.bool false,.int .i64 0]
def dQ (st:St)(K:AV->St->Prop):Out->Prop:=Q2 γ y62.res λv s=>K v (back st s)
def dP (st:St)(Kp:AV->St->Prop):AV->Sl->St->Prop:=λv _ s=>Kp v (bk st s)
structure DS (p mb lo q:Nat)(m:ModT)(ts:List (List Nat))(v1 v2 v3:AV)(d:DeclT)(v:VarT)(st:St)(L:Sl)(s:St):Prop where
 S:MS p mb lo q m ts v1 v2 v3 s
 k:Kq p mb lo st.bare s
 nx:q+2<=s.nx
 c3:Cl s q (qj d)
 c4:Cl s (q+1) (vaE v)
 i0:Has L 0 (.ptr p 0)
 i3:Has L 3 (.ptr q 0)
 i4:Has L 4 (.ptr (q+1) 0)
theorem jkF (hb:NB base)(vars:List VarT)(hl:vars.length<=1000000){st:St}{v1 v2 v3:AV}{n2 n3:Nat}{c2 c3:List AV}(h1:Lr st v1 vars.length (fl vaE vars))(h2:Lr st v2 n2 c2)(h3:Lr st v3 n3 c3)(p2:c2.all pc=true)(p3:c3.all pc=true)(K Kp:AV->St->Prop) :
  XB γ base 36 [.agg [v1,v2,v3]] st K Kp=K (.int .i64 (Jy vars)) st:=by
 refine(jbT hb vars hl n2 n3 c2 c3).xb (Jo (jim (jf5 (h1.fz (d:=6) (zh YV vars)) (jf5 (h2.fz (d:=6) p2) (jf5 (h3.fz (d:=6) p3) jsn)))) uh) (λst=>hb.no 36 dc _ _) K Kp
set_option maxHeartbeats 4000000 in
theorem jq3 (hb:NB base){p mb lo q:Nat}{m:ModT}{ts:List (List Nat)}{v1 v2 v3:AV}{d:DeclT}{v:VarT}{st:St}{L:Sl}{s:St}(D:DS p mb lo q m ts v1 v2 v3 d v st L s)(hV:m.vars.length<=900000)(K Kp:AV->St->Prop)(hK:KM p mb lo st (kR m ts d v) K Kp):xC γ base jfe L s (dQ st K) (dP st Kp):=by
 obtain⟨S,k,nx,C3,C4,i0,i3,i4⟩:=D;obtain⟨C,M,l1,l2,l3,d12,d13,d23,hp,hm,pm,lo0,hi0⟩:=id S;have ve1:=l1.eqs;have Ap:=λst' bv xc xx K h hv=>@J2 lo q m.vars.length 7 st' v1 (fl vaE m.vars) K 72 bv xc xx h dc om om hv;have hqp:q≠p:=om
 have hqp1:q+1≠p:=om
 have S3:=(S.nw (vaE v)).var v;have q2:=(((k.nw om (vaE v)).aps l1 (by(first|omega|(simp only[jg,jh,jt,jm,jl];first|done|omega))) (vaE v)).wr (.inl rfl) 0 [apv 7 v1 (Go.Sy.nw s (vaE v))]).bk;have S33:=λK Kp=>jkF hb (m.vars ++ [v]) (by simp;omega) S3.l1.lr S3.l2.lr S3.l3.lr (zh J0 _) (zh wC _) K Kp;have S2:=(S3.up (by(first|omega|(simp only[jg,jh,jt,jm,jl];first|done|omega))) (τ _)).ofbk (u:=st);have gp:rat s.h p 0=v1:=C.cell 0 (by simp only[υ,χ];omega);clear S3;simp only[Wt] at S33;unfold dQ dP y62;rw[(by unfold jfe;simp only[qq];rfl:jfe=_)];unfold kR at hK;by_cases hs:281474976710656<Jy (m.vars ++ [v])
 ·rw[if_pos hs] at hK
  (have zz:=aI @l1.ln (aI @l1.rts (aI @jz (aI @jE (aI @jJ (aI @l1 (aI @jA (aI @jI (aI @jK (aI C3.r (aI C4.r C.r))))))))));(repeat'(first|apply jc<;>intro _|simp(disch:=first|exact jT|fail) only[ja i0,ja i3,ja i4,Ap,l1.at,S33,hs,zS hb,jA,C3.q,C4.q,C.q,l1.ln,l1.rts,jz,jE,jJ,l1,jA,jI,jK,C3.r,C4.r,C.r,r8,δ,ε,ζ,η,θ]));all_goals clear zz)
  exact hK _ q2
 ·rw[if_neg hs] at hK
  (have zz:=aI @l1.ln (aI @l1.rts (aI @jz (aI @jE (aI @jJ (aI @l1 (aI @jA (aI @jI (aI @jK (aI C3.r (aI C4.r C.r))))))))));(repeat'(first|apply jc<;>intro _|simp(disch:=first|exact jT|fail) only[ja i0,ja i3,ja i4,Ap,l1.at,S33,hs,jA,C3.q,C4.q,C.q,l1.ln,l1.rts,jz,jE,jJ,l1,jA,jI,jK,C3.r,C4.r,C.r,r8,δ,ε,ζ,η,θ]));all_goals clear zz)
  exact hK _ q2 ⟨_,_,_,S2⟩
mutual
theorem gw {vars:List VarT}{enums:List EnumT}:∀ (fm:Bool) (x y:Ex) (m:MtT),J9 x=true->yh vars enums fm x=.ok (y,m)->J9 y=true
 |fm,.mk op num name ks l c,y,m,ht,h=>by
  rw[yh] at h;split at h
  ·cases h;exact ht
  ·split at h
   ·cases h;exact ht
   ·split at h
    ·unfold zt at h;split at h
     ·cases h;rfl
     ·split at h
      ·cases h
      ·cases h;rfl
    ·split at h
     ·cases h
     ·rename_i r hr;rw[J9,Qaa,decide_eq_true_eq] at ht;have h2:=kz _ _ r.1 r.2 ht.2 hr;have h3:r.1.length=ks.length:=(Jp hr).1;unfold YC at h;have e:∀ o n nm l c,J9 (.mk o n nm r.1 l c)=true:=λo n nm l c=>by rw[J9,Qaa,decide_eq_true_eq];exact⟨om,h2⟩
      split at h
      ·cases h
      ·split at h
       ·cases h;exact e _ _ _ _ _
       ·split at h
        ·cases h
        ·cases h;exact e _ _ _ _ _
theorem kz {vars:List VarT}{enums:List EnumT}:∀ (fm:Bool) (xs ys:List Ex) (ms:List MtT),JU xs=true->qh vars enums fm xs=.ok (ys,ms)->JU ys=true
 |fm,[],ys,ms,_,h=>by rw[qh] at h;cases h;rfl
 |fm,x :: xs,ys,ms,ht,h=>by
  rw[JU,Qaa] at ht;rw[qh] at h;cases hx:yh vars enums fm x with
  |er a b d=>rw[hx] at h;cases h
  |ok y=>
   rw[hx] at h;cases hr:qh vars enums fm xs with
   |er a b d=>rw[hr] at h;cases h
   |ok r=>
    rw[hr] at h;cases h;rw[JU,Qaa];exact⟨gw fm x y.1 y.2 ht.1 hx,kz fm xs r.1 r.2 ht.2 hr⟩
end
theorem jdz {vars:List VarT}{enums:List EnumT}{fm:Bool}{x y:Ex}{w:Int}{en:List Nat}(ht:J9 x=true)(h:yE vars enums fm x w en=.ok y):J9 y=true:=by
 unfold yE at h;split at h
 ·cases h
 ·rename_i r hr;split at h
  ·cases h
  ·cases h;exact gw fm x r.1 r.2 ht hr
mutual
theorem YI:∀ x:Ex,J9 x=true->wo x=true
 |.mk op num name ks l c,h=>by
  rw[J9,Qaa,decide_eq_true_eq] at h;rw[wo,Qaa,decide_eq_true_eq];exact⟨om,Ky ks h.2⟩
theorem Ky:∀ xs:List Ex,JU xs=true->YU xs=true
 |[],_=>rfl
 |x :: xs,h=>by
  rw[JU,Qaa] at h;rw[YU,Qaa];exact⟨YI x h.1,Ky xs h.2⟩
end
def OkE (x:Ex):Prop:=J9 x=true/\ZP x=true
section
variable {p mb lo q:Nat} {m:ModT} {ts:List (List Nat)} {v1 v2 v3:AV} {d:DeclT} {v:VarT} {st:St} {L:Sl} {s:St}
theorem DS.push (D:DS p mb lo q m ts v1 v2 v3 d v st L s){c:Nat}{w:AV}(h:c≠0/\c≠3/\c≠4):DS p mb lo q m ts v1 v2 v3 d v st ((c,w) :: L) s:=by
 obtain⟨S,k,nx,c3,c4,i0,i3,i4⟩:=D;exact⟨S,k,nx,c3,c4,by rw[jb h.1];exact i0,by rw[jb h.2.1];exact i3,by rw[jb h.2.2];exact i4⟩
end
set_option maxHeartbeats 4000000 in
theorem jq4 (hb:NB base){p mb lo q:Nat}{m:ModT}{ts:List (List Nat)}{v1 v2 v3:AV}{d:DeclT}{v:VarT}{st:St}{L:Sl}{s:St}(D:DS p mb lo q m ts v1 v2 v3 d v st L s)(V:VarsOK m.vars m.enums)(hV:m.vars.length<=900000)(hx:∀ x∈d.begins,OkE x)(hbl:d.begins.length<=1000000)(K Kp:AV->St->Prop)(hK:KM p mb lo st (wT m ts d v) K Kp):xC γ base jbv L s (dQ st K) (dP st Kp):=by
 have i0:=D.i0;have i3:=D.i3;have i4:=D.i4;have C3:=D.c3;have C4:=D.c4;rw[(by unfold jbv;simp only[qq];rfl:jbv=_)]
 (have zz:=aI C3.r C4.r;(repeat'(first|apply jc<;>intro _|simp(disch:=first|exact jT|fail) only[ja i0,ja i3,ja i4,C3.q,C4.q,C3.r,C4.r,r8,δ,ε,ζ,η,θ]));all_goals clear zz)
 refine qg d.begins.length (λk L s=>(∃ u,Jt m.vars m.enums v (d.begins.take k)=.ok u/\DS p mb lo q m ts v1 v2 v3 d u st L s)/\Has L 93 (.lst d.begins.length (fl eE d.begins))) (by first|assumption|omega) dc (by simp(disch:=decide) only[jf,jb]) (by simp(disch:=decide) only[jf,jb]) ?_ (λk L s v h=>(by obtain⟨⟨u,h1,h2⟩,h3⟩:=h;refine⟨⟨u,h1,h2.push dc⟩,?_⟩;simp(disch:=decide) only[jb];assumption)) (λk L s v h=>(by obtain⟨⟨u,h1,h2⟩,h3⟩:=h;refine⟨⟨u,h1,h2.push dc⟩,?_⟩;simp(disch:=decide) only[jb];assumption)) (λk L s hk hI hi hn=>?_) (λL s hI=>?_)
 ·refine⟨⟨v,by rw[QaF,Jt],((D.push dc).push dc).push dc⟩,?_⟩;simp(disch:=decide) only[jb,jf]
 ·obtain⟨⟨u,h1,D⟩,i93⟩:=hI;obtain⟨S,k0,nx,C3,C4,i0,i3,i4⟩:=D;have tk:d.begins.take (k+1)=d.begins.take k ++ [d.begins[k]]:=yw hk;obtain⟨x1,x2⟩:=hx _ (Qad hk);have hqm:q≠p/\q+1≠p:=by have:=S.hp;have:=S.lo;omega
  have hqn:=S.hi;have hlq:=S.lo;have z6l:(eE d.begins[k]).length=([.int .i64 0,.int .i64 0,.str [],.nils,.int .i64 0,.int .i64 0]:List AV).length:=by rw[zT];rfl
  have S1:=(S.nw [.int .i64 0,.int .i64 0,.str [],.nils,.int .i64 0,.int .i64 0]).wr hqn 0 (eE d.begins[k]);have k1:=(k0.nw om [.int .i64 0,.int .i64 0,.str [],.nils,.int .i64 0,.int .i64 0]).wr (c:=s.nx) (.inr om) 0 (eE d.begins[k]);have C7:=(Cl.new s [.int .i64 0,.int .i64 0,.str [],.nils,.int .i64 0,.int .i64 0]).wr0 z6l;have D3:Cl (Go.Sy.wr (Go.Sy.nw s [.int .i64 0,.int .i64 0,.str [],.nils,.int .i64 0,.int .i64 0]) s.nx 0 (eE d.begins[k])) q (qj d):=ckX
  have D4:Cl (Go.Sy.wr (Go.Sy.nw s [.int .i64 0,.int .i64 0,.str [],.nils,.int .i64 0,.int .i64 0]) s.nx 0 (eE d.begins[k])) (q+1) (vaE u):=ckX
  (have zz:=aI C3.r C4.r;(repeat'(first|apply jc<;>intro _|simp(disch:=first|exact jT|fail) only[ja i0,ja i3,ja i4,ja i93,ja hi,ja hn,C3.q,C4.q,C3.r,C4.r,r8,δ,ε,ζ,η,θ]));all_goals clear zz)
  have hn1:(Go.Sy.wr (Go.Sy.nw s [.int .i64 0,.int .i64 0,.str [],.nils,.int .i64 0,.int .i64 0]) s.nx 0 (eE d.begins[k])).nx=s.nx+1:=rfl;generalize Go.Sy.wr (Go.Sy.nw s [.int .i64 0,.int .i64 0,.str [],.nils,.int .i64 0,.int .i64 0]) s.nx 0 (eE d.begins[k])=t1 at *;refine Uy hb V _ x2 (YI _ x1) u.kind u.enum S1.ck _ _ ?_;have e3:d.begins=d.begins.take k ++ (d.begins[k] :: d.begins.drop (k+1)):=by rw[Qby,Qbg]
  have bk1:Jt m.vars m.enums v d.begins=Jt m.vars m.enums u (d.begins[k] :: d.begins.drop (k+1)):=by
   have e:=congrArg (Jt m.vars m.enums v) e3;rw[Kf,h1] at e;exact e
  have bk2:Jt m.vars m.enums v (d.begins.take (k+1))=Jt m.vars m.enums u [d.begins[k]]:=by
   rw[tk,Kf,h1]
  unfold wT at hK;rw[bk1,Jt] at hK;rw[Jt] at bk2;cases hr:yE m.vars m.enums false d.begins[k] u.kind u.enum with
  |er a b c=>
   rw[hr] at hK;intro s' k2;exact hK _ (k1.keep k2 om).bk
  |ok y=>
   have y1:=jdz x1 hr;have y2:=YI _ y1;rw[hr] at hK bk2;dsimp only at hK bk2;intro s' k2 C2;have hs':=k2.nx;have k3:=k1.keep k2 om;have S3:=S1.keep k2 C2;have E3:=k2.cl D3 hqm.1;have E4:=k2.cl D4 hqm.2;have E7:=k2.cl C7 (by have:=S.cp.lt;omega);have F:=jnV hb y y2;clear S1 k1 k2 C2 C7 D3 D4 C3 C4 S k0;cases hf:JZ y with
   |some z=>
    rw[show Jl y=(z,true) by unfold Jl;rw[hf]] at F;rw[hf] at hK
    (have zz:=aI E3.r (aI E4.r E7.r);(repeat'(first|apply jc<;>intro _|simp(disch:=first|exact jT|fail) only[ja i0,ja i3,ja i4,F,zS hb,E3.q,E4.q,E7.q,E3.r,E4.r,E7.r,r8,δ,ε,ζ,η,θ]));all_goals clear zz)
    exact hK _ (((((k3.nw om _).wr (c:=s'.nx) (.inr om) 0 _).nw (by(first|omega|(simp only[jg,jh,jt,jm,jl];first|done|omega))) _).wr (.inr (by(first|omega|(simp only[jg,jh,jt,jm,jl];first|done|omega)))) 0 _)).bk
   |none=>
    rw[show Jl y=(y,false) by unfold Jl;rw[hf]] at F;rw[hf] at hK bk2;dsimp only at hK bk2;have G:=jgw hb y y1 hf;by_cases hc:Jm y<u.lo\/u.hi<Jm y
    ·rw[if_pos hc] at hK
     (have zz:=aI E3.r (aI E4.r E7.r);(repeat'(first|apply jc<;>intro _|simp(disch:=first|exact jT|fail) only[ja i0,ja i3,ja i4,F,G,zS hb,E3.q,E4.q,E7.q,E3.r,E4.r,E7.r,r8,δ,ε,ζ,η,θ]));all_goals clear zz)
     all_goals exact hK _ ((((((k3.nw om _).wr (c:=s'.nx) (.inr om) 0 _).nw (by(first|omega|(simp only[jg,jh,jt,jm,jl];first|done|omega))) _).wr (.inr (by(first|omega|(simp only[jg,jh,jt,jm,jl];first|done|omega)))) 0 _).wr (c:=q+1) (.inr om) 5 _).wr (c:=q+1) (.inr om) 6 _).bk
    ·rw[if_neg hc] at bk2;have hc1:¬ Jm y<u.lo:=λh=>hc (.inl h);have hc2:¬ u.hi<Jm y:=λh=>hc (.inr h)
     (have zz:=aI E3.r (aI E4.r E7.r);(repeat'(first|apply jc<;>intro _|simp(disch:=first|exact jT|fail) only[ja i0,ja i3,ja i4,ja hi,F,G,hc1,hc2,E3.q,E4.q,E7.q,E3.r,E4.r,E7.r,r8,δ,ε,ζ,η,θ]));all_goals clear zz)
     have S5:=((((((S3.nw [.int .i64 0,.int .i64 0,.str [],.nils,.int .i64 0,.int .i64 0]).wr (c:=s'.nx) om 0 (eE y)).nw [.int .i64 0,.int .i64 0,.str [],.nils,.int .i64 0,.int .i64 0]).wr (c:=s'.nx+1) om 0 (eE y)).wr (c:=q+1) om 5 [.bool true]).wr (c:=q+1) om 6 [.int .i64 (Jm y)]);have k5:=((((((k3.nw om [.int .i64 0,.int .i64 0,.str [],.nils,.int .i64 0,.int .i64 0]).wr (c:=s'.nx) (.inr om) 0 (eE y)).nw (by(first|omega|(simp only[jg,jh,jt,jm,jl];first|done|omega))) [.int .i64 0,.int .i64 0,.str [],.nils,.int .i64 0,.int .i64 0]).wr (c:=s'.nx+1) (.inr om) 0 (eE y)).wr (c:=q+1) (.inr om) 5 [.bool true]).wr (c:=q+1) (.inr om) 6 [.int .i64 (Jm y)]);refine⟨⟨⟨{ u with beg:=true,first:=Jm y },?_,S5,k5,by(first|omega|(simp only[jg,jh,jt,jm,jl];first|done|omega)),?_,Cl.wr (Cl.wr (?_:Cl _ (q+1) (vaE u)) 5 [.bool true]) 6 [.int .i64 (Jm y)],?_,?_,?_⟩,?_⟩,?_,?_⟩
     ·rw[bk2];rfl
     ·exact ckX
     ·exact ckX
     all_goals(simp(disch:=decide) only[jb];assumption)
 ·obtain⟨⟨u,h1,D⟩,i93⟩:=hI;rw[Qag] at h1;unfold wT at hK;rw[h1] at hK;repeat'(first|apply jc<;>intro _|simp(disch:=first|exact dzG|fail) only[r8,δ,ε,ζ,η,θ])
  exact jq3 hb D hV K Kp hK
theorem jgb (hb:NB base)(enums:List EnumT)(hl:enums.length<=1000000)(d:DeclT){v2:AV}(st:St){q:Nat}(h:Lr st v2 enums.length (fl enE enums))(C:Cl st q (qj d))(K Kp:AV->St->Prop) :
  XB γ base 92 [v2,.fn 93 [.ptr q 0]] st K Kp=K (.int .i64 (Js enums d.ty)) st:=by
 refine(jga hb enums (by unfold BIG;omega) d).xb (Jo (h.lend (zh J0 enums)) (Jo ?_ uh)) (λst=>hb.no 92 dc _ _) K Kp;show(Xk st.h [.ptr q 0]).map (AV.fn 93)=_;have:wF st.h (.ptr q 0)=some (.lptr (qj d) 0):=W0 C (Qm (W5 8 rfl) rfl (Qm (W5 8 rfl) rfl (Qm (W5 8 rfl) rfl (Qm (W5 8 rfl) rfl (Qm (W5 8 rfl) rfl (Qm (W5 8 rfl) rfl (Qm (W5 8 rfl) rfl GS)))))));simp only[Xk,this];rfl
set_option maxHeartbeats 4000000 in
theorem jq2 (hb:NB base){p mb lo:Nat}{m:ModT}{ts:List (List Nat)}{st:St}(d:DeclT)(V:VarsOK m.vars m.enums)(hV:m.vars.length<=900000)(hx:∀ x∈d.begins,OkE x)(hbl:d.begins.length<=1000000)(hlo : -100000000<=d.lo/\d.lo<=100000000)(hhi : -100000000<=d.hi/\d.hi<=100000000)(H:MX p mb lo m ts st)(K Kp:AV->St->Prop)(hK:KM p mb lo st (XR m ts d) K Kp):XB γ base 69 [.ptr p 0,.agg (qj d)] st K Kp:=by
 obtain⟨v1,v2,v3,S⟩:=H;obtain⟨C,M,l1,l2,l3,d12,d13,d23,hp,hm,pm,lo0,hi0⟩:=id S;refine Jx x62 (by rfl) (hb.at0 69 dc dc _ _) ?_;simp only[y62,ju,κ,μ,ν,ξ];rw[(by unfold z62;simp only[qq];rfl:z62=_)];have hnx:st.bare.nx=st.nx:=rfl;have S0:=S.bare.nw (qj d);have q1:=(Kq.refl:Kq p mb lo st.bare st.bare).nw (Qab lo0 hi0) (qj d);have Cb:Cl (Go.Sy.nw st.bare (qj d)) st.nx (qj d):=Cl.new st.bare (qj d);unfold XR Xy at hK;repeat'(first|apply jc<;>intro _|simp(disch:=first|exact dzG|fail) only[r8,δ,ε,ζ,η,θ])
 refine KB hb S0.cp S0.mp _ _ _ _ _ ?_;by_cases h:d.name∈ts
 ·rw[if_pos h] at hK ⊢;exact hK _ q1.bk
 ·rw[if_neg h] at hK ⊢
  replace S0:=S0.take (ts ++ [d.name])
  replace q1:=q1.mp (mpl (ts ++ [d.name]))
  have Cb:Cl (Go.Sy.mp (Go.Sy.nw st.bare (qj d)) mb (mpl (ts ++ [d.name]))) st.nx (qj d):=by rw[Vf om];exact Cb
  have hn1:(Go.Sy.mp (Go.Sy.nw st.bare (qj d)) mb (mpl (ts ++ [d.name]))).nx=st.nx+1:=rfl;generalize Go.Sy.mp (Go.Sy.nw st.bare (qj d)) mb (mpl (ts ++ [d.name]))=s1 at *;dsimp only at hK;have Cv:=(Cl.new s1 va0).wr0 (c':=vaE ⟨d.name,1,[],d.lo,d.hi,false,0⟩) rfl;have S1:=(S0.nw va0).wr (c:=s1.nx) om 0 (vaE ⟨d.name,1,[],d.lo,d.hi,false,0⟩);have q2:=(q1.nw om va0).wr (c:=s1.nx) (.inr om) 0 (vaE ⟨d.name,1,[],d.lo,d.hi,false,0⟩);have Cd:Cl (Go.Sy.wr (Go.Sy.nw s1 va0) s1.nx 0 (vaE ⟨d.name,1,[],d.lo,d.hi,false,0⟩)) st.nx (qj d):=ckX
  have FE:=λK Kp=>jgb hb m.enums V.len2 d _ S1.l2.lr Cd K Kp;have C0:=S0.cp;have C1:=S1.cp;have hmp:st.nx≠p/\st.nx+1≠p:=om
  simp only[Wt,hn1] at FE;simp only[hn1] at S1 q2 Cv Cd C1;unfold va0 at *;have mk:∀ (v:VarT) (L:Sl) (s:St),MS p mb lo st.nx m (ts ++ [d.name]) v1 v2 v3 s->Kq p mb lo st.bare s->st.nx+2<=s.nx->Cl s st.nx (qj d)->Cl s (st.nx+1) (vaE v)->Has L 0 (.ptr p 0)->Has L 3 (.ptr st.nx 0)->Has L 4 (.ptr (st.nx+1) 0)->KM p mb lo st (wT m (ts ++ [d.name]) d v) K Kp->xC γ base jbv L s (dQ st K) (dP st Kp):=λv L s a1 a2 a3 a4 a5 a6 a7 a8 hK=>jq4 hb ⟨a1,a2,a3,a4,a5,a6,a7,a8⟩ V hV hx hbl K Kp hK;unfold uj at hK;by_cases h1:d.ty=[98,111,111,108]
  ·rw[if_pos h1] at hK;have S2:=(((S1.wr (c:=st.nx+1) om 1 [.int .i64 2]).wr (c:=st.nx+1) om 3 [.int .i64 0]).wr (c:=st.nx+1) om 4 [.int .i64 1]);have q3:=(((q2.wr (c:=st.nx+1) (.inr om) 1 [.int .i64 2]).wr (c:=st.nx+1) (.inr om) 3 [.int .i64 0]).wr (c:=st.nx+1) (.inr om) 4 [.int .i64 1])
   (have zz:=aI @hn1 (aI @Cb.r C0.r);(repeat'(first|apply jc<;>intro _|simp(disch:=first|exact jT|fail) only[FE,h1,hn1,Cb.q,C0.q,hn1,Cb.r,C0.r,r8,δ,ε,ζ,η,θ]));all_goals clear zz)
   refine mk ⟨d.name,2,[],0,1,false,0⟩ _ _ S2 q3 (by(first|omega|(simp only[jg,jh,jt,jm,jl];first|done|omega))) (ckX) ?_ ?_ ?_ ?_ hK
   ·exact((Cv.wr 1 [.int .i64 2]).wr 3 [.int .i64 0]).wr 4 [.int .i64 1]
   all_goals simp(disch:=decide) only[jb,jf]
  rw[if_neg h1] at hK;by_cases h2:0<=Js m.enums d.ty
  ·rw[if_pos h2] at hK;have hlt:Js m.enums d.ty<(m.enums.length:Int):=Zb;have hi2:(Js m.enums d.ty).toNat<m.enums.length:=om
   have eg:m.enums.getD (Js m.enums d.ty).toNat en0=m.enums[(Js m.enums d.ty).toNat]:=by simp[Qac,hi2]
   rw[eg] at hK;have Lw:=S0.l2;rcases id Lw with ⟨_,e0,_⟩|⟨b,rfl,b1,b2,Ce,b5,b6⟩
   ·omega
   have gl:qu s1.h b=m.enums.length * 4:=by rw[Ce.len,zy Jr]
   have ge:rat s1.h b ((Js m.enums d.ty).toNat * 4+1)=.lst m.enums[(Js m.enums d.ty).toNat].vals.length (m.enums[(Js m.enums d.ty).toNat].vals.map .str):=by
    rw[Ce.cell _ (by rw[zy Jr];omega),vL Jr hi2 dc];rfl
   have hbp:b≠p/\b≠st.nx/\b≠st.nx+1/\b<s1.nx:=om
   have gp:rat s1.h p 1=.slice b 0 m.enums.length m.enums.length 4 false:=C0.cell 1 (by simp only[υ,χ];omega);have gd:rat s1.h st.nx 1=.str d.ty:=(Cb.cell 1 (by rw[QY];decide)).trans (by rw[Wi];rfl);have hvl:=V.vals _ (Qad hi2)
   (have zz:=aI @hn1 (aI @gl (aI @ge (aI @Cb.r C0.r)));(repeat'(first|apply jc<;>intro _|simp(disch:=first|exact jT|fail) only[FE,h1,h2,hn1,ge,sm9,GA,Gz,Cb.q,C0.q,hn1,gl,ge,Cb.r,C0.r,r8,δ,ε,ζ,η,θ]));all_goals clear zz)
   refine⟨?_,?_,?_,?_⟩;rotate_right
   ·have S2:=((((S1.wr (c:=st.nx+1) om 1 [.int .i64 3]).wr (c:=st.nx+1) om 2 [.str d.ty]).wr (c:=st.nx+1) om 3 [.int .i64 0]).wr (c:=st.nx+1) om 4 [.int .i64 ((m.enums[(Js m.enums d.ty).toNat].vals.length:Int) - 1)]);have q3:=((((q2.wr (c:=st.nx+1) (.inr om) 1 [.int .i64 3]).wr (c:=st.nx+1) (.inr om) 2 [.str d.ty]).wr (c:=st.nx+1) (.inr om) 3 [.int .i64 0]).wr (c:=st.nx+1) (.inr om) 4 [.int .i64 ((m.enums[(Js m.enums d.ty).toNat].vals.length:Int) - 1)]);refine mk ⟨d.name,3,d.ty,0,(m.enums[(Js m.enums d.ty).toNat].vals.length:Int) - 1,false,0⟩ _ _ S2 q3 (by(first|omega|(simp only[jg,jh,jt,jm,jl];first|done|omega))) (ckX) ?_ ?_ ?_ ?_ hK
    ·exact(((Cv.wr 1 [.int .i64 3]).wr 2 [.str d.ty]).wr 3 [.int .i64 0]).wr 4 [.int .i64 ((m.enums[(Js m.enums d.ty).toNat].vals.length:Int) - 1)]
    all_goals simp(disch:=decide) only[jb,jf]
   all_goals
    repeat' apply aI
    all_goals first
     |exact(Gz (by simp(disch:=omega) only[Xl,XL,gl];omega) (by simp(disch:=omega) only[Z3,vU,ge]) rfl).mpr trivial
     |exact(GA (by simp(disch:=omega) only[Xl,XL,C0.len,υ,χ];omega) (by simp(disch:=omega) only[Z3,vU,gp]) rfl).mpr trivial
     |exact(sm9 (by simp(disch:=omega) only[Xl,XL,Cb.len,QY];omega) (by simp(disch:=omega) only[Z3,vU,gd]) rfl).mpr trivial
  rw[if_neg h2] at hK;by_cases h3:d.ty≠[]
  ·rw[if_pos h3] at hK
   (have zz:=aI @hn1 (aI @Cb.r C0.r);(repeat'(first|apply jc<;>intro _|simp(disch:=first|exact jT|fail) only[FE,h1,h2,h3,hn1,zS hb,Cb.q,C0.q,hn1,Cb.r,C0.r,r8,δ,ε,ζ,η,θ]));all_goals clear zz)
   exact hK _ q2.bk
  rw[if_neg h3] at hK;have h3:(d.ty=[])=True:=eq_true (by simpa using h3);by_cases h4:d.hi<d.lo
  ·rw[if_pos h4] at hK
   (have zz:=aI @hn1 (aI @Cb.r C0.r);(repeat'(first|apply jc<;>intro _|simp(disch:=first|exact jT|fail) only[FE,h1,h2,h3,h4,hn1,zS hb,Cb.q,C0.q,hn1,Cb.r,C0.r,r8,δ,ε,ζ,η,θ]));all_goals clear zz)
   exact hK _ q2.bk
  rw[if_neg h4] at hK;by_cases h5:1024<=d.hi - d.lo
  ·rw[if_pos h5] at hK
   (have zz:=aI @hn1 (aI @Cb.r C0.r);(repeat'(first|apply jc<;>intro _|simp(disch:=first|exact jT|fail) only[FE,h1,h2,h3,h4,h5,hn1,zS hb,Cb.q,C0.q,hn1,Cb.r,C0.r,r8,δ,ε,ζ,η,θ]));all_goals clear zz)
   exact hK _ q2.bk
  rw[if_neg h5] at hK
  (have zz:=aI @hn1 (aI @Cb.r C0.r);(repeat'(first|apply jc<;>intro _|simp(disch:=first|exact jT|fail) only[FE,h1,h2,h3,h4,h5,hn1,Cb.q,C0.q,hn1,Cb.r,C0.r,r8,δ,ε,ζ,η,θ]));all_goals clear zz)
  refine mk _ _ _ S1 q2 (by(first|omega|(simp only[jg,jh,jt,jm,jl];first|done|omega))) (ckX) Cv ?_ ?_ ?_ hK;all_goals simp(disch:=decide) only[jb,jf]
theorem H0 {s:St}:∀ {cs:List AV},cs.all pc=true->lall AV.cell cs=true->Yq (fz 9 s.h) cs=cs
 |[],_,_=>GS
 |v :: l,hp,hc=>by
  rw[QaD,Qaa] at hp;have h1:v.cell=true/\lall AV.cell l=true:=by
   have:cond v.cell (lall AV.cell l) false=true:=hc;cases h:v.cell with
   |true=>rw[h] at this;exact⟨rfl,this⟩
   |false=>rw[h] at this;cases this
  exact Qm (W5 8 hp.1) h1.1 (H0 hp.2 h1.2)
theorem jrJ {α:Type}{enc:α->List AV}{z:Nat}(hz:∀ x,(enc x).length=z){xs:List α}{k:IntKind}{i:Nat}(hi:i<=xs.length){st:St}{K:AV->St->Prop}:jk (uH z (.lst xs.length (fl enc xs)) none (some (.int k (i:Int))) st) K=K (.lst i (fl enc (xs.take i))) st:=by
 have e1:Qcp (Qcr i z) (jR (fl enc xs))=true:=by
  rw[jO,zy hz];exact qE (Qaw z hi)
 simp only[uH,optA,GI,qE hi,qE (Qae i),e1,cond_true,jk,qY,y7];have e2:(fl enc xs).drop (Qcr 0 z)=fl enc xs:=by rw[show Qcr 0 z=0 from QaQ z];rfl
 have e3:Qcr (Qcs i 0) z=i * z:=rfl;rw[e2,e3,jeF hz];rfl
theorem jnU (hb:NB base)(xs:List AsT)(hl:xs.length<=1000000)(a:AsT)(st:St){q:Nat}(C:Cl st q (asE a))(n:Nat)(hn:n=xs.length)(K Kp:AV->St->Prop) :
  XB γ base 98 [.lst n (fl asE xs),.fn 99 [.ptr q 0]] st K Kp=K (.bool (decide (0<=fi (λx=>decide (x.name=a.name)) xs))) st:=by
 subst hn;refine(jnT hb xs (by unfold BIG;omega) a).xb (ZD rfl (Jo ?_ uh)) (λst=>hb.no 98 dc _ _) K Kp;show(Xk st.h [.ptr q 0]).map (AV.fn 99)=_;have:wF st.h (.ptr q 0)=some (.lptr (asE a) 0):=W0 C (H0 (Xc a) (Gf a));simp only[Xk,this];rfl
theorem jft (hb:NB base){p:Nat}{v1 v2 v3 mm:AV}{vars:List VarT}{enums:List EnumT}{fm:Bool}{st:St}(C:Ck p v1 v2 v3 mm vars enums fm st)(hl:vars.length<=1000000)(s:List Nat)(K Kp:AV->St->Prop) :
  XB γ base 97 [.ptr p 0,.str s] st K Kp=K (.int .i64 (jV vars s)) st:=by
 obtain⟨r,hr⟩:=C.lend;exact(Kv hb vars (by unfold BIG;omega) s _).xb (Jo hr (ZD rfl uh)) (λst=>hb.no 97 dc _ _) K Kp
def mvc:List MoveT->List AV->List AV
 |m :: ms,u :: us=>(eE m.when ++ [u]) ++ mvc ms us
 |_,_=>[]
theorem jeq:∀ {ms:List MoveT} {us:List AV} {m:MoveT} {u:AV},us.length=ms.length->mvc (ms ++ [m]) (us ++ [u])=mvc ms us ++ (eE m.when ++ [u])
 |[],[],m,u,_=>by simp[mvc]
 |m' :: ms,u' :: us,m,u,h=>by
  show(eE m'.when ++ [u']) ++ mvc (ms ++ [m]) (us ++ [u])=((eE m'.when ++ [u']) ++ mvc ms us) ++ (eE m.when ++ [u]);rw[jeq (by simpa using h)];simp only[QaH]
 |[],u' :: us,m,u,h=>by simp at h
 |m' :: ms,[],m,u,h=>by simp at h
def UU (lo hi:Nat)(s:St)(v3:AV):List MoveT->List AV->Prop
 |[],[]=>True
 |m :: ms,u :: us=>(Lv lo hi s u m.acts.length (fl seE m.acts) 7/\Df v3 u)/\UU lo hi s v3 ms us
 |_,_=>False
theorem UU.imp {lo hi lo' hi':Nat}{s s':St}{v3 v3':AV}(f:∀ u n cs,Lv lo hi s u n cs 7/\Df v3 u->Lv lo' hi' s' u n cs 7/\Df v3' u):∀ {ms:List MoveT} {us:List AV},UU lo hi s v3 ms us->UU lo' hi' s' v3' ms us
 |[],[],_=>trivial
 |m :: ms,u :: us,h=>⟨f _ _ _ h.1,UU.imp f h.2⟩
theorem UU.len {lo hi:Nat}{s:St}{v3:AV}:∀ {ms:List MoveT} {us:List AV},UU lo hi s v3 ms us->us.length=ms.length
 |[],[],_=>rfl
 |m :: ms,u :: us,h=>by simp[UU.len h.2]
theorem UU.app {lo hi:Nat}{s:St}{v3:AV}{m:MoveT}{u:AV}(hu:Lv lo hi s u m.acts.length (fl seE m.acts) 7/\Df v3 u):∀ {ms:List MoveT} {us:List AV},UU lo hi s v3 ms us->UU lo hi s v3 (ms ++ [m]) (us ++ [u])
 |[],[],_=>⟨hu,trivial⟩
 |m' :: ms,u' :: us,h=>⟨h.1,UU.app hu h.2⟩
structure MR (p mb lo hi:Nat)(m:ModT)(ts:List (List Nat))(v1 v2 v3:AV)(us:List AV)(s:St):Prop where
 cp:Cl s p [v1,v2,v3,.map mb,.bool false]
 mp:Mp s mb ts
 l1:Lv lo hi s v1 m.vars.length (fl vaE m.vars) 7
 l2:Lv lo hi s v2 m.enums.length (fl enE m.enums) 4
 l3:Lv lo hi s v3 m.moves.length (mvc m.moves us) 7
 uu:UU lo hi s v3 m.moves us
 d13:Df v3 v1
 d23:Df v3 v2
 hp:p<lo
 hm:mb<lo
 pm:p≠mb
 lo:lo<=hi
 hi:hi<=s.nx
def MZ (p mb lo:Nat)(m:ModT)(ts:List (List Nat))(s:St):Prop:=∃ v1 v2 v3 us,MR p mb lo s.nx m ts v1 v2 v3 us s
theorem Df.symm2 {v w:AV}(h:Df v w):Df w v:=by
 unfold Df at *;cases v<;>cases w<;>first|trivial|exact λe=>h e.symm
section
variable {p mb lo hi:Nat} {m:ModT} {ts us:List (List Nat)} {v1 v2 v3:AV} {ws:List AV} {s t:St}
theorem MS.mr (S:MS p mb lo hi m ts v1 v2 v3 s)(h:m.moves=[]):MR p mb lo hi m ts v1 v2 v3 [] s:=by
 obtain⟨C,M,l1,l2,l3,d12,d13,d23,hp,hm,pm,h1,h2⟩:=S;refine⟨C,M,l1,l2,?_,?_,Df.symm2 d13,Df.symm2 d23,hp,hm,pm,h1,h2⟩
 ·rw[h] at l3 ⊢;exact l3
 ·rw[h];trivial
theorem MR.ck (S:MR p mb lo hi m ts v1 v2 v3 ws s):Ck p v1 v2 v3 (.map mb) m.vars m.enums false s:=by
 obtain⟨C,M,l1,l2,l3,uu,d13,d23,hp,hm,pm,h1,h2⟩:=S;refine⟨C,l1.lr,l2.lr,?_,?_⟩
 ·intro b k z x e;rcases l1 with ⟨h,_⟩|⟨c,h,h2,_⟩
  ·rw[h] at e;cases e
  ·rw[h] at e;cases e;omega
 ·intro b k z x e;rcases l2 with ⟨h,_⟩|⟨c,h,h2,_⟩
  ·rw[h] at e;cases e
  ·rw[h] at e;cases e;omega
theorem MR.imp (S:MR p mb lo hi m ts v1 v2 v3 ws s){hi':Nat}(C:Cl t p [v1,v2,v3,.map mb,.bool false])(M:Mp t mb us)(f:∀ v n cs z,Lv lo hi s v n cs z->Lv lo hi' t v n cs z)(h1:hi<=hi')(h2:hi'<=t.nx):MR p mb lo hi' m us v1 v2 v3 ws t:=
 ⟨C,M,f _ _ _ _ S.l1,f _ _ _ _ S.l2,f _ _ _ _ S.l3,S.uu.imp λu n cs h=>⟨f _ _ _ _ h.1,h.2⟩,S.d13,S.d23,S.hp,S.hm,S.pm,Qab S.lo h1,h2⟩
theorem MR.nw (S:MR p mb lo hi m ts v1 v2 v3 ws s)(ds:List AV):MR p mb lo hi m ts v1 v2 v3 ws (Go.Sy.nw s ds):=by
 have C:=S.cp;have h1:=S.hp;have h2:=S.hi;have h3:=S.lo;exact S.imp (ckX) (S.mp.nw ds) (λv n cs z h=>ckX) (τ _) (by rw[jg];omega)
theorem MR.wr (S:MR p mb lo hi m ts v1 v2 v3 ws s){c:Nat}(hc:hi<=c)(o:Nat)(ds:List AV):MR p mb lo hi m ts v1 v2 v3 ws (Go.Sy.wr s c o ds):=by
 have C:=S.cp;have h1:=S.hp;have h2:=S.hi;have h3:=S.lo;have h4:=S.hm;exact S.imp (ckX) (S.mp.wr om o ds) (λv n cs z h=>ckX) (τ _) (by rw[jh];omega)
theorem MR.take (S:MR p mb lo hi m ts v1 v2 v3 ws s)(us:List (List Nat)):MR p mb lo hi m us v1 v2 v3 ws (Go.Sy.mp s mb (mpl us)):=
 S.imp (by rw[Vf S.pm];exact S.cp) S.mp.put (λv n cs z h=>h.mp S.hm) (τ _) S.hi
theorem MR.keep (S:MR p mb lo hi m ts v1 v2 v3 ws s)(k:Keep p s t)(C':Cl t p [v1,v2,v3,.map mb,.bool false]):MR p mb lo hi m ts v1 v2 v3 ws t:=
 S.imp C' (S.mp.keep k.nx (k.get mb S.mp.lt (λe=>S.pm e.symm))) (λv n cs z h=>k.lv h (.inl S.hp)) (τ _) (Qab S.hi k.nx)
theorem MR.up (S:MR p mb lo hi m ts v1 v2 v3 ws s){hi':Nat}(h:hi<=hi')(h2:hi'<=s.nx):MR p mb lo hi' m ts v1 v2 v3 ws s:=
 S.imp S.cp S.mp (λv n cs z k=>k.up h) h h2
theorem MR.bare (S:MR p mb lo hi m ts v1 v2 v3 ws s):MR p mb lo hi m ts v1 v2 v3 ws s.bare:=
 S.imp S.cp.bar ⟨S.mp.lt,S.mp.get⟩ (λv n cs z h=>by rw[jH];exact h) (τ _) S.hi
theorem MR.ofbk {u:St}(S:MR p mb lo hi m ts v1 v2 v3 ws s):MR p mb lo hi m ts v1 v2 v3 ws (bk u s):=by
 have e:∀ b cs,Cl s b cs->Cl (bk u s) b cs:=λb cs h=>⟨h.lt,h.row,h.len,h.cell⟩;exact S.imp (e _ _ S.cp) ⟨S.mp.lt,S.mp.get⟩ (λv n cs z h=>h.imp id λ⟨c,h1,h2,h3,h4,h5,h6⟩=>⟨c,h1,h2,h3,e _ _ h4,h5,h6⟩) (τ _) S.hi
theorem MR.aps (S:MR p mb lo hi m ts v1 v2 v3 ws s){lo' hi' n' z':Nat}{v':AV}{cs':List AV}(V:Lv lo' hi' s v' n' cs' z')(h:hi<=lo')(ds:List AV):MR p mb lo hi m ts v1 v2 v3 ws (Go.Sy.aps v' s ds):=by
 have h0:=S.hp;have h1:=S.hm;have h2:=S.lo;have h3:=S.hi;exact S.imp (S.cp.aps V (.inl om)) (S.mp.keep (by rw[jm];omega) (V.get s ds mb (.inl om) S.mp.lt)) (λv n cs z k=>k.aps V (.inl h)) (τ _) (by rw[jm];omega)
theorem Lv.low {lo lo' hi n z:Nat}{s:St}{v:AV}{cs:List AV}(h:Lv lo' hi s v n cs z)(h2:lo<=lo'):Lv lo hi s v n cs z:=h.imp id λ⟨c,h1,h3,h4,h5,h6,h7⟩=>⟨c,h1,h3,h4,h5,om,h7⟩
theorem MR.move (S:MR p mb lo hi m ts v1 v2 v3 ws s)(e:MoveT){u:AV}{z:Nat}(V:Lv z s.nx s u e.acts.length (fl seE e.acts) 7)(hz:hi<=z):MR p mb lo (s.nx+1) { m with moves:=m.moves ++ [e] } ts v1 v2 (apv 7 v3 s) (ws ++ [u]) (Go.Sy.wr (Go.Sy.aps v3 s (eE e.when ++ [u])) p 2 [apv 7 v3 s]):=by
 obtain⟨C,M,l1,l2,l3,uu,d13,d23,hp,hm,pm,h1,h2⟩:=S;have h4:=C.lt;have hn:(Go.Sy.wr (Go.Sy.aps v3 s (eE e.when ++ [u])) p 2 [apv 7 v3 s]).nx=s.nx+1:=by rw[jh,jm]
 refine⟨?_,?_,?_,?_,?_,?_,(Df.put l1 h2).1,(Df.put l2 h2).1,hp,hm,pm,om,by rw[hn];exact τ _⟩
 ·exact(cast (l3.cl s (eE e.when ++ [u]) _ p (.inl hp) h4).symm C:Cl (Go.Sy.aps v3 s (eE e.when ++ [u])) p _).wr 2 [apv 7 v3 s]
 ·exact M.keep (by rw[hn];omega) (by rw[Jg (λh=>pm h.symm)];exact l3.get s (eE e.when ++ [u]) mb (.inl hm) M.lt)
 ·rw[jz (.inl hp)];exact(l1.apsD d13).up om
 ·rw[jz (.inl hp)];exact(l2.apsD d23).up om
 ·rw[jz (.inl hp),φ,jeq uu.len];exact l3.put (by rw[φ,zT];rfl) om rfl
 ·refine UU.app ?_ (uu.imp λu n cs h=>?_)
  ·rw[jz (.inl hp)];refine⟨((V.aps l3 (.inr hz)).up om).low om,?_⟩;have V':Lv lo s.nx s u e.acts.length (fl seE e.acts) 7:=V.low om;exact(Df.put V' (τ _)).1
  ·rw[jz (.inl hp)];exact⟨(h.1.apsD h.2).up om,(Df.put h.1 h2).1⟩
end
def vz:VarT:=⟨[],0,[],0,0,false,0⟩
def QD (vars:List VarT)(enums:List EnumT):List SetT->List AsT->List AsT->KR (List SetT)
 |acc,done,[]=>.ok acc
 |acc,done,a :: rest=>if jV vars a.name<0 then .er 161 a.line a.col
  else if 0<=fi (λx=>decide (x.name=a.name)) done then .er 162 a.line a.col
  else match yE vars enums false a.to (vars.getD (jV vars a.name).toNat vz).kind (vars.getD (jV vars a.name).toNat vz).enum with
   |.er x y z=>.er x y z
   |.ok y=>QD vars enums (acc ++ [⟨jV vars a.name,y⟩]) (done ++ [a]) rest
def XA (m:ModT)(ts:List (List Nat))(r:RuleT):KR (ModT×List (List Nat)):=match yE m.vars m.enums false r.when 2 [] with
 |.er a b c=>.er a b c
 |.ok w=>match QD m.vars m.enums [] [] r.acts with
  |.er a b c=>.er a b c
  |.ok ss=>.ok ({ m with moves:=m.moves ++ [⟨w,ss⟩] },ts)
def KZ (p mb lo:Nat)(st:St)(r:KR (ModT×List (List Nat)))(K Kp:AV->St->Prop):Prop:=match r with
 |.ok y=>∀ s',Kq p mb lo st s'->MZ p mb lo y.1 y.2 s'->K (.tup []) s'
 |.er c l k=>∀ s',Kq p mb lo st s'->Kp (kf c l k) s'
def moL (w:Ex)(vl:AV):List AV:=[.int .i64 w.op,.int .i64 w.num,.str w.name,.lst w.kids.length (fl eE w.kids),.int .i64 w.line,.int .i64 w.col,vl]
theorem jqj (w:Ex)(vl:AV):eE w ++ [vl]=moL w vl:=by rw[qx];rfl
def rQ (st:St)(K:AV->St->Prop):Out->Prop:=Q2 γ y64.res λv s=>K v (back st s)
structure RS (p mb lo q z:Nat)(m:ModT)(ts:List (List Nat))(v1 v2 v3:AV)(ws:List AV)(r:RuleT)(w:Ex)(acc:List SetT)(vl:AV)(st:St)(L:Sl)(s:St):Prop where
 S:MR p mb lo q m ts v1 v2 v3 ws s
 k:Kq p mb lo st.bare s
 qz:q<z
 nx:z+1<=s.nx
 c3:Cl s q (ruE r)
 c4:Cl s z (moL w vl)
 lv:Lv (z+1) s.nx s vl acc.length (fl seE acc) 7
 i0:Has L 0 (.ptr p 0)
 i3:Has L 3 (.ptr q 0)
 i4:Has L 4 (.ptr z 0)
theorem RS.push {p mb lo q z:Nat}{m:ModT}{ts:List (List Nat)}{v1 v2 v3:AV}{ws:List AV}{r:RuleT}{w:Ex}{acc:List SetT}{vl:AV}{st:St}{L:Sl}{s:St}(D:RS p mb lo q z m ts v1 v2 v3 ws r w acc vl st L s){c:Nat}{v:AV}(h:c≠0/\c≠3/\c≠4):RS p mb lo q z m ts v1 v2 v3 ws r w acc vl st ((c,v) :: L) s:=by
 obtain⟨S,k,qz,nx,c3,c4,lv,i0,i3,i4⟩:=D;exact⟨S,k,qz,nx,c3,c4,lv,by rw[jb h.1];exact i0,by rw[jb h.2.1];exact i3,by rw[jb h.2.2];exact i4⟩
theorem r12:type_of%(aI @je (aI @jj (aI @jY (aI @ji (aI @jd (aI @jn (aI @jo (aI @jq (aI @jr (aI @jp @rzZ)))))))))):=aI @je (aI @jj (aI @jY (aI @ji (aI @jd (aI @jn (aI @jo (aI @jq (aI @jr (aI @jp @rzZ)))))))))
set_option maxHeartbeats 4000000 in
theorem jpW (hb:NB base){p mb lo q z:Nat}{m:ModT}{ts:List (List Nat)}{v1 v2 v3:AV}{ws:List AV}{r:RuleT}{w:Ex}{acc:List SetT}{vl:AV}{st:St}{L:Sl}{s:St}(D:RS p mb lo q z m ts v1 v2 v3 ws r w acc vl st L s)(hM:m.moves.length<=1000000)(K Kp:AV->St->Prop)
  (hK:KZ p mb lo st (.ok ({ m with moves:=m.moves ++ [⟨w,acc⟩] },ts)) K Kp):xC γ base jfc L s (rQ st K) (dP st Kp):=by
 obtain⟨S,k,qz,nx,C3,C4,lv,i0,i3,i4⟩:=D;have C:=S.cp;have l3:=S.l3;have hp:=S.hp;have hlo:=S.lo;have hhi:=S.hi;have ve3:=l3.eqs;have vc:∀ l,lall AV.cell (vl :: l)=lall AV.cell l:=λl=>by show cond vl.cell _ false=_;rw[lv.cell];rfl
 have Ap:=λst' bv xc xx K h hv=>@J2 lo q m.moves.length 7 st' v3 (mvc m.moves ws) K 96 bv xc xx h dc om om hv;have hqp:q≠p/\z≠p:=om
 have lv2:Lv (z+1) (Go.Sy.nw s (moL w vl)).nx (Go.Sy.nw s (moL w vl)) vl acc.length (fl seE acc) 7:=by
  refine Lv.up (hi:=s.nx) ?_ (by(first|omega|(simp only[jg,jh,jt,jm,jl];first|done|omega)))
  exact ckX
 have S3:=(S.nw (moL w vl)).move ⟨w,acc⟩ (u:=vl) lv2 om;rw[jqj] at S3;have q2:=(((k.nw om (moL w vl)).aps l3 (by(first|omega|(simp only[jg,jh,jt,jm,jl];first|done|omega))) (moL w vl)).wr (.inl rfl) 2 [apv 7 v3 (Go.Sy.nw s (moL w vl))]).bk;have S2:=(S3.up (by(first|omega|(simp only[jg,jh,jt,jm,jl];first|done|omega))) (τ _)).ofbk (u:=st);have gp:rat s.h p 2=v3:=C.cell 2 (by simp only[υ,χ];omega);clear S3 lv2;unfold moL at *;unfold rQ dP y64;rw[(by unfold jfc;simp only[qq];rfl:jfc=_)]
 (have zz:=aI @vc (aI @l3.ln (aI @l3.rts (aI @jz (aI @jE (aI @jJ (aI @l3 (aI @jA (aI @jI (aI @jK (aI C3.r (aI C4.r C.r)))))))))));(repeat'(first|apply jc<;>intro _|simp(disch:=first|exact jT|fail) only[ja i0,ja i3,ja i4,Ap,l3.at,jA,C3.q,C4.q,C.q,vc,l3.ln,l3.rts,jz,jE,jJ,l3,jA,jI,jK,C3.r,C4.r,C.r,r12,δ,ε,ζ,η,θ]));all_goals clear zz)
 exact hK _ q2 ⟨_,_,_,_,S2⟩
theorem jrW:Go.Ev.isAgg γ 67=some false:=by kernel_rfl
theorem jrV:Go.Ev.sizeOf γ 67=some 1:=by kernel_rfl
theorem jpO {b o:Nat}{v:AV}{h:T AO}(ho:o<qu h b)(hv:rat h b o=v)(hc:eqs v=true):(jZ γ 67 (.ptr b o) v h=true)=True:=eq_true (QO jrW jrV ho hv hc)
def zA9:List AV:=[.str [],.int .i64 0,.int .i64 0,.str [],.nils,.int .i64 0,.int .i64 0,.int .i64 0,.int .i64 0]
theorem jbX {vars:List VarT}{enums:List EnumT}{acc:List SetT}{xs:List AsT}{k:Nat}(hk:k<xs.length):QD vars enums acc (xs.take k) (xs.drop k)=if jV vars xs[k].name<0 then .er 161 xs[k].line xs[k].col
  else if 0<=fi (λx=>decide (x.name=xs[k].name)) (xs.take k) then .er 162 xs[k].line xs[k].col
  else match yE vars enums false xs[k].to (vars.getD (jV vars xs[k].name).toNat vz).kind (vars.getD (jV vars xs[k].name).toNat vz).enum with
   |.er x y z=>.er x y z
   |.ok y=>QD vars enums (acc ++ [⟨jV vars xs[k].name,y⟩]) (xs.take (k+1)) (xs.drop (k+1)):=by
 have e:xs.drop k=xs[k] :: xs.drop (k+1):=(Qby hk).symm;rw[e,QD,<-yw hk]<;>rfl
set_option maxHeartbeats 8000000 in
theorem jpX (hb:NB base){p mb lo q z:Nat}{m:ModT}{ts:List (List Nat)}{v1 v2 v3:AV}{ws:List AV}{r:RuleT}{w:Ex}{st:St}{L:Sl}{s:St}(D:RS p mb lo q z m ts v1 v2 v3 ws r w [] .nils st L s)(V:VarsOK m.vars m.enums)(hx:∀ a∈r.acts,OkE a.to)(hbl:r.acts.length<=1000000)(hM:m.moves.length<=1000000)(K Kp:AV->St->Prop)
  (hK:KZ p mb lo st (match QD m.vars m.enums [] [] r.acts with | .er a b c=>.er a b c | .ok ss=>.ok ({ m with moves:=m.moves ++ [⟨w,ss⟩] },ts)) K Kp):xC γ base jfd L s (rQ st K) (dP st Kp):=by
 have i0:=D.i0;have i3:=D.i3;have i4:=D.i4;have C3:=D.c3;rw[(by unfold jfd;simp only[qq];rfl:jfd=_)]
 (have zz:=C3.r;(repeat'(first|apply jc<;>intro _|simp(disch:=first|exact jT|fail) only[ja i0,ja i3,ja i4,C3.q,C3.r,r12,δ,ε,ζ,η,θ]));all_goals clear zz)
 refine qg r.acts.length (λk L s=>(∃ acc vl,acc.length=k/\QD m.vars m.enums [] [] r.acts=QD m.vars m.enums acc (r.acts.take k) (r.acts.drop k)/\RS p mb lo q z m ts v1 v2 v3 ws r w acc vl st L s)/\Has L 14 (.lst r.acts.length (fl asE r.acts))) (by first|assumption|omega) dc (by simp(disch:=decide) only[jf,jb]) (by simp(disch:=decide) only[jf,jb]) ?_ (λk L s v h=>(by obtain⟨⟨acc,vl,h0,h1,h2⟩,h3⟩:=h;refine⟨⟨acc,vl,h0,h1,h2.push dc⟩,?_⟩;simp(disch:=decide) only[jb];assumption)) (λk L s v h=>(by obtain⟨⟨acc,vl,h0,h1,h2⟩,h3⟩:=h;refine⟨⟨acc,vl,h0,h1,h2.push dc⟩,?_⟩;simp(disch:=decide) only[jb];assumption)) (λk L s hk hI hi hn=>?_) (λL s hI=>?_)
 ·refine⟨⟨[],.nils,rfl,rfl,((D.push dc).push dc).push dc⟩,?_⟩;simp(disch:=decide) only[jb,jf]
 ·obtain⟨⟨acc,vl,hacc,h1,D⟩,i14⟩:=hI;obtain⟨S,k0,qz,nx,C3,C4,lv,i0,i3,i4⟩:=D;obtain⟨x1,x2⟩:=hx _ (Qad hk);have hlo:=S.lo;have hhi:=S.hi;have hp:=S.hp;have hqm:q≠p/\z≠p:=om
  have zl9:(asE r.acts[k]).length=zA9.length:=by rw[ZU];rfl
  have S1:=(S.nw zA9).wr (c:=s.nx) om 0 (asE r.acts[k]);have k1:=(k0.nw om zA9).wr (c:=s.nx) (.inr om) 0 (asE r.acts[k]);have C6:=(Cl.new s zA9).wr0 zl9;have D3:Cl (Go.Sy.wr (Go.Sy.nw s zA9) s.nx 0 (asE r.acts[k])) q (ruE r):=ckX
  have D4:Cl (Go.Sy.wr (Go.Sy.nw s zA9) s.nx 0 (asE r.acts[k])) z (moL w vl):=ckX
  have lv1:Lv (z+1) s.nx (Go.Sy.wr (Go.Sy.nw s zA9) s.nx 0 (asE r.acts[k])) vl acc.length (fl seE acc) 7:=ckX
  have hn1:(Go.Sy.wr (Go.Sy.nw s zA9) s.nx 0 (asE r.acts[k])).nx=s.nx+1:=rfl;have VC:=λnm K Kp=>jft hb S1.ck V.len nm K Kp;have HA:=λK Kp=>jnU hb (r.acts.take k) (by rw[Qan];omega) r.acts[k] _ C6 k (by rw[Qan];omega) K Kp;have SL:=λst K=>@jrJ _ asE 9 ZU r.acts .i64 k (QbI hk) st K;rw[h1,jbX hk] at hK;unfold zA9 at *
  (have zz:=aI C3.r C4.r;(repeat'(first|apply jc<;>intro _|simp(disch:=first|exact jT|fail) only[ja i0,ja i3,ja i4,ja i14,ja hi,ja hn,C3.q,C4.q,C3.r,C4.r,r12,δ,ε,ζ,η,θ]));all_goals clear zz)
  generalize Go.Sy.wr (Go.Sy.nw s [.str [],.int .i64 0,.int .i64 0,.str [],.nils,.int .i64 0,.int .i64 0,.int .i64 0,.int .i64 0]) s.nx 0 (asE r.acts[k])=t1 at *;have C1:=S1.cp;by_cases c1:jV m.vars r.acts[k].name<0
  ·rw[if_pos c1] at hK
   (have zz:=aI D3.r (aI D4.r C6.r);(repeat'(first|apply jc<;>intro _|simp(disch:=first|exact jT|fail) only[ja i0,ja i3,ja i4,VC,c1,zS hb,D3.q,D4.q,C6.q,D3.r,D4.r,C6.r,r12,δ,ε,ζ,η,θ]));all_goals clear zz)
   exact hK _ k1.bk
  rw[if_neg c1] at hK;by_cases c2:0<=fi (λx=>decide (x.name=r.acts[k].name)) (r.acts.take k)
  ·rw[if_pos c2] at hK
   (have zz:=aI D3.r (aI D4.r C6.r);(repeat'(first|apply jc<;>intro _|simp(disch:=first|exact jT|fail) only[ja i0,ja i3,ja i4,VC,c1,HA,SL,c2,zS hb,D3.q,D4.q,C6.q,D3.r,D4.r,C6.r,r12,δ,ε,ζ,η,θ]));all_goals clear zz)
   exact hK _ k1.bk
  rw[if_neg c2] at hK;have hlt:jV m.vars r.acts[k].name<(m.vars.length:Int):=Zb;have hi2:(jV m.vars r.acts[k].name).toNat<m.vars.length:=om
  have eg:m.vars.getD (jV m.vars r.acts[k].name).toNat vz=m.vars[(jV m.vars r.acts[k].name).toNat]:=by simp[Qac,hi2]
  rw[eg] at hK;have Lw:=S1.l1;rcases id Lw with ⟨_,e0,_⟩|⟨b,rfl,b1,b2,Ce,b5,b6⟩
  ·omega
  have gl:qu t1.h b=m.vars.length * 7:=by rw[Ce.len,zy Xw]
  have ge1:rat t1.h b ((jV m.vars r.acts[k].name).toNat * 7+1)=.int .i64 m.vars[(jV m.vars r.acts[k].name).toNat].kind:=by
   rw[Ce.cell _ (by rw[zy Xw];omega),vL Xw hi2 dc];rfl
  have ge2:rat t1.h b ((jV m.vars r.acts[k].name).toNat * 7+2)=.str m.vars[(jV m.vars r.acts[k].name).toNat].enum:=by
   rw[Ce.cell _ (by rw[zy Xw];omega),vL Xw hi2 dc];rfl
  have gp:rat t1.h p 0=.slice b 0 m.vars.length m.vars.length 7 false:=C1.cell 0 (by simp only[υ,χ];omega);unfold moL at D4 C4
  (have zz:=aI @gl (aI @ge1 (aI @ge2 (aI C1.r (aI D3.r (aI D4.r C6.r)))));(repeat'(first|apply jc<;>intro _|simp(disch:=first|exact jT|fail) only[ja i0,ja i3,ja i4,VC,c1,HA,SL,c2,ge1,ge2,YH,Vr,Vq (base:=base),C1.q,D3.q,D4.q,C6.q,gl,ge1,ge2,C1.r,D3.r,D4.r,C6.r,r12,δ,ε,ζ,η,θ]));all_goals clear zz)
  rw[<-qx];refine Uy hb V _ x2 (YI _ x1) _ _ S1.ck _ _ ?_;cases hr:yE m.vars m.enums false r.acts[k].to m.vars[(jV m.vars r.acts[k].name).toNat].kind m.vars[(jV m.vars r.acts[k].name).toNat].enum with
  |er a b c=>
   rw[hr] at hK;intro s' k2;repeat'(first|apply jc<;>intro _|simp(disch:=first|exact dzG|fail) only[YH,Vr,Vq (base:=base),r12,δ,ε,ζ,η,θ])
   exact hK _ (k1.keep k2 om).bk
  |ok y=>
   rw[hr] at hK;dsimp only at hK;intro s' k2 C2;have hs':=k2.nx;have k3:=k1.keep k2 om;have S3:=S1.keep k2 C2;have E3:=k2.cl D3 hqm.1;have E4:=k2.cl D4 hqm.2;have lv2:=k2.lv lv1 (.inl om);have ve:=lv2.eqs;have gz:rat s'.h z 6=vl:=E4.cell 6 (by simp only[υ,χ];omega);have Ap:=λst' bv xc xx K h hv=>@J2 (z+1) s.nx acc.length 7 st' vl (fl seE acc) K 80 bv xc xx h dc om om hv;have a59:jZ γ 67 (.ptr z 6) vl t1.h=true:=(jpO (by rw[D4.len];simp only[υ,χ];omega) (D4.cell 6 (by simp only[υ,χ];omega)) ve).mpr trivial;clear S1 k1 k2 C2 C6 D3 D4 C3 C4 S k0 VC HA SL ge1 ge2 gl gp Ce Lw C1 lv lv1;have hzp:p≠z:=λe=>hqm.2 e.symm;have lv3:Lv (z+1) (Go.Sy.nw s' (seE ⟨jV m.vars r.acts[k].name,y⟩)).nx (Go.Sy.nw s' (seE ⟨jV m.vars r.acts[k].name,y⟩)) vl acc.length (fl seE acc) 7:=by
    refine Lv.up (hi:=s.nx) ?_ (by(first|omega|(simp only[jg,jh,jt,jm,jl];first|done|omega)))
    exact ckX
   have S4:=((S3.nw (seE ⟨jV m.vars r.acts[k].name,y⟩)).aps lv3 om (seE ⟨jV m.vars r.acts[k].name,y⟩)).wr (c:=z) om 6 [apv 7 vl (Go.Sy.nw s' (seE ⟨jV m.vars r.acts[k].name,y⟩))];have k4:=((k3.nw om (seE ⟨jV m.vars r.acts[k].name,y⟩)).aps (lv3.low (lo:=lo) om) (by(first|omega|(simp only[jg,jh,jt,jm,jl];first|done|omega))) (seE ⟨jV m.vars r.acts[k].name,y⟩)).wr (c:=z) (.inr om) 6 [apv 7 vl (Go.Sy.nw s' (seE ⟨jV m.vars r.acts[k].name,y⟩))];have hlz:z+1<=s'.nx:=om
   (have zz:=aI @lv2.ln (aI @lv2.rts (aI @jz (aI @jE (aI @jJ (aI @lv2 (aI @jA (aI @jI (aI @jK (aI @ve (aI E3.r E4.r))))))))));(repeat'(first|apply jc<;>intro _|simp(disch:=first|exact jT|fail) only[ja i0,ja i3,ja i4,Ap,lv2.at,jpO,ve,jA,E3.q,E4.q,lv2.ln,lv2.rts,jz,jE,jJ,lv2,jA,jI,jK,ve,E3.r,E4.r,r12,δ,ε,ζ,η,θ]));all_goals clear zz)
   refine⟨a59,⟨⟨acc ++ [⟨jV m.vars r.acts[k].name,y⟩],_,?_,h1.trans ?_,S4,k4,qz,?_,?_,Cl.wr (?_:Cl _ z (moL w vl)) 6 [apv 7 vl (Go.Sy.nw s' (seE ⟨jV m.vars r.acts[k].name,y⟩))],?_,?_,?_,?_⟩,?_⟩,?_,?_⟩
   ·rw[φ,hacc];rfl
   ·rw[jbX hk,if_neg c1,if_neg c2,eg,hr]
   ·rw[jh,jm,jg];omega
   ·have:=(E3.nw (seE ⟨jV m.vars r.acts[k].name,y⟩)).aps lv3 (.inl om) (news:=seE ⟨jV m.vars r.acts[k].name,y⟩)
    exact ckX
   ·exact(E4.nw (seE ⟨jV m.vars r.acts[k].name,y⟩)).aps lv3 (.inl om)
   ·rw[jz (.inl om),φ,Qn,JJ];exact lv3.put (v7 _) (by(first|omega|(simp only[jg,jh,jt,jm,jl];first|done|omega))) (by(first|omega|(simp only[jg,jh,jt,jm,jl];first|done|omega)))
   all_goals(simp(disch:=decide) only[jb];assumption)
 ·obtain⟨⟨acc,vl,hacc,h1,D⟩,i14⟩:=hI;rw[Qag,QbW,QD] at h1;rw[h1] at hK;repeat'(first|apply jc<;>intro _|simp(disch:=first|exact dzG|fail) only[r12,δ,ε,ζ,η,θ])
  exact jpW hb D hM K Kp hK
def z7:List AV:=[.int .i64 0,.int .i64 0,.str [],.nils,.int .i64 0,.int .i64 0,.nils]
set_option maxHeartbeats 4000000 in
theorem jpV (hb:NB base){p mb lo:Nat}{m:ModT}{ts:List (List Nat)}{st:St}(r:RuleT)(V:VarsOK m.vars m.enums)(hw:OkE r.when)(hx:∀ a∈r.acts,OkE a.to)(hbl:r.acts.length<=1000000)(hM:m.moves.length<=1000000)(H:MZ p mb lo m ts st)(K Kp:AV->St->Prop)(hK:KZ p mb lo st (XA m ts r) K Kp):XB γ base 71 [.ptr p 0,.agg (ruE r)] st K Kp:=by
 obtain⟨v1,v2,v3,ws,S⟩:=H;have hp:=S.hp;have hlo:=S.lo;have hhi:=S.hi;refine Jx x64 (by rfl) (hb.at0 71 dc dc _ _) ?_;simp only[y64,ju,κ,μ,ν,ξ];rw[(by unfold z64;simp only[qq];rfl:z64=_)];have hnx:st.bare.nx=st.nx:=rfl;have S0:=S.bare.nw (ruE r);have q1:=(Kq.refl:Kq p mb lo st.bare st.bare).nw om (ruE r);have Cb:Cl (Go.Sy.nw st.bare (ruE r)) st.nx (ruE r):=Cl.new st.bare (ruE r);unfold XA at hK
 (have zz:=@Cb.r;(repeat'(first|apply jc<;>intro _|simp(disch:=first|exact jT|fail) only[Cb.q,Cb.r,r12,δ,ε,ζ,η,θ]));all_goals clear zz)
 rw[<-qx];have hn0:(Go.Sy.nw st.bare (ruE r)).nx=st.nx+1:=rfl;refine Uy hb V _ hw.2 (YI _ hw.1) _ _ S0.ck _ _ ?_;cases hr:yE m.vars m.enums false r.when 2 [] with
 |er a b c=>
  rw[hr] at hK;intro s' k2;exact hK _ (q1.keep k2 om).bk
 |ok y=>
  rw[hr] at hK;dsimp only at hK;intro s' k2 C2;have hs':=k2.nx;have k3:=q1.keep k2 om;have S3:=S0.keep k2 C2;have E3:=k2.cl Cb om;rw[qx];have S4:=(S3.nw z7).wr (c:=s'.nx) om 0 (moL y .nils);have k4:=(k3.nw om z7).wr (c:=s'.nx) (.inr om) 0 (moL y .nils);have C4:=(Cl.new s' z7).wr0 (c':=moL y .nils) rfl;unfold z7 moL at *;repeat'(first|apply jc<;>intro _|simp(disch:=first|exact dzG|fail) only[r12,δ,ε,ζ,η,θ])
  refine jpX hb ⟨S4,k4,?_,by(first|omega|(simp only[jg,jh,jt,jm,jl];first|done|omega)),ckX,C4,Lv.nil,?_,?_,?_⟩ V hx hbl hM K Kp hK
  ·omega
  all_goals simp(disch:=decide) only[jb,jf]
def fcl (c l k:Int):List AV:=[.int .i64 c,.int .i64 l,.int .i64 k]
theorem jsw (c l k:Int)(st:St)(K:AV->St->Prop):jk (Ge γ 45 (kf c l k) st) K=K (.tup [.agg (fcl c l k),.bool true]) st:=by
 have:Ge γ 45 (kf c l k) st=.ok (.tup [.agg (fcl c l k),.bool true]) st:=by kernel_rfl
 rw[this];rfl
theorem jqP (c l k:Int)(st:St)(K:AV->St->Prop):jk (QK γ .eql 20 true (kf c l k) .nilif st) K=K (.bool false) st:=by
 have:QK γ .eql 20 true (kf c l k) .nilif st=.ok (.bool false) st:=by kernel_rfl
 rw[this];rfl
theorem hY {fb:Nat}(st:St)(K:Md->St->Prop):DX γ base 67 [.ptr fb 0] .calm st.bare K=K .calm st.bare:=by
 refine jbl (λK hK=>?_) K;refine ur jpg (by rfl) rfl ?_;simp only[Gk,ju,κ,μ,ν,XW,Yy];rw[(by unfold Wl;simp only[qq];rfl:Wl=_)];repeat'(first|apply jc<;>intro _|simp(disch:=first|exact dzG|fail) only[jiX,Wn,r12,δ,ε,ζ,η,θ])
 exact hK
theorem jaZ {fb:Nat}(c l k:Int)(st:St)(h:qu st.h fb=3)(hn:fb<st.nx)(K:Md->St->Prop) :
  DX γ base 67 [.ptr fb 0] (.pan (kf c l k)) st.bare K=K .done (wr (wr (nw st.bare [.int .i64 0,.int .i64 0,.int .i64 0]) st.nx 0 (fcl c l k)) fb 0 (fcl c l k)):=by
 have C:Cl st.bare fb (rats st.h fb 0 3):=(Cl.of_rats hn h (J6 _ _ _ _) dc rfl).bar;have hcs:(rats st.h fb 0 3).length=3:=J6 _ _ _ _;refine jbl (λK hK=>?_) K;refine ur jpg (by rfl) rfl ?_;simp only[Gk,ju,κ,μ,ν,XW,Yy];rw[(by unfold Wl;simp only[qq];rfl:Wl=_)];have hl:=C.lt;have l0:=C.len;have hB:st.bare.nx=st.nx:=rfl;have hne:¬ fb=st.bare.nx:=om
 unfold fcl at *;have A:=jsw c l k;unfold fcl at A
 (have zz:=aI @l0 @hcs;(repeat'(first|apply jc<;>intro _|simp(disch:=first|exact jT|fail) only[jqP,jiF,A,Wn,l0,hcs,r12,δ,ε,ζ,η,θ]));all_goals clear zz)
 exact hK
theorem jtC {n:Nat}(h:0<n)(cs:List AV)(st:St)(K:AV->St->Prop):jk (QK γ .eql 106 true (.lst n cs) .nils st) K=K (.bool false) st:=by
 obtain⟨k,rfl⟩:∃ k,n=k+1:=⟨n - 1,om⟩;have:QK γ .eql 106 true (.lst (k+1) cs) .nils st=.ok (.bool false) st:=by kernel_rfl
 rw[this];rfl
theorem jtG {n:Nat}{cs:List AV}(h0:0<n)(hl:cs.length=n)(hn:n<=1000000)(K:AV->St->Prop):jk (J8 1 16 (.slice 0 0 0 0 1 true) (.lst n cs) (nw st0 [])) K=K (.slice 1 0 n n 1 false) (nw (nw st0 []) cs):=by
 have hg:jx (nw st0 []).h 0=some (.row 0 0 [] .e):=by kernel_rfl
 have e1:Qcr n 1=n:=Qbd n;have e2:Qcp n (jR cs)=true:=qE (by rw[jO];omega);have e3:yq cs n=cs:=by rw[qY,<-hl,Qag]
 have e4:Qcn (jR cs) n=true:=Zh (by rw[jO,hl]);have e5:Qcq 0 n=n:=Qal n;have e6:Qcp n 0=false:=jbm h0;have e7:Qcp (Qcr n 16) 140737488355328=true:=qE (by show n * 16<=_;omega);have e8:Qcp n 9223372036854775807=true:=qE om;have e9:Qcr 0 1=0:=rfl;have e10:Qcp (Qcq 0 0) 0=true:=rfl;have e11:jQ 0 [] .e 0 0=[]:=rfl;have e12:yR [] cs=cs:=by rw[yC];rfl
 simp only[J8,zX,firstCells,jG,e1,e2,cond_true,e3,q7,e4,hg,ym,e5,e6,cond_false,e7,e8,e9,e10,e11,e12,St.alloc_eq,jk];conv=>rhs;unfold nw
 rw[hl];rfl
set_option maxHeartbeats 1000000 in
theorem jn0 (hb:NB base)(vs:List (List Nat))(hv:0<vs.length)(hl:vs.length<=1000000):Tot base 91 [.lst vs.length (vs.map .str)] (.lst vs.length (vs.map .str)):=by
 refine hb.tot ?_ rfl rfl;have N:=jtC hv (vs.map .str);have A:=λK=>jtG (cs:=vs.map .str) hv (by simp) hl K;refine jF x99 (by rfl) (hb.pur 91 1 dc) ?_;simp only[y99,ju,κ,μ,ν,ξ];rw[(by unfold z99;simp only[qq];rfl:z99=_)];repeat'(first|apply jc<;>intro _|simp(disch:=first|exact dzG|fail) only[N,jf4,A,r12,δ,ε,ζ,η,θ])
 have C:Cl (nw (nw st0 []) (vs.map .str)) 1 (vs.map .str):=Cl.new (nw st0 []) _;refine FzD.slice C.rw_ (by simp) (Qae _) ?_;rw[Qbd,<-Qar (f:=AV.str),Qag];refine FzsD.pc ?_;simp[pc]
def yi {α β:Type}(f:β->α->KR β):β->List α->KR β
 |b,[]=>.ok b
 |b,x :: xs=>match f b x with
  |.er a c d=>.er a c d
  |.ok b=>yi f b xs
theorem W8 {α β:Type}{f:β->α->KR β}{b:β}{xs:List α}{k:Nat}(hk:k<xs.length):yi f b (xs.drop k)=match f b xs[k] with
  |.er a c d=>.er a c d
  |.ok b=>yi f b (xs.drop (k+1)):=by
 have e:xs.drop k=xs[k] :: xs.drop (k+1):=(Qby hk).symm;rw[e,yi]
abbrev MT:=ModT×List (List Nat)
def Y2 (b:MT)(p:ProcT):KR MT:=match Xy b.2 p.name p.line p.col with
 |.er a c d=>.er a c d
 |.ok ts=>yi (λb r=>XA b.1 b.2 r) (b.1,ts) p.rules
def md0:ModT:=⟨[],[],[]⟩
def Uc (b:MT)(l:List EnumT):KR MT:=yi (λb e=>wO b.1 b.2 e) b l
def vO (b:MT)(l:List DeclT):KR MT:=yi (λb e=>XR b.1 b.2 e) b l
def X7 (b:MT)(l:List ProcT):KR MT:=yi Y2 b l
def Ja (s:SrcT):KR MT:=match Uc (md0,[]) s.enums with
 |.er a c d=>.er a c d
 |.ok b=>match vO b s.vars with
  |.er a c d=>.er a c d
  |.ok b=>X7 b s.procs
def Uz (r:KR MT):AV:=match r with
 |.er c l k=>.tup [.agg (mdE md0),.agg (fcl c l k)]
 |.ok b=>.tup [.agg (mdE b.1),.agg (fcl 0 0 0)]
def mQ (base:Bs)(r:KR MT):Out->Prop:=G4 γ base y26.res (Xa G0 (.ok (Uz r))) (Q6 G0 (.ok (Uz r)))
def mP (base:Bs)(r:KR MT):AV->Sl->St->Prop:=VL γ base y26.res (Xa G0 (.ok (Uz r))) (Q6 G0 (.ok (Uz r)))
structure QS (src:SrcT)(L:Sl)(s:St):Prop where
 c0:Cl s 0 (srE src)
 c1:Cl s 1 [.nils,.nils,.nils]
 c2:Cl s 2 [.int .i64 0,.int .i64 0,.int .i64 0]
 fr:s.fr=[(67,[.ptr 2 0])]
 i1:Has L 1 (.ptr 0 0)
 i2:Has L 2 (.ptr 1 0)
 i3:Has L 3 (.ptr 2 0)
 i4:Has L 4 (.ptr 4 0)
section
variable {src:SrcT} {L:Sl} {s t:St}
theorem QS.push (h:QS src L s){c:Nat}{v:AV}(hc:c≠1/\c≠2/\c≠3/\c≠4):QS src ((c,v) :: L) s:=by
 obtain⟨c0,c1,c2,fr,i1,i2,i3,i4⟩:=h;exact⟨c0,c1,c2,fr,by rw[jb hc.1];exact i1,by rw[jb hc.2.1];exact i2,by rw[jb hc.2.2.1];exact i3,by rw[jb hc.2.2.2];exact i4⟩
theorem QS.kq (h:QS src L s)(k:Kq 4 3 5 s t):QS src L t:=
 ⟨k.cl h.c0 dc dc dc,k.cl h.c1 dc dc dc,k.cl h.c2 dc dc dc,k.fr.trans h.fr,h.i1,h.i2,h.i3,h.i4⟩
theorem jig {m d:Nat}{s:St}:FzD m (d+3) s (.agg [.nils,.nils,.nils]) (.agg (mdE md0)):=FzD.agg (.cons FzD.nils (.cons FzD.nils (.cons FzD.nils .nil)))
theorem r11:type_of%(aI @je (aI @jj (aI @jY (aI @ji (aI @jd (aI @qQ (aI @qP (aI @jn (aI @jo (aI @jq (aI @jr (aI @jp @rzZ)))))))))))):=aI @je (aI @jj (aI @jY (aI @ji (aI @jd (aI @qQ (aI @qP (aI @jn (aI @jo (aI @jq (aI @jr (aI @jp @rzZ)))))))))))
theorem UR {c l k:Int}(h:QS src L s):mP base (.er c l k) (kf c l k) L s:=by
 obtain⟨c0,c1,c2,fr,i1,i2,i3,i4⟩:=h;have l2:=c2.len;have n2:=c2.lt;unfold mP y26
 (have zz:=aI @c0.r (aI @c1.r @c2.r);(repeat'(first|apply jc<;>intro _|simp(disch:=first|exact jT|fail) only[ja i2,ja i3,Qe (f:=67) (vs:=[.ptr 2 0]),JC (f:=67) (vs:=[.ptr 2 0]),hY,jaZ,c0.q,c1.q,c2.q,c0.r,c1.r,c2.r,r11,δ,ε,ζ,η,θ]));all_goals clear zz)
 exact FzD.tup (.cons jig (.cons (.agg (.pc (by rfl))) .nil))
end
theorem jh7 {m lo hi d:Nat}{s:St}{v3:AV}(hm:m<=lo):∀ {ms:List MoveT} {us:List AV},UU lo hi s v3 ms us->FzsD m (d+3) s (mvc ms us) (fl moE ms)
 |[],[],_=>.nil
 |e :: ms,u :: us,h=>by
  show FzsD m (d+3) s ((eE e.when ++ [u]) ++ mvc ms us) (moE e ++ fl moE ms);refine FzsD.append ?_ (jh7 hm h.2);exact FzsD.append (FzsD.pc (qS _)) (.cons (h.1.1.fz hm (zh wy _)) .nil)
set_option maxHeartbeats 4000000 in
theorem m_d {src:SrcT}{L:Sl}{s:St}(D:QS src L s){m:ModT}{ts:List (List Nat)}(H:MZ 4 3 5 m ts s):xC γ base jfg L s (mQ base (.ok (m,ts))) (mP base (.ok (m,ts))):=by
 obtain⟨v1,v2,v3,ws,S⟩:=H;obtain⟨c0,c1,c2,fr,i1,i2,i3,i4⟩:=D;have C4:=S.cp;have l2:=c2.len;have n2:=c2.lt;have vc:∀ l,lall AV.cell (v1 :: v2 :: v3 :: l)=lall AV.cell l:=λl=>by
  show cond v1.cell (cond v2.cell (cond v3.cell _ false) false) false=_;rw[S.l1.cell,S.l2.cell,S.l3.cell];rfl
 unfold mQ mP y26;rw[(by unfold jfg;simp only[qq];rfl:jfg=_)]
 (have zz:=aI @vc (aI @c0.r (aI @c1.r (aI @c2.r C4.r)));(repeat'(first|apply jc<;>intro _|simp(disch:=first|exact jT|fail) only[ja i1,ja i2,ja i3,ja i4,Vw i3,Yx,Qe (f:=67) (vs:=[.ptr 2 0]),JC (f:=67) (vs:=[.ptr 2 0]),hY,jaZ,c0.q,c1.q,c2.q,C4.q,vc,c0.r,c1.r,c2.r,C4.r,r11,δ,ε,ζ,η,θ]));all_goals clear zz)
 have f:∀ v n cs z,Lv 5 s.nx s v n cs z->Lv 5 s.nx (Go.Sy.wr (Go.Sy.wr s 1 0 [v1,v2,v3]) 2 0 [.int .i64 0,.int .i64 0,.int .i64 0]).bare v n cs z:=λv n cs z h=>by
  rw[jH,jz (.inl dc),jz (.inl dc)];exact h
 refine FzD.tup (.cons (FzD.agg (.cons ((f _ _ _ _ S.l1).fz (Qae _) (zh YV _)) (.cons ((f _ _ _ _ S.l2).fz (Qae _) (zh J0 _)) (.cons ?_ .nil)))) (.cons (.agg (.pc (by rfl))) .nil))
 ·have u3:=S.uu.imp (λu n cs h=>(⟨f _ _ _ _ h.1,h.2⟩:Lv 5 s.nx (Go.Sy.wr (Go.Sy.wr s 1 0 [v1,v2,v3]) 2 0 [.int .i64 0,.int .i64 0,.int .i64 0]).bare u n cs 7/\Df v3 u));rcases f _ _ _ _ S.l3 with ⟨rfl,h1,h2⟩|⟨b,rfl,h1,h2,C,h3,h4⟩
  ·have:m.moves=[]:=QaN h1;show FzD _ _ _ _ (.lst m.moves.length (fl moE m.moves));rw[this];exact FzD.nils
  ·refine FzD.slice C.rw_ (QaU h2.symm) (Qae _) ?_;rw[<-h2,Qag];exact jh7 (Qae _) u3
structure ProcOK (p:ProcT):Prop where
 len:p.rules.length<=1000
 rules:∀ r∈p.rules,OkE r.when/\(∀ a∈r.acts,OkE a.to)/\r.acts.length<=1000000
structure DeclOK (d:DeclT):Prop where
 ex:∀ x∈d.begins,OkE x
 len:d.begins.length<=1000000
 lo : -100000000<=d.lo/\d.lo<=100000000
 hi : -100000000<=d.hi/\d.hi<=100000000
structure SrcOK (s:SrcT):Prop where
 ne:s.enums.length<=1000
 nv:s.vars.length<=1000
 np:s.procs.length<=100
 vals:∀ e∈s.enums,0<e.vals.length/\e.vals.length<=1000000
 vars:∀ d∈s.vars,DeclOK d
 procs:∀ p∈s.procs,ProcOK p
theorem Vc {m:ModT}{ts:List (List Nat)}{e:EnumT}{b:MT}(h:wO m ts e=.ok b):b.1={ m with enums:=m.enums ++ [e] }:=by
 unfold wO at h;split at h
 ·cases h
 ·cases h;rfl
theorem jbZ {m:ModT}{ts:List (List Nat)}{r:RuleT}{b:MT}(h:XA m ts r=.ok b):∃ e,b.1={ m with moves:=m.moves ++ [e] }:=by
 unfold XA at h;split at h
 ·cases h
 ·split at h
  ·cases h
  ·cases h;exact⟨_,rfl⟩
theorem Hb {vars:List VarT}{enums:List EnumT}:∀ {xs:List Ex} {v u:VarT},Jt vars enums v xs=.ok u->u.lo=v.lo/\u.hi=v.hi/\u.kind=v.kind/\u.enum=v.enum/\u.name=v.name
 |[],v,u,h=>by rw[Jt] at h;cases h;exact⟨rfl,rfl,rfl,rfl,rfl⟩
 |x :: xs,v,u,h=>by
  rw[Jt] at h;split at h
  ·cases h
  ·split at h
   ·cases h
   ·split at h
    ·cases h
    ·have:=Hb h;exact this
theorem jk6 {enums:List EnumT}{d:DeclT}{v:VarT}(hv:∀ e∈enums,e.vals.length<=1000000)(hd:DeclOK d)(h:uj enums d=.ok v) : -100000000<=v.lo/\v.lo<=100000000/\-100000000<=v.hi/\v.hi<=100000000:=by
 unfold uj at h;split at h
 ·cases h;dsimp only;omega
 ·split at h
  ·rename_i h2;cases h;dsimp only;have hlt:Js enums d.ty<(enums.length:Int):=Zb;have hi2:(Js enums d.ty).toNat<enums.length:=om
   have eg:enums.getD (Js enums d.ty).toNat en0=enums[(Js enums d.ty).toNat]:=by simp[Qac,hi2]
   rw[eg];have:=hv _ (Qad hi2);omega
  ·split at h
   ·cases h
   ·split at h
    ·cases h
    ·split at h
     ·cases h
     ·cases h;exact⟨hd.lo.1,hd.lo.2,hd.hi.1,hd.hi.2⟩
theorem jc2 {m:ModT}{ts:List (List Nat)}{d:DeclT}{b:MT}(hv:∀ e∈m.enums,e.vals.length<=1000000)(hd:DeclOK d)(h:XR m ts d=.ok b):∃ v:VarT,b.1={ m with vars:=m.vars ++ [v] }/\(-100000000<=v.lo/\v.lo<=100000000/\-100000000<=v.hi/\v.hi<=100000000):=by
 unfold XR at h;split at h
 ·cases h
 ·split at h
  ·cases h
  ·rename_i v hk;unfold wT at h;split at h
   ·cases h
   ·rename_i u hu;unfold kR at h;split at h
    ·cases h
    ·cases h;have hb:=Hb hu;refine⟨u,rfl,?_⟩;rw[hb.1,hb.2.1];exact jk6 hv hd hk
section
variable {src:SrcT} {L:Sl} {s t:St} {m:ModT} {ts:List (List Nat)}
theorem MX.box (h:MX 4 3 5 m ts s)(z cs:List AV):MX 4 3 5 m ts (Go.Sy.wr (Go.Sy.nw s z) s.nx 0 cs):=by
 obtain⟨v1,v2,v3,S⟩:=h;exact⟨v1,v2,v3,((S.nw z).wr (c:=s.nx) (τ _) 0 cs).up (by rw[jh,jg];omega) (τ _)⟩
theorem MZ.box (h:MZ 4 3 5 m ts s)(z cs:List AV):MZ 4 3 5 m ts (Go.Sy.wr (Go.Sy.nw s z) s.nx 0 cs):=by
 obtain⟨v1,v2,v3,ws,S⟩:=h;exact⟨v1,v2,v3,ws,((S.nw z).wr (c:=s.nx) (τ _) 0 cs).up (by rw[jh,jg];omega) (τ _)⟩
theorem MZ.nx5 (h:MZ 4 3 5 m ts s):5<=s.nx:=by obtain⟨v1,v2,v3,ws,S⟩:=h;exact S.lo
theorem MX.nx5 (h:MX 4 3 5 m ts s):5<=s.nx:=by obtain⟨v1,v2,v3,S⟩:=h;exact S.lo
theorem gq (h:5<=s.nx)(z cs:List AV):Kq 4 3 5 s (Go.Sy.wr (Go.Sy.nw s z) s.nx 0 cs):=(Kq.refl.nw h z).wr (.inr h) 0 cs
end
theorem MZ.take {m:ModT}{ts:List (List Nat)}{s:St}(h:MZ 4 3 5 m ts s)(us:List (List Nat)):MZ 4 3 5 m us (Go.Sy.mp s 3 (mpl us)):=by
 obtain⟨v1,v2,v3,ws,S⟩:=h;exact⟨v1,v2,v3,ws,S.take us⟩
def zr7:List AV:=[.int .i64 0,.int .i64 0,.str [],.nils,.int .i64 0,.int .i64 0,.nils]
def zp4:List AV:=[.str [],.nils,.int .i64 0,.int .i64 0]
set_option maxHeartbeats 8000000 in
theorem m_c (hb:NB base){src:SrcT}{L:Sl}{s:St}(D:QS src L s){m:ModT}{ts:List (List Nat)}(V:VarsOK m.vars m.enums)(hm:m.moves=[])(O:SrcOK src)(H:MZ 4 3 5 m ts s):xC γ base jfh L s (mQ base (X7 (m,ts) src.procs)) (mP base (X7 (m,ts) src.procs)):=by
 have c0:=D.c0;have i1:=D.i1;have onp:=O.np;generalize hR:X7 (m,ts) src.procs=R;rw[(by unfold jfh;simp only[qq];rfl:jfh=_)]
 (have zz:=@c0.r;(repeat'(first|apply jc<;>intro _|simp(disch:=first|exact jT|fail) only[ja i1,c0.q,c0.r,r11,δ,ε,ζ,η,θ]));all_goals clear zz)
 refine qg src.procs.length (λk L s=>(∃ b:MT,X7 b (src.procs.drop k)=R/\b.1.vars=m.vars/\b.1.enums=m.enums/\b.1.moves.length<=1000 * k/\MZ 4 3 5 b.1 b.2 s/\QS src L s)/\Has L 39 (.lst src.procs.length (fl prE src.procs))) (by first|assumption|omega) dc (by simp(disch:=decide) only[jf,jb]) (by simp(disch:=decide) only[jf,jb]) ?_ (λk L s v h=>(by obtain⟨⟨b,h1,h2,h3,h4,h5,h6⟩,h7⟩:=h;refine⟨⟨b,h1,h2,h3,h4,h5,h6.push dc⟩,?_⟩;simp(disch:=decide) only[jb];assumption)) (λk L s v h=>(by obtain⟨⟨b,h1,h2,h3,h4,h5,h6⟩,h7⟩:=h;refine⟨⟨b,h1,h2,h3,h4,h5,h6.push dc⟩,?_⟩;simp(disch:=decide) only[jb];assumption)) (λk L s hk hI hi hn=>?_) (λL s hI=>?_)
 ·refine⟨⟨(m,ts),by rw[Qbe];exact hR,rfl,rfl,by rw[hm];exact Qae _,H,((D.push dc).push dc).push dc⟩,?_⟩;simp(disch:=decide) only[jb,jf]
 ·clear D c0 i1;obtain⟨⟨b,h1,h2,h3,h4,H,D⟩,i39⟩:=hI;obtain⟨c0,c1,c2,fr,i1,i2,i3,i4⟩:=id D;have hP:=O.procs _ (Qad hk);have n5:=H.nx5;have H1:=H.box zp4 (prE src.procs[k]);have k1:=gq n5 zp4 (prE src.procs[k]);have D1:=D.kq k1;have C10:=(Cl.new s zp4).wr0 (c':=prE src.procs[k]) rfl;unfold X7 at h1;rw[W8 hk] at h1;unfold zp4 at *;repeat'(first|apply jc<;>intro _|simp(disch:=first|exact dzG|fail) only[ja i1,ja i2,ja i3,ja i4,ja i39,ja hi,ja hn,r11,δ,ε,ζ,η,θ])
  obtain⟨v1,v2,v3,ws,S⟩:=id H1;refine KB hb S.cp S.mp _ _ _ _ _ ?_;have S1mp:=S.mp;clear S;by_cases hin:src.procs[k].name∈b.2
  ·rw[if_pos hin];have hp:Y2 b src.procs[k]=.er 162 src.procs[k].line src.procs[k].col:=by unfold Y2 Xy;rw[if_pos hin]
   rw[hp] at h1;rw[<-h1];exact UR (D1.push dc)
  ·rw[if_neg hin];have hp:Y2 b src.procs[k]=yi (λb r=>XA b.1 b.2 r) (b.1,b.2 ++ [src.procs[k].name]) src.procs[k].rules:=by unfold Y2 Xy;rw[if_neg hin]
   have H2:=H1.take (b.2 ++ [src.procs[k].name]);have D2:=D1.kq ((Kq.refl:Kq 4 3 5 _ _).mp (mpl (b.2 ++ [src.procs[k].name])));have C10:Cl (Go.Sy.mp (Go.Sy.wr (Go.Sy.nw s [.str [],.nils,.int .i64 0,.int .i64 0]) s.nx 0 (prE src.procs[k])) 3 (mpl (b.2 ++ [src.procs[k].name]))) s.nx (prE src.procs[k]):=by rw[Vf om];exact C10
   have hrl:=hP.len;generalize Go.Sy.mp (Go.Sy.wr (Go.Sy.nw s [.str [],.nils,.int .i64 0,.int .i64 0]) s.nx 0 (prE src.procs[k])) 3 (mpl (b.2 ++ [src.procs[k].name]))=t1 at *;clear D1 H1 k1 S1mp
   (have zz:=C10.r;(repeat'(first|apply jc<;>intro _|simp(disch:=first|exact jT|fail) only[ja i1,ja i2,ja i3,ja i4,ja i39,ja hi,ja hn,C10.q,C10.r,r11,δ,ε,ζ,η,θ]));all_goals clear zz)
   refine qg src.procs[k].rules.length (λky L s=>(∃ c:MT,yi (λb r=>XA b.1 b.2 r) c (src.procs[k].rules.drop ky)=Y2 b src.procs[k]/\c.1.vars=m.vars/\c.1.enums=m.enums/\c.1.moves.length<=1000 * k+ky/\MZ 4 3 5 c.1 c.2 s/\QS src L s)/\Has L 54 (.lst src.procs[k].rules.length (fl ruE src.procs[k].rules))/\Has L 39 (.lst src.procs.length (fl prE src.procs))/\Has L 41 (.int .i64 k)/\Has L 40 (.int .i64 src.procs.length)) (by first|assumption|omega) dc (by simp(disch:=decide) only[jf,jb]) (by simp(disch:=decide) only[jf,jb]) ?_ (λk L s v h=>(by obtain⟨⟨c,g1,g2,g3,g4,g5,g6⟩,g7,g8,g9,g10⟩:=h;refine⟨⟨c,g1,g2,g3,g4,g5,g6.push dc⟩,?_,?_,?_,?_⟩<;>simp(disch:=decide) only[jb]<;>assumption)) (λk L s v h=>(by obtain⟨⟨c,g1,g2,g3,g4,g5,g6⟩,g7,g8,g9,g10⟩:=h;refine⟨⟨c,g1,g2,g3,g4,g5,g6.push dc⟩,?_,?_,?_,?_⟩<;>simp(disch:=decide) only[jb]<;>assumption)) (λky Ly sy hky hIy hiy hny=>?_) (λLy sy hIy=>?_)
   ·refine⟨⟨(b.1,b.2 ++ [src.procs[k].name]),by rw[Qbe];exact hp.symm,h2,h3,om,H2,(((D2.push dc).push dc).push dc).push dc⟩,?_⟩;simp(disch:=decide) only[jb,jf,true_and];exact⟨i39,hi,hn⟩
   ·obtain⟨⟨c,g1,g2,g3,g4,H3,D3⟩,j54,j39,j41,j40⟩:=hIy;obtain⟨c0',c1',c2',fr',i1',i2',i3',i4'⟩:=id D3;have hr:=hP.rules _ (Qad hky);have n5':=H3.nx5;have H4:=H3.box zr7 (ruE src.procs[k].rules[ky]);have k4:=gq n5' zr7 (ruE src.procs[k].rules[ky]);have D4:=D3.kq k4;have hlr:(ruE src.procs[k].rules[ky]).length=zr7.length:=by rw[wA];rfl
    have C12:=(Cl.new sy zr7).wr0 hlr;rw[W8 hky] at g1;unfold zr7 at *;repeat'(first|apply jc<;>intro _|simp(disch:=first|exact dzG|fail) only[ja i1',ja i2',ja i3',ja i4',ja j54,ja hiy,ja hny,r11,δ,ε,ζ,η,θ])
    refine jpV hb _ (by rw[g2,g3];exact V) hr.1 hr.2.1 hr.2.2 om H4 _ _ ?_;cases hk1:XA c.1 c.2 src.procs[k].rules[ky] with
    |er x y z=>
     rw[hk1] at g1;rw[<-g1] at h1;intro s' k5;rw[<-h1];exact UR ((D4.kq k5).push dc)
    |ok d=>
     rw[hk1] at g1;intro s' k5 H5;obtain⟨e,he⟩:=jbZ hk1;repeat'(first|apply jc<;>intro _|simp(disch:=first|exact dzG|fail) only[r11,δ,ε,ζ,η,θ])
     refine⟨⟨⟨d,g1,by rw[he];exact g2,by rw[he];exact g3,by rw[he];simp only[φ,υ,χ];omega,H5,(D4.kq k5).push dc⟩,?_,?_,?_,?_⟩,?_,?_⟩<;>simp(disch:=decide) only[jb]<;>assumption
   ·obtain⟨⟨c,g1,g2,g3,g4,H3,D3⟩,j54,j39,j41,j40⟩:=hIy;rw[QbW,yi] at g1;rw[<-g1] at h1;repeat'(first|apply jc<;>intro _|simp(disch:=first|exact dzG|fail) only[r11,δ,ε,ζ,η,θ])
    refine⟨⟨⟨c,h1,g2,g3,om,H3,D3⟩,?_⟩,?_,?_⟩<;>assumption
 ·obtain⟨⟨b,h1,h2,h3,h4,H,D⟩,i39⟩:=hI;rw[QbW] at h1;unfold X7 at h1;rw[yi] at h1;rw[<-h1];repeat'(first|apply jc<;>intro _|simp(disch:=first|exact dzG|fail) only[r11,δ,ε,ζ,η,θ])
  exact m_d D H
theorem MX.mz {m:ModT}{ts:List (List Nat)}{s:St}(h:MX 4 3 5 m ts s)(hm:m.moves=[]):MZ 4 3 5 m ts s:=by
 obtain⟨v1,v2,v3,S⟩:=h;exact⟨v1,v2,v3,[],S.mr hm⟩
def zd7:List AV:=[.str [],.str [],.int .i64 0,.int .i64 0,.nils,.int .i64 0,.int .i64 0]
def ze4:List AV:=[.str [],.nils,.int .i64 0,.int .i64 0]
set_option maxHeartbeats 8000000 in
theorem m_b (hb:NB base){src:SrcT}{L:Sl}{s:St}(D:QS src L s){m:ModT}{ts:List (List Nat)}(V:VarsOK m.vars m.enums)(hm:m.moves=[])(hv0:m.vars=[])(O:SrcOK src)(H:MX 4 3 5 m ts s)(R:KR MT)(hR:(match vO (m,ts) src.vars with | .er a c d=>.er a c d | .ok b=>X7 b src.procs)=R):xC γ base jfi L s (mQ base R) (mP base R):=by
 have c0:=D.c0;have i1:=D.i1;have onv:=O.nv;rw[(by unfold jfi;simp only[qq];rfl:jfi=_)]
 (have zz:=@c0.r;(repeat'(first|apply jc<;>intro _|simp(disch:=first|exact jT|fail) only[ja i1,c0.q,c0.r,r11,δ,ε,ζ,η,θ]));all_goals clear zz)
 refine qg src.vars.length (λk L s=>(∃ b:MT,(match vO b (src.vars.drop k) with | .er a c d=>.er a c d | .ok b=>X7 b src.procs)=R/\b.1.moves=[]/\b.1.vars.length<=k/\VarsOK b.1.vars b.1.enums/\MX 4 3 5 b.1 b.2 s/\QS src L s)/\Has L 28 (.lst src.vars.length (fl qj src.vars))) (by first|assumption|omega) dc (by simp(disch:=decide) only[jf,jb]) (by simp(disch:=decide) only[jf,jb]) ?_ (λk L s v h=>(by obtain⟨⟨b,h1,h2,h3,h4,h5,h6⟩,h7⟩:=h;refine⟨⟨b,h1,h2,h3,h4,h5,h6.push dc⟩,?_⟩;simp(disch:=decide) only[jb];assumption)) (λk L s v h=>(by obtain⟨⟨b,h1,h2,h3,h4,h5,h6⟩,h7⟩:=h;refine⟨⟨b,h1,h2,h3,h4,h5,h6.push dc⟩,?_⟩;simp(disch:=decide) only[jb];assumption)) (λk L s hk hI hi hn=>?_) (λL s hI=>?_)
 ·refine⟨⟨(m,ts),by rw[Qbe];exact hR,hm,by rw[hv0];exact Qae _,V,H,((D.push dc).push dc).push dc⟩,?_⟩;simp(disch:=decide) only[jb,jf]
 ·clear D c0 i1 H V hm hv0;obtain⟨⟨b,h1,hm,h3,V,H,D⟩,i28⟩:=hI;obtain⟨c0,c1,c2,fr,i1,i2,i3,i4⟩:=id D;have hd:=O.vars _ (Qad hk);have n5:=H.nx5;have H1:=H.box zd7 (qj src.vars[k]);have k1:=gq n5 zd7 (qj src.vars[k]);have D1:=D.kq k1;have C10:=(Cl.new s zd7).wr0 (c':=qj src.vars[k]) rfl;unfold vO at h1;rw[W8 hk] at h1;unfold zd7 at *;repeat'(first|apply jc<;>intro _|simp(disch:=first|exact dzG|fail) only[ja i1,ja i2,ja i3,ja i4,ja i28,ja hi,ja hn,r11,δ,ε,ζ,η,θ])
  refine jq2 hb _ V om hd.ex hd.len hd.lo hd.hi H1 _ _ ?_;cases hk1:XR b.1 b.2 src.vars[k] with
  |er x y z=>
   rw[hk1] at h1;intro s' k5;rw[<-h1];exact UR ((D1.kq k5).push dc)
  |ok d=>
   rw[hk1] at h1;intro s' k5 H5;obtain⟨v,he,hv⟩:=jc2 V.vals hd hk1;repeat'(first|apply jc<;>intro _|simp(disch:=first|exact dzG|fail) only[r11,δ,ε,ζ,η,θ])
   refine⟨⟨⟨d,h1,by rw[he];exact hm,by rw[he];simp only[φ,υ,χ];omega,?_,H5,(D1.kq k5).push dc⟩,?_⟩,?_,?_⟩
   ·rw[he];refine⟨by simp only[φ,υ,χ];omega,V.len2,V.vals,λu hu=>?_⟩;rcases Qaz.1 hu with hu|hu
    ·exact V.ends u hu
    ·simp only[Qbm] at hu;rw[hu];exact hv
   all_goals(simp(disch:=decide) only[jb];assumption)
 ·obtain⟨⟨b,h1,hm,h3,V,H,D⟩,i28⟩:=hI;rw[QbW] at h1;unfold vO at h1;rw[yi] at h1;dsimp only at h1;rw[<-h1];repeat'(first|apply jc<;>intro _|simp(disch:=first|exact dzG|fail) only[r11,δ,ε,ζ,η,θ])
  exact m_c hb D V hm O (H.mz hm)
set_option maxHeartbeats 8000000 in
theorem m_a (hb:NB base){src:SrcT}{L:Sl}{s:St}(D:QS src L s)(O:SrcOK src)(H:MX 4 3 5 md0 [] s):xC γ base jfj L s (mQ base (Ja src)) (mP base (Ja src)):=by
 have c0:=D.c0;have i1:=D.i1;have one:=O.ne;generalize hR:Ja src=R;unfold Ja at hR;rw[(by unfold jfj;simp only[qq];rfl:jfj=_)]
 (have zz:=@c0.r;(repeat'(first|apply jc<;>intro _|simp(disch:=first|exact jT|fail) only[ja i1,c0.q,c0.r,r11,δ,ε,ζ,η,θ]));all_goals clear zz)
 refine qg src.enums.length (λk L s=>(∃ b:MT,(match Uc b (src.enums.drop k) with | .er a c d=>.er a c d | .ok b=>(match vO b src.vars with | .er a c d=>.er a c d | .ok b=>X7 b src.procs))=R/\b.1.moves=[]/\b.1.vars=[]/\b.1.enums.length<=k/\(∀ e∈b.1.enums,e.vals.length<=1000000)/\MX 4 3 5 b.1 b.2 s/\QS src L s)/\Has L 17 (.lst src.enums.length (fl enE src.enums))) (by first|assumption|omega) dc (by simp(disch:=decide) only[jf,jb]) (by simp(disch:=decide) only[jf,jb]) ?_ (λk L s v h=>(by obtain⟨⟨b,h1,h2,h3,h4,h4b,h5,h6⟩,h7⟩:=h;refine⟨⟨b,h1,h2,h3,h4,h4b,h5,h6.push dc⟩,?_⟩;simp(disch:=decide) only[jb];assumption)) (λk L s v h=>(by obtain⟨⟨b,h1,h2,h3,h4,h4b,h5,h6⟩,h7⟩:=h;refine⟨⟨b,h1,h2,h3,h4,h4b,h5,h6.push dc⟩,?_⟩;simp(disch:=decide) only[jb];assumption)) (λk L s hk hI hi hn=>?_) (λL s hI=>?_)
 ·refine⟨⟨(md0,[]),by rw[Qbe];exact hR,rfl,rfl,Qae _,(λe he=>by cases he),H,((D.push dc).push dc).push dc⟩,?_⟩;simp(disch:=decide) only[jb,jf]
 ·clear D c0 i1 H;obtain⟨⟨b,h1,hm,h3,h4,hv,H,D⟩,i17⟩:=hI;obtain⟨c0,c1,c2,fr,i1,i2,i3,i4⟩:=id D;have hd:=O.vals _ (Qad hk);have n5:=H.nx5;have H1:=H.box ze4 (enE src.enums[k]);have k1:=gq n5 ze4 (enE src.enums[k]);have D1:=D.kq k1;have C10:=(Cl.new s ze4).wr0 (c':=enE src.enums[k]) rfl;unfold Uc at h1;rw[W8 hk] at h1;unfold ze4 at *;repeat'(first|apply jc<;>intro _|simp(disch:=first|exact dzG|fail) only[ja i1,ja i2,ja i3,ja i4,ja i17,ja hi,ja hn,r11,δ,ε,ζ,η,θ])
  refine jqU hb (λvs h h2=>jn0 hb vs h h2) _ hd.1 hd.2 om H1 _ _ ?_;cases hk1:wO b.1 b.2 src.enums[k] with
  |er x y z=>
   rw[hk1] at h1;intro s' k5;rw[<-h1];exact UR ((D1.kq k5).push dc)
  |ok d=>
   rw[hk1] at h1;intro s' k5 H5;have he:=Vc hk1;repeat'(first|apply jc<;>intro _|simp(disch:=first|exact dzG|fail) only[r11,δ,ε,ζ,η,θ])
   refine⟨⟨⟨d,h1,by rw[he];exact hm,by rw[he];exact h3,by rw[he];simp only[φ,υ,χ];omega,?_,H5,(D1.kq k5).push dc⟩,?_⟩,?_,?_⟩
   ·rw[he];intro u hu;rcases Qaz.1 hu with hu|hu
    ·exact hv u hu
    ·simp only[Qbm] at hu;rw[hu];exact hd.2
   all_goals(simp(disch:=decide) only[jb];assumption)
 ·obtain⟨⟨b,h1,hm,h3,h4,hv,H,D⟩,i17⟩:=hI;rw[QbW] at h1;unfold Uc at h1;rw[yi] at h1;dsimp only at h1;repeat'(first|apply jc<;>intro _|simp(disch:=first|exact dzG|fail) only[r11,δ,ε,ζ,η,θ])
  exact m_b hb D ⟨by rw[h3];exact Qae _,om,hv,λv hv=>by rw[h3] at hv;cases hv⟩ hm h3 O H R h1
set_option maxHeartbeats 8000000 in
theorem jnG (hb:NB base)(src:SrcT)(O:SrcOK src):Tot base 53 [.agg (srE src)] (Uz (Ja src)):=by
 refine hb.tot ?_ (by first|rfl|simp[pa,pc,qS,Xc,WB,J0,JB,jaV,KG,YV,wy,wC,Q7,Y7]) rfl;refine WI x26 (hb.pur 53 1 dc) ?_;simp only[y26,ju,κ,μ,ν,ξ];rw[(by unfold z26;simp only[qq];rfl:z26=_)];repeat'(first|apply jc<;>intro _|simp(disch:=first|exact dzG|fail) only[wk,jsm,jrN,r11,δ,ε,ζ,η,θ])
 obtain⟨X,hX⟩:∃ X,X=Go.Sy.nw (Go.Sy.nw (Go.Sy.nw st0 (srE src)) [.nils,.nils,.nils]) [.int .i64 0,.int .i64 0,.int .i64 0]:=⟨_,rfl⟩;have X2:Cl X 2 [.int .i64 0,.int .i64 0,.int .i64 0]:=by rw[hX];exact Cl.new _ _
 have X1:Cl X 1 [.nils,.nils,.nils]:=by rw[hX];exact(Cl.new _ _).nw _
 have X0:Cl X 0 (srE src):=by rw[hX];exact((Cl.new _ _).nw _).nw _
 have Xn:X.nx=3:=by rw[hX];rfl
 have Xf:X.fr=[]:=by rw[hX];rfl
 rw[<-hX];have hn4:(nmp (df (67,[.ptr 2 0]) X)).nx=4:=by show X.nx+1=4;omega
 have hc:(AV.nils :: AV.nils :: AV.nils :: upd [AV.nilm,AV.bool false] 0 (AV.map 3).cells)=[.nils,.nils,.nils,.map 3,.bool false]:=rfl;rw[hn4,hc];have Y:∀ c cs,c<3->Cl X c cs->Cl (Go.Sy.nw (nmp (df (67,[.ptr 2 0]) X)) [.nils,.nils,.nils,.map 3,.bool false]) c cs:=λc cs h3 h=>by
  refine h.keep ?_ ?_
  ·rw[jg,hn4];omega
  ·rw[JA om,jiH,if_neg (by show c≠X.nx;omega)];rfl
 have C4:Cl (Go.Sy.nw (nmp (df (67,[.ptr 2 0]) X)) [.nils,.nils,.nils,.map 3,.bool false]) 4 [.nils,.nils,.nils,.map 3,.bool false]:=hn4▸Cl.new (nmp (df (67,[.ptr 2 0]) X)) _;have M3:Mp (Go.Sy.nw (nmp (df (67,[.ptr 2 0]) X)) [.nils,.nils,.nils,.map 3,.bool false]) 3 []:=by
  have h:Mp (nmp (df (67,[.ptr 2 0]) X)) X.nx []:=Mp.new (df (67,[.ptr 2 0]) X);rw[Xn] at h;exact h.nw _
 have n5:(Go.Sy.nw (nmp (df (67,[.ptr 2 0]) X)) [.nils,.nils,.nils,.map 3,.bool false]).nx=5:=by rw[jg,hn4]
 refine m_a hb ⟨Y _ _ dc X0,Y _ _ dc X1,Y _ _ dc X2,?_,?_,?_,?_,?_⟩ O ⟨.nils,.nils,.nils,C4,M3,Lv.nil,Lv.nil,Lv.nil,trivial,trivial,trivial,dc,dc,dc,om,τ _⟩
 ·show(67,[AV.ptr 2 0]) :: X.fr=_;rw[Xf]
 all_goals simp(disch:=decide) only[jb,jf]
def jfw (r:KR Ex):AV:=match r with
 |.er c l k=>.tup [.agg (eE ex0),.agg (fcl c l k)]
 |.ok y=>.tup [.agg (eE y),.agg (fcl 0 0 0)]
set_option maxHeartbeats 4000000 in
theorem jiN (hb:NB base)(m:ModT)(V:VarsOK m.vars m.enums)(x:Ex)(hx:OkE x):PX γ base 55 [.agg (mdE m),.agg (eE x)] (.ok (jfw (yE m.vars m.enums true x 2 []))):=by
 refine WI x25 (hb.pur 55 1 dc) ?_;simp only[y25,ju,κ,μ,ν,ξ];rw[(by unfold z25;simp only[qq];rfl:z25=_)];have uq:upd [.nils,.nils,.nils,.nilm,.bool false] 0 (mdE m)=[.lst m.vars.length (fl vaE m.vars),.lst m.enums.length (fl enE m.enums),.lst m.moves.length (fl moE m.moves),.nilm,.bool false]:=rfl;repeat'(first|apply jc<;>intro _|simp(disch:=first|exact dzG|fail) only[wk,YH,Vr,Vq (base:=base),uq,r11,δ,ε,ζ,η,θ])
 obtain⟨X,hX⟩:∃ X,X=Go.Sy.nw (Go.Sy.nw (Go.Sy.nw (Go.Sy.nw st0 (mdE m)) (eE x)) [.int .i64 0,.int .i64 0,.str [],.nils,.int .i64 0,.int .i64 0]) [.int .i64 0,.int .i64 0,.int .i64 0]:=⟨_,rfl⟩;rw[<-hX];have X3:Cl X 3 [.int .i64 0,.int .i64 0,.int .i64 0]:=by rw[hX];exact Cl.new _ _
 have X2:Cl X 2 [.int .i64 0,.int .i64 0,.str [],.nils,.int .i64 0,.int .i64 0]:=by rw[hX];exact(Cl.new _ _).nw _
 have X1:Cl X 1 (eE x):=by rw[hX];exact((Cl.new _ _).nw _).nw _
 have Xn:X.nx=4:=by rw[hX];rfl
 have Xf:X.fr=[]:=by rw[hX];rfl
 obtain⟨S,hS⟩:∃ S,S=Go.Sy.nw (df (67,[.ptr 3 0]) X) [.lst m.vars.length (fl vaE m.vars),.lst m.enums.length (fl enE m.enums),.lst m.moves.length (fl moE m.moves),.nilm,.bool true]:=⟨_,rfl⟩;rw[<-hS];have hn4:(df (67,[.ptr 3 0]) X).nx=4:=Xn;have Y:∀ c cs,c<4->Cl X c cs->Cl S c cs:=λc cs h3 h=>by
  rw[hS];refine h.keep ?_ ?_
  ·rw[jg,hn4];omega
  ·rw[JA om];rfl
 have C1:=Y _ _ dc X1;have C2:=Y _ _ dc X2;have C3:=Y _ _ dc X3;have C4:Cl S 4 [.lst m.vars.length (fl vaE m.vars),.lst m.enums.length (fl enE m.enums),.lst m.moves.length (fl moE m.moves),.nilm,.bool true]:=by rw[hS];exact hn4▸Cl.new (df (67,[.ptr 3 0]) X) _
 have Sf:S.fr=[(67,[.ptr 3 0])]:=by
  rw[hS];show(67,[AV.ptr 3 0]) :: X.fr=_;rw[Xf]
 clear hS Y X1 X2 X3 Xn Xf hX uq hn4;refine Uy hb V _ hx.2 (YI _ hx.1) _ _ (fm:=true) (mm:=.nilm) (v3:=.lst m.moves.length (fl moE m.moves)) ⟨C4,.inl rfl,.inl rfl,(λb k z x h=>by cases h),(λb k z x h=>by cases h)⟩ _ _ ?_;cases hr:yE m.vars m.enums true x 2 [] with
 |er a b c=>
  intro s' k2;have E1:=k2.cl C1 dc;have E2:=k2.cl C2 dc;have E3:=k2.cl C3 dc;have l3:=E3.len;have n3:=E3.lt;have hf:s'.fr=[(67,[.ptr 3 0])]:=k2.fr.trans Sf
  (have zz:=aI @Q3 (aI C1.r (aI C2.r (aI C3.r (aI E1.r (aI E2.r E3.r)))));(repeat'(first|apply jc<;>intro _|simp(disch:=first|exact jT|fail) only[YH,Vr,Vq (base:=base),Q0,Yx,Qe (f:=67) (vs:=[.ptr 3 0]),JC (f:=67) (vs:=[.ptr 3 0]),hY,jaZ,C1.q,C2.q,C3.q,E1.q,E2.q,E3.q,Q3,C1.r,C2.r,C3.r,E1.r,E2.r,E3.r,r11,δ,ε,ζ,η,θ]));all_goals clear zz)
  exact FzD.tup (.cons YB (.cons (.agg (.pc (by rfl))) .nil))
 |ok y=>
  intro s' k2 D4;have E1:=k2.cl C1 dc;have E2:=k2.cl C2 dc;have E3:=k2.cl C3 dc;have l3:=E3.len;have n3:=E3.lt;have hf:s'.fr=[(67,[.ptr 3 0])]:=k2.fr.trans Sf
  (have zz:=aI @Q3 (aI C1.r (aI C2.r (aI C3.r (aI E1.r (aI E2.r E3.r)))));(repeat'(first|apply jc<;>intro _|simp(disch:=first|exact jT|fail) only[YH,Vr,Vq (base:=base),Q0,Yx,Qe (f:=67) (vs:=[.ptr 3 0]),JC (f:=67) (vs:=[.ptr 3 0]),hY,jaZ,C1.q,C2.q,C3.q,E1.q,E2.q,E3.q,Q3,C1.r,C2.r,C3.r,E1.r,E2.r,E3.r,r11,δ,ε,ζ,η,θ]));all_goals clear zz)
  exact FzD.tup (.cons (.agg (.pc (qS y))) (.cons (.agg (.pc (by rfl))) .nil))
theorem jiM (hb:NB base)(m:ModT)(V:VarsOK m.vars m.enums)(x:Ex)(hx:OkE x):Tot base 55 [.agg (mdE m),.agg (eE x)] (jfw (yE m.vars m.enums true x 2 [])):=hb.tot (jiN hb m V x hx) (by first|rfl|simp[pa,pc,qS,Xc,WB,J0,JB,jaV,KG,YV,wy,wC,Q7,Y7]) rfl
mutual
theorem jb2:∀ (d:Nat) (x:Ex),yF d x=true->J9 x=true/\ZP x=true
 |0,_,h=>by cases h
 |d+1,.mk op num name ks l c,h=>by
  rw[vB] at h;simp only[Qaa,decide_eq_true_eq] at h;obtain⟨⟨⟨⟨h1,h2⟩,h3⟩,h4⟩,h5⟩:=h;have h3:(ks.length:Int)=if 5<=op/\op<=13 then 1 else if 14<=op/\op<31 then 2 else 0:=h3
  obtain⟨k1,k2⟩:=Hm d ks h5;refine⟨?_,?_⟩
  ·rw[J9,Qaa,decide_eq_true_eq];refine⟨?_,k1⟩;split at h3
   ·omega
   ·split at h3<;>omega
  ·rw[ZP,Qaa,Qav,Qaa,decide_eq_true_eq,decide_eq_true_eq,decide_eq_true_eq];refine⟨?_,k2⟩;by_cases ho:op=1
   ·right;unfold ui at h4;rw[if_pos (show Ex.op (.mk op num name ks l c)=1 from ho)] at h4;simp only[Qaa,decide_eq_true_eq] at h4;have h6:(0:Int)<=num:=h4.1.1;have h7:num<=1000000:=h4.1.2;omega
   ·exact .inl ho
theorem Hm:∀ (d:Nat) (xs:List Ex),xs.all (yF d)=true->JU xs=true/\Qk xs=true
 |_,[],_=>⟨rfl,rfl⟩
 |d,x :: xs,h=>by
  rw[QaD,Qaa] at h;obtain⟨a1,a2⟩:=jb2 d x h.1;obtain⟨b1,b2⟩:=Hm d xs h.2;rw[JU,Qk,Qaa,Qaa];exact⟨⟨a1,b1⟩,⟨a2,b2⟩⟩
end
theorem vW {ts:List Tk}(W:Wds ts){i j:Nat}{x:Ex}(hi:i<ts.length)(h:yu ts i=.ok x j):OkE x:=jb2 60 x (yg W hi h).2.2.2
theorem jgX:∀ {ts:List Tk} {n i j:Nat} {vs ws:List (List Nat)},vs.length<=32->Xv ts n i vs=.ok ws j->vs.length<ws.length/\ws.length<=32
 |ts,0,i,j,vs,ws,hv,h=>by cases h
 |ts,n+1,i,j,vs,ws,hv,h=>by
  rw[Xv] at h;split at h
  ·split at h
   ·cases h
   ·split at h
    ·have:=jgX (by simp;omega) h;simp at this;omega
    ·split at h
     ·cases h;simp;omega
     ·cases h
  ·cases h
theorem jqS {ts:List Tk}{i j:Nat}{e:EnumT}(h:Yt ts i=.ok e j):0<e.vals.length/\e.vals.length<=1000000:=by
 unfold Yt at h;split at h
 ·split at h
  ·split at h
   ·rename_i vs k hv;cases h;have:=jgX (by simp) hv;dsimp only;omega
   ·cases h
  ·cases h
 ·cases h
theorem jmq {ts:List Tk}(N:Nbs ts){i j:Nat}{n:Int}(h:Y5 ts i=.ok n j) : -100000000<=n/\n<=100000000:=by
 unfold Y5 at h;split at h
 ·split at h
  ·have:=N (i+1);cases h;omega
  ·cases h
 ·split at h
  ·have:=N i;cases h;omega
  ·cases h
theorem jrO {ts:List Tk}(N:Nbs ts){i j:Nat}{y:List Nat×Int×Int}(h:Wu ts i=.ok y j):(-100000000<=y.2.1/\y.2.1<=100000000)/\(-100000000<=y.2.2/\y.2.2<=100000000):=by
 unfold Wu at h;split at h
 ·cases h;dsimp only;omega
 ·split at h
  ·cases h;dsimp only;omega
  ·split at h
   ·cases h
   ·rename_i lo k h1;split at h
    ·split at h
     ·cases h
     ·rename_i hi k2 h2;cases h;exact⟨jmq N h1,jmq N h2⟩
    ·cases h
theorem jsv {ts:List Tk}(W:Wds ts){i j:Nat}{bs:List Ex}(hi:i<ts.length)(h:wh ts i=.ok bs j):(∀ x∈bs,OkE x)/\bs.length<=1:=by
 unfold wh at h;split at h
 ·rename_i c;have hi1:=W.isM hi c;split at h
  ·cases h
  ·rename_i x k hx;split at h
   ·cases h;exact⟨λy hy=>by simp at hy;rw[hy];exact vW W hi1 hx,by simp⟩
   ·cases h
 ·split at h
  ·cases h;exact⟨(λy hy=>by cases hy),by simp⟩
  ·cases h
theorem jq0 {ts:List Tk}(W:Wds ts)(N:Nbs ts){i j:Nat}{d:DeclT}(hi:i<ts.length)(h:Yu ts i=.ok d j):DeclOK d:=by
 unfold Yu at h;split at h
 ·rename_i k1;have hi1:=W.next i hi om
  split at h
  ·rename_i c1;have hi2:=W.isM hi1 c1;split at h
   ·cases h
   ·rename_i y k hy;have hk:=jbQ W hi2 hy;split at h
    ·cases h
    ·rename_i bs k2 hb;cases h;obtain⟨a,b⟩:=jrO N hy;obtain⟨c,d⟩:=jsv W hk.2 hb;exact⟨c,by dsimp only;omega,a,b⟩
  ·cases h
 ·cases h
theorem jjp {ts:List Tk}(W:Wds ts):∀ {n i j:Nat} {vs ws:List AsT},i<ts.length->(∀ a∈vs,OkE a.to)->vs.length<=32->QN ts n i vs=.ok ws j->(∀ a∈ws,OkE a.to)/\ws.length<=32
 |0,i,j,vs,ws,hi,hv,hl,h=>by cases h
 |n+1,i,j,vs,ws,hi,hv,hl,h=>by
  rw[QN] at h;by_cases k1:(tk ts i).kind=1
  ·simp only[if_pos k1] at h;have hi1:=W.next i hi om
   by_cases h32:32<=vs.length
   ·simp only[if_pos h32] at h;cases h
   simp only[if_neg h32] at h;by_cases c1:isM (tk ts (i+1)) [[58,61]]=true
   ·simp only[if_pos c1] at h;have hi2:=W.isM hi1 c1;cases h1:yu ts (i+2) with
    |er t=>rw[h1] at h;cases h
    |ok x k=>
     rw[h1] at h;dsimp only at h;have hj:=yg W hi2 h1;have hx:=vW W hi2 h1;have hv2:∀ l c nm,∀ a∈vs ++ [(⟨nm,x,l,c⟩:AsT)],OkE a.to:=λl c nm a ha=>by
      rcases Qaz.1 ha with ha|ha
      ·exact hv a ha
      ·simp at ha;rw[ha];exact hx
     by_cases c2:isM (tk ts k) [[44]]=true
     ·simp only[if_pos c2] at h;exact jjp W (W.isM hj.2.1 c2) (hv2 _ _ _) (by simp;omega) h
     ·simp only[if_neg c2] at h;split at h
      ·cases h;exact⟨hv2 _ _ _,by simp;omega⟩
      ·cases h
   ·simp only[if_neg c1] at h;cases h
  ·simp only[if_neg k1] at h;cases h
theorem jpT {ts:List Tk}(W:Wds ts){i j:Nat}{r:RuleT}(hi:i<ts.length)(h:Xz ts i=.ok r j):OkE r.when/\(∀ a∈r.acts,OkE a.to)/\r.acts.length<=1000000:=by
 unfold Xz at h;cases h1:yu ts i with
 |er t=>rw[h1] at h;cases h
 |ok x k=>
  rw[h1] at h;dsimp only at h;have hj:=yg W hi h1;by_cases c1:isM (tk ts k) [[100,111]]=true
  ·simp only[if_pos c1] at h;cases h2:QN ts ts.length (k+1) [] with
   |er t=>rw[h2] at h;cases h
   |ok vs k2=>
    rw[h2] at h;cases h;have:=jjp (vs:=[]) W (W.isM hj.2.1 c1) (λa ha=>by cases ha) (Qae _) h2;exact⟨vW W hi h1,this.1,by dsimp only;omega⟩
  ·simp only[if_neg c1] at h;cases h
theorem jd9 {ts:List Tk}(W:Wds ts):∀ {n i j:Nat} {vs ws:List RuleT},i<ts.length->(∀ r∈vs,OkE r.when/\(∀ a∈r.acts,OkE a.to)/\r.acts.length<=1000000)->vs.length<=32->Qi ts n i vs=.ok ws j->(∀ r∈ws,OkE r.when/\(∀ a∈r.acts,OkE a.to)/\r.acts.length<=1000000)/\ws.length<=32
 |0,i,j,vs,ws,hi,hv,hl,h=>by cases h
 |n+1,i,j,vs,ws,hi,hv,hl,h=>by
  rw[Qi] at h;by_cases c1:isM (tk ts i) [[119,104,101,110]]=true
  ·simp only[if_pos c1] at h;have hi1:=W.isM hi c1;by_cases h32:32<=vs.length
   ·simp only[if_pos h32] at h;cases h
   simp only[if_neg h32] at h;cases h1:Xz ts (i+1) with
   |er t=>rw[h1] at h;cases h
   |ok r k=>
    rw[h1] at h;dsimp only at h;refine jd9 W (UG W hi1 h1).2 (λa ha=>?_) (by simp;omega) h;rcases Qaz.1 ha with ha|ha
    ·exact hv a ha
    ·simp at ha;rw[ha];exact jpT W hi1 h1
  ·simp only[if_neg c1] at h;split at h
   ·cases h;exact⟨hv,hl⟩
   ·cases h
theorem jqb {ts:List Tk}(W:Wds ts){i j:Nat}{p:ProcT}(hi:i<ts.length)(h:Yj ts i=.ok p j):ProcOK p:=by
 unfold Yj at h;split at h
 ·rename_i k1;have hi1:=W.next i hi om
  split at h
  ·rename_i c1;have hi2:=W.isM hi1 c1;split at h
   ·rename_i vs k hv;cases h;have:=jd9 (vs:=[]) W hi2 (λa ha=>by cases ha) (Qae _) hv;exact⟨by dsimp only;omega,this.1⟩
   ·cases h
  ·cases h
 ·cases h
theorem jaF {ts:List Tk}(W:Wds ts)(N:Nbs ts):∀ {n i j:Nat} {m w:SrcT},i<ts.length->SrcOK m->m.enums.length<=32->m.vars.length<=32->m.procs.length<=32->XV ts n i m=.ok w j->SrcOK w/\w.enums.length<=32/\w.vars.length<=32/\w.procs.length<=32
 |0,i,j,m,w,hi,hm,h1,h2,h3,h=>by cases h
 |n+1,i,j,m,w,hi,hm,h1,h2,h3,h=>by
  rw[XV] at h;by_cases c:isM (tk ts i) [[101,110,117,109],[118,97,114],[112,114,111,99,101,115,115]]=true
  ·simp only[if_pos c] at h;have hi1:=W.isM hi c;by_cases c1:(tk ts i).text=[101,110,117,109]
   ·simp only[if_pos c1] at h;by_cases hr:32<=m.enums.length
    ·simp only[if_pos hr] at h;cases h
    simp only[if_neg hr] at h;cases he:Yt ts (i+1) with
    |er t=>rw[he] at h;cases h
    |ok e k=>
     rw[he] at h;refine jaF (m:={ m with enums:=m.enums ++ [e] }) W N (G3 W hi1 he).2 ⟨by simp;omega,hm.nv,hm.np,λa ha=>?_,hm.vars,hm.procs⟩ (by simp;omega) h2 h3 h;rcases Qaz.1 ha with ha|ha
     ·exact hm.vals a ha
     ·simp at ha;rw[ha];exact jqS he
   simp only[if_neg c1] at h;by_cases c2:(tk ts i).text=[118,97,114]
   ·simp only[if_pos c2] at h;by_cases hr:32<=m.vars.length
    ·simp only[if_pos hr] at h;cases h
    simp only[if_neg hr] at h;cases he:Yu ts (i+1) with
    |er t=>rw[he] at h;cases h
    |ok e k=>
     rw[he] at h;refine jaF (m:={ m with vars:=m.vars ++ [e] }) W N (G8 W hi1 he).2 ⟨hm.ne,by simp;omega,hm.np,hm.vals,λa ha=>?_,hm.procs⟩ h1 (by simp;omega) h3 h;rcases Qaz.1 ha with ha|ha
     ·exact hm.vars a ha
     ·simp at ha;rw[ha];exact jq0 W N hi1 he
   ·simp only[if_neg c2] at h;by_cases hr:32<=m.procs.length
    ·simp only[if_pos hr] at h;cases h
    simp only[if_neg hr] at h;cases he:Yj ts (i+1) with
    |er t=>rw[he] at h;cases h
    |ok e k=>
     rw[he] at h;refine jaF (m:={ m with procs:=m.procs ++ [e] }) W N (GE W hi1 he).2 ⟨hm.ne,hm.nv,by simp;omega,hm.vals,hm.vars,λa ha=>?_⟩ h1 h2 (by simp;omega) h;rcases Qaz.1 ha with ha|ha
     ·exact hm.procs a ha
     ·simp at ha;rw[ha];exact jqb W hi1 he
  ·simp only[if_neg c] at h;split at h
   ·cases h;exact⟨hm,h1,h2,h3⟩
   ·cases h
theorem jd6 {l:List Nat}(h:(yK l).2.1=0):SrcOK (yK l).1:=by
 unfold yK at h ⊢;by_cases c:(qr l).2.1≠0
 ·rw[if_pos c] at h;exact absurd h c
 ·rw[if_neg c] at h ⊢;have c0:(qr l).2.1=0:=by simpa using c
  obtain⟨W,ne,_⟩:=Ui c0;cases hr:XV (qr l).1 (qr l).1.length 0 WA with
  |er t=>rw[hr] at h;exact absurd h (λh=>by cases h)
  |ok m j=>exact(jaF W (ji8 c0) (Qbx.2 ne) ⟨dc,dc,dc,(λa ha=>by cases ha),(λa ha=>by cases ha),(λa ha=>by cases ha)⟩ dc dc dc hr).1
theorem jlg {l:List Nat}(h:(yx l).2.1=0):OkE (yx l).1:=by
 unfold yx at h ⊢;by_cases c:(qr l).2.1≠0
 ·rw[if_pos c] at h;exact absurd h c
 ·rw[if_neg c] at h ⊢;have c0:(qr l).2.1=0:=by simpa using c
  obtain⟨W,ne,_⟩:=Ui c0;cases hr:yu (qr l).1 0 with
  |er t=>rw[hr] at h;exact absurd h (λh=>by cases h)
  |ok x j=>
   rw[hr] at h;dsimp only at h ⊢;by_cases k5:(tk (qr l).1 j).kind=5
   ·rw[if_pos k5];exact vW W (Qbx.2 ne) hr
   ·rw[if_neg k5] at h;exact absurd h (λh=>by cases h)
def Bad (c:Int):Prop:=c≠0
theorem jfR {vars:List VarT}{enums:List EnumT}{x:Ex}{c l k:Int}(h:zt vars enums x=.er c l k):Bad c:=by
 unfold zt at h;split at h
 ·cases h
 ·split at h
  ·cases h;exact λh=>by cases h
  ·cases h
mutual
theorem HX {vars:List VarT}{enums:List EnumT}:∀ (fm:Bool) (x:Ex) {a b d:Int},yh vars enums fm x=.er a b d->Bad a
 |fm,.mk op num name ks l c,a,b,d,h=>by
  rw[yh] at h;split at h
  ·cases h
  ·split at h
   ·cases h
   ·split at h
    ·exact jfR h
    ·split at h
     ·rename_i hr;cases h;exact gv _ _ hr
     ·unfold YC at h;split at h
      ·cases h;exact λh=>by cases h
      ·split at h
       ·cases h
       ·split at h
        ·cases h;exact λh=>by cases h
        ·cases h
theorem gv {vars:List VarT}{enums:List EnumT}:∀ (fm:Bool) (xs:List Ex) {a b d:Int},qh vars enums fm xs=.er a b d->Bad a
 |fm,[],a,b,d,h=>by rw[qh] at h;cases h
 |fm,x :: xs,a,b,d,h=>by
  rw[qh] at h;cases hx:yh vars enums fm x with
  |er p q r=>rw[hx] at h;cases h;exact HX fm x hx
  |ok y=>
   rw[hx] at h;cases hr:qh vars enums fm xs with
   |er p q r=>rw[hr] at h;cases h;exact gv fm xs hr
   |ok r=>rw[hr] at h;cases h
end
theorem Xx {vars:List VarT}{enums:List EnumT}{fm:Bool}{x:Ex}{w:Int}{en:List Nat}{a b c:Int}(h:yE vars enums fm x w en=.er a b c):Bad a:=by
 unfold yE at h;split at h
 ·rename_i hr;cases h;exact HX fm x hr
 ·split at h
  ·cases h;exact λh=>by cases h
  ·cases h
theorem Vz {ts:List (List Nat)}{n:List Nat}{l c a b d:Int}(h:Xy ts n l c=.er a b d):Bad a:=by
 unfold Xy at h;split at h
 ·cases h;exact λh=>by cases h
 ·cases h
theorem KA {l c:Int}:∀ {ns ts:List (List Nat)} {a b d:Int},zo l c ts ns=.er a b d->Bad a
 |[],ts,a,b,d,h=>by cases h
 |n :: ns,ts,a,b,d,h=>by
  rw[zo] at h;split at h
  ·rename_i hr;cases h;exact Vz hr
  ·exact KA h
theorem ji1 {m:ModT}{ts:List (List Nat)}{e:EnumT}{a b d:Int}(h:wO m ts e=.er a b d):Bad a:=by
 unfold wO at h;split at h
 ·rename_i hr;cases h;exact KA hr
 ·cases h
theorem jdg {vars:List VarT}{enums:List EnumT}:∀ {xs:List Ex} {v:VarT} {a b d:Int},Jt vars enums v xs=.er a b d->Bad a
 |[],v,a,b,d,h=>by rw[Jt] at h;cases h
 |x :: xs,v,a,b,d,h=>by
  rw[Jt] at h;split at h
  ·rename_i hr;cases h;exact Xx hr
  ·split at h
   ·cases h;exact λh=>by cases h
   ·split at h
    ·cases h;exact λh=>by cases h
    ·exact jdg h
theorem ji7 {m:ModT}{ts:List (List Nat)}{e:DeclT}{a b d:Int}(h:XR m ts e=.er a b d):Bad a:=by
 unfold XR at h;split at h
 ·rename_i hr;cases h;exact Vz hr
 ·split at h
  ·rename_i hr;cases h;unfold uj at hr;split at hr
   ·cases hr
   ·split at hr
    ·cases hr
    ·split at hr
     ·cases hr;exact λh=>by cases h
     ·split at hr
      ·cases hr;exact λh=>by cases h
      ·split at hr
       ·cases hr;exact λh=>by cases h
       ·cases hr
  ·unfold wT at h;split at h
   ·rename_i hr;cases h;exact jdg hr
   ·unfold kR at h;split at h
    ·cases h;exact λh=>by cases h
    ·cases h
theorem Hi {vars:List VarT}{enums:List EnumT}:∀ {xs done:List AsT} {acc:List SetT} {a b d:Int},QD vars enums acc done xs=.er a b d->Bad a
 |[],done,acc,a,b,d,h=>by rw[QD] at h;cases h
 |x :: xs,done,acc,a,b,d,h=>by
  rw[QD] at h;split at h
  ·cases h;exact λh=>by cases h
  ·split at h
   ·cases h;exact λh=>by cases h
   ·split at h
    ·rename_i hr;cases h;exact Xx hr
    ·exact Hi h
theorem jhI {m:ModT}{ts:List (List Nat)}{e:RuleT}{a b d:Int}(h:XA m ts e=.er a b d):Bad a:=by
 unfold XA at h;split at h
 ·rename_i hr;cases h;exact Xx hr
 ·split at h
  ·rename_i hr;cases h;exact Hi hr
  ·cases h
theorem Z1 {α β:Type}{f:β->α->KR β}(hf:∀ b x a c d,f b x=.er a c d->Bad a):∀ {xs:List α} {b:β} {a c d:Int},yi f b xs=.er a c d->Bad a
 |[],b,a,c,d,h=>by rw[yi] at h;cases h
 |x :: xs,b,a,c,d,h=>by
  rw[yi] at h;split at h
  ·rename_i hr;cases h;exact hf _ _ _ _ _ hr
  ·exact Z1 hf h
theorem WT {s:SrcT}{a b d:Int}(h:Ja s=.er a b d):Bad a:=by
 unfold Ja at h;split at h
 ·rename_i hr;cases h;exact Z1 (λb x a c d h=>ji1 h) hr
 ·split at h
  ·rename_i hr;cases h;exact Z1 (λb x a c d h=>ji7 h) hr
  ·refine Z1 (λb x a c d h=>?_) h;unfold Y2 at h;split at h
   ·rename_i hr;cases h;exact Vz hr
   ·exact Z1 (λb x a c d h=>jhI h) h
theorem jrY:Go.Ev.isAgg γ 35=some true:=by kernel_rfl
theorem jrX:Go.Ev.sizeOf γ 35=some 3:=by kernel_rfl
theorem jtz {b o:Nat}{cs:List AV}{h:T AO}(ho:o+3<=qu h b)(hv:rats h b o 3=cs)(hc:cs.all eqs=true):(jZ γ 35 (.ptr b o) (.agg cs) h=true)=True:=eq_true (X4 jrY jrX dc ho hv hc)
structure RdT where
 m:ModT
 x:Ex
 c:Int
 l:Int
 k:Int
def zV (l f:List Nat):RdT:=
 if(yK l).2.1≠0 then⟨md0,ex0,(yK l).2.1,(yK l).2.2.1,(yK l).2.2.2⟩ else match Ja (yK l).1 with
 |.er a b c=>⟨md0,ex0,a,b,c⟩
 |.ok m=>if(yx f).2.1≠0 then⟨md0,ex0,(yx f).2.1,(yx f).2.2.1,(yx f).2.2.2⟩ else match yE m.1.vars m.1.enums true (yx f).1 2 [] with
  |.er a b c=>⟨md0,ex0,a,b,c⟩
  |.ok y=>⟨m.1,y,0,0,0⟩
def Kz (r:RdT):AV:=.tup [.agg (mdE r.m),.agg (eE r.x),.agg (fcl r.c r.l r.k)]
theorem jkB {s:St}{r:RdT}{a b c:List AV}(h1:a=mdE r.m)(h2:b=eE r.x)(h3:c=fcl r.c r.l r.k):G0 (Kz r) (.tup [.agg a,.agg b,.agg c]) s:=by
 subst h1 h2 h3;exact FzD.tup (.cons (.agg (.pc (Q7 _))) (.cons (.agg (.pc (qS _))) (.cons (.agg (.pc rfl)) .nil)))
theorem Ww {s:St}{r:RdT}{c:List AV}(h1:r.m=md0)(h2:r.x=ex0)(h3:c=fcl r.c r.l r.k):G0 (Kz r) (.tup [.agg [.nils,.nils,.nils],.agg [.int .i64 0,.int .i64 0,.str [],.nils,.int .i64 0,.int .i64 0],.agg c]) s:=by
 subst h3;unfold Kz;rw[h1,h2];exact FzD.tup (.cons jig (.cons YB (.cons (.agg (.pc rfl)) .nil)))
theorem Qz {α β:Type}{f:β->α->KR β}{P:Nat->β->Prop}:∀ {xs:List α} {n:Nat} {b b':β},(∀ k b x b',x∈xs->P k b->f b x=.ok b'->P (k+1) b')->P n b->yi f b xs=.ok b'->P (n+xs.length) b'
 |[],n,b,b',_,h,e=>by rw[yi] at e;cases e;exact h
 |x :: xs,n,b,b',hs,h,e=>by
  rw[yi] at e;split at e
  ·cases e
  ·rename_i c hc;have:=Qz (n:=n+1) (λk b y b' hy=>hs k b y b' (by simp[hy])) (hs n b x c (by simp) h hc) e;rw[υ,show n+(xs.length+1)=n+1+xs.length by omega];exact this
theorem jce {b b':MT}{p:ProcT}(h:Y2 b p=.ok b'):b'.1.vars=b.1.vars/\b'.1.enums=b.1.enums:=by
 unfold Y2 at h;split at h
 ·cases h
 ·rename_i ts _;refine Qz (n:=0) (P:=λ_ c=>c.1.vars=b.1.vars/\c.1.enums=b.1.enums) (λk c x c' _ hc hr=>?_) ⟨rfl,rfl⟩ h;obtain⟨e,he⟩:=jbZ hr;rw[he];exact hc
theorem jll {src:SrcT}(O:SrcOK src){b:MT}(h:Uc (md0,[]) src.enums=.ok b):b.1.vars=[]/\b.1.moves=[]/\b.1.enums.length<=1000/\(∀ e∈b.1.enums,e.vals.length<=1000000):=by
 have H:=Qz (n:=0) (P:=λk (c:MT)=>c.1.vars=[]/\c.1.moves=[]/\c.1.enums.length<=k/\(∀ e∈c.1.enums,e.vals.length<=1000000)) (λk c x c' hx hc hr=>?_) ⟨rfl,rfl,τ _,λe he=>by cases he⟩ h
 ·have:=O.ne;exact⟨H.1,H.2.1,by have:=H.2.2.1;omega,H.2.2.2⟩
 ·rw[Vc hr];refine⟨hc.1,hc.2.1,by have:=hc.2.2.1;simp;omega,λu hu=>?_⟩;rcases Qaz.1 hu with hu|hu
  ·exact hc.2.2.2 u hu
  ·simp only[Qbm] at hu;rw[hu];exact(O.vals x hx).2
theorem jlp {src:SrcT}(O:SrcOK src){b c:MT}(V:VarsOK b.1.vars b.1.enums)(h0:b.1.vars=[])(h:vO b src.vars=.ok c):VarsOK c.1.vars c.1.enums:=by
 have:=Qz (n:=0) (P:=λk (c:MT)=>(∀ v∈c.1.vars,-100000000<=v.lo/\v.lo<=100000000/\-100000000<=v.hi/\v.hi<=100000000)/\c.1.enums=b.1.enums/\c.1.vars.length=k) (λk c x c' hx hc hr=>?_) ⟨V.ends,rfl,by rw[h0];rfl⟩ h
 ·have hn:=O.nv;exact⟨om,by rw[this.2.1];exact V.len2,by rw[this.2.1];exact V.vals,this.1⟩
 ·obtain⟨v,he,hv⟩:=jc2 (by rw[hc.2.1];exact V.vals) (O.vars x hx) hr;rw[he];refine⟨λu hu=>?_,hc.2.1,by simp[hc.2.2]⟩;rcases Qaz.1 hu with hu|hu
  ·exact hc.1 u hu
  ·simp only[Qbm] at hu;rw[hu];exact hv
theorem jmu {src:SrcT}(O:SrcOK src){m:MT}(h:Ja src=.ok m):VarsOK m.1.vars m.1.enums:=by
 unfold Ja at h;split at h
 ·cases h
 ·rename_i b h1;obtain⟨e1,e2,e3,e4⟩:=jll O h1;split at h
  ·cases h
  ·rename_i c h2;have V:=jlp O ⟨by rw[e1];exact Qae _,om,e4,λv hv=>by rw[e1] at hv;cases hv⟩ e1 h2;have:=Qz (n:=0) (P:=λ_ (d:MT)=>d.1.vars=c.1.vars/\d.1.enums=c.1.enums) (λk d x d' _ hd hr=>?_) ⟨rfl,rfl⟩ h
   ·rw[this.1,this.2];exact V
   ·have:=jce hr;rw[this.1,this.2];exact hd
set_option maxHeartbeats 8000000 in
theorem jrx (hb:NB base)(hP:PI base)(l f:List Nat)(hl:l.length<=9223372036854775807)(hf:f.length<=9223372036854775807):Tot base 34 [.str l,.str f] (Kz (zV l f)):=by
 refine hb.tot ?_ rfl rfl;have hS:=jlC hb hP l hl Ui ji8;have hX:=jrE hb hP f hf Ui;refine jF x24 (by rfl) (hb.pur 34 1 dc) ?_;simp only[y24,ju,κ,μ,ν,ξ];rw[(by unfold z24;simp only[qq];rfl:z24=_)];unfold zV;by_cases h1:(yK l).2.1≠0
 ·have h1':¬ ((yK l).2.1:Int)=0:=om
  rw[if_pos h1];have e:zI (yK l).2=[.int .i64 ((yK l).2.1:Int),.int .i64 ((yK l).2.2.1:Int),.int .i64 ((yK l).2.2.2:Int)]:=rfl;rw[e] at hS;repeat'(first|apply jc<;>intro _|simp(disch:=first|exact dzG|fail) only[hS,h1',Yx,Q0,vY,r11,δ,ε,ζ,η,θ])
  exact Ww rfl rfl rfl
 rw[if_neg h1];have h1z:(yK l).2.1=0:=by simpa using h1
 have O:=jd6 h1z;have e0:(yK l).2=(0,0,0):=by
  unfold yK at h1z ⊢;by_cases c:(qr l).2.1≠0
  ·rw[if_pos c] at h1z;exact absurd h1z c
  ·rw[if_neg c] at h1z ⊢;cases hr:XV (qr l).1 (qr l).1.length 0 WA with
   |er t=>rw[hr] at h1z;exact absurd h1z (λh=>by cases h)
   |ok m j=>rfl
 rw[e0] at hS;have e0':zI (0,0,0)=[.int .i64 0,.int .i64 0,.int .i64 0]:=rfl;rw[e0'] at hS;have hM:=jnG hb (yK l).1 O;unfold Uz at hM;cases hm:Ja (yK l).1 with
 |er a b c=>
  have ha:¬ a=0:=WT hm;rw[hm] at hM;unfold fcl at hM;repeat'(first|apply jc<;>intro _|simp(disch:=first|exact dzG|fail) only[hS,hM,ha,Yx,Q0,vY,r11,δ,ε,ζ,η,θ])
  exact Ww rfl rfl rfl
 |ok m=>
  rw[hm] at hM;unfold fcl at hM;dsimp only at hM ⊢;have V:=jmu O hm;by_cases h2:(yx f).2.1≠0
  ·have h2':¬ ((yx f).2.1:Int)=0:=om
   rw[if_pos h2];have e:zI (yx f).2=[.int .i64 ((yx f).2.1:Int),.int .i64 ((yx f).2.2.1:Int),.int .i64 ((yx f).2.2.2:Int)]:=rfl;rw[e] at hX;repeat'(first|apply jc<;>intro _|simp(disch:=first|exact dzG|fail) only[hS,hM,hX,h2',Yx,Q0,vY,r11,δ,ε,ζ,η,θ])
   exact Ww rfl rfl rfl
  rw[if_neg h2];have h2z:(yx f).2.1=0:=by simpa using h2
  have OX:=jlg h2z;have e2:(yx f).2=(0,0,0):=by
   unfold yx at h2z ⊢;by_cases c:(qr f).2.1≠0
   ·rw[if_pos c] at h2z;exact absurd h2z c
   ·rw[if_neg c] at h2z ⊢;cases hr:yu (qr f).1 0 with
    |er t=>rw[hr] at h2z;exact absurd h2z (λh=>by cases h)
    |ok x j=>
     rw[hr] at h2z;dsimp only at h2z ⊢;by_cases k5:(tk (qr f).1 j).kind=5
     ·rw[if_pos k5]
     ·rw[if_neg k5] at h2z;exact absurd h2z (λh=>by cases h)
  rw[e2,e0'] at hX;have hF:=jiM hb m.1 V (yx f).1 OX;unfold jfw at hF;cases hr:yE m.1.vars m.1.enums true (yx f).1 2 [] with
  |er a b c=>
   have ha:¬ a=0:=Xx hr;rw[hr] at hF;unfold fcl at hF;repeat'(first|apply jc<;>intro _|simp(disch:=first|exact dzG|fail) only[hS,hM,hX,hF,ha,Yx,Q0,vY,r11,δ,ε,ζ,η,θ])
   exact Ww rfl rfl rfl
  |ok y=>
   rw[hr] at hF;unfold fcl at hF
   (have zz:=aI @Q3 @jmw;(repeat'(first|apply jc<;>intro _|simp(disch:=first|exact jT|fail) only[hS,hM,hX,hF,Yx,Q0,jtz,vY,Q3,jmw,r11,δ,ε,ζ,η,θ]));all_goals clear zz)
   exact jkB rfl rfl rfl
theorem jqR (a b c d e f:Int):(eqF γ 20 45).run (.agg [.int .i64 a,.int .i64 b,.int .i64 c]) (.agg [.int .i64 d,.int .i64 e,.int .i64 f])=some (decide (a=d/\b=e/\c=f)):=by
 have h:(eqF γ 20 45).run (.agg [.int .i64 a,.int .i64 b,.int .i64 c]) (.agg [.int .i64 d,.int .i64 e,.int .i64 f])=cond (eqI a d) (cond (eqI b e) (cond (eqI c f) (some true) (some false)) (some false)) (some false):=by kernel_rfl
 rw[h,Yb,Yb,Yb];by_cases h1:a=d<;>by_cases h2:b=e<;>by_cases h3:c=f<;>simp[h1,h2,h3]
theorem fEq (a b c d e f:Int)(st:St)(K:AV->St->Prop):jk (QK γ .eql 45 false (.agg [.int .i64 a,.int .i64 b,.int .i64 c]) (.agg [.int .i64 d,.int .i64 e,.int .i64 f]) st) K=K (.bool (decide (a=d/\b=e/\c=f))) st:=by
 have h:QK γ .eql 45 false (.agg [.int .i64 a,.int .i64 b,.int .i64 c]) (.agg [.int .i64 d,.int .i64 e,.int .i64 f]) st=jU ((eqF γ 20 45).run (.agg [.int .i64 a,.int .i64 b,.int .i64 c]) (.agg [.int .i64 d,.int .i64 e,.int .i64 f])) λb=>.ok (.bool b) st:=by kernel_rfl
 rw[h,jqR];simp[jU,jk]
theorem fNe (a b c d e f:Int)(st:St)(K:AV->St->Prop):jk (QK γ .neq 45 false (.agg [.int .i64 a,.int .i64 b,.int .i64 c]) (.agg [.int .i64 d,.int .i64 e,.int .i64 f]) st) K=K (.bool (decide (¬ (a=d/\b=e/\c=f)))) st:=by
 have h:QK γ .neq 45 false (.agg [.int .i64 a,.int .i64 b,.int .i64 c]) (.agg [.int .i64 d,.int .i64 e,.int .i64 f]) st=jU ((eqF γ 20 45).run (.agg [.int .i64 a,.int .i64 b,.int .i64 c]) (.agg [.int .i64 d,.int .i64 e,.int .i64 f])) λb=>.ok (.bool (cond b false true)) st:=by kernel_rfl
 rw[h,jqR];by_cases hh:a=d/\b=e/\c=f<;>simp[hh,jU,jk]
def Zk (vars:List VarT):Prop:=∀ v∈vars,v.kind=2->v.enum=[]
theorem jfY {enums:List EnumT}{d:DeclT}{v:VarT}(h:uj enums d=.ok v):v.kind=2->v.enum=[]:=by
 unfold uj at h;split at h
 ·cases h;exact λ_=>rfl
 ·split at h
  ·cases h;intro h;cases h
  ·split at h
   ·cases h
   ·split at h
    ·cases h
    ·split at h
     ·cases h
     ·cases h;intro h;cases h
theorem jgs {m:ModT}{ts:List (List Nat)}{d:DeclT}{b:MT}(hm:Zk m.vars)(h:XR m ts d=.ok b):Zk b.1.vars:=by
 unfold XR at h;split at h
 ·cases h
 ·split at h
  ·cases h
  ·rename_i v hk;unfold wT at h;split at h
   ·cases h
   ·rename_i u hu;unfold kR at h;split at h
    ·cases h
    ·cases h;have hb:=Hb hu;intro w hw;rcases Qaz.1 hw with hw|hw
     ·exact hm w hw
     ·simp only[Qbm] at hw;rw[hw,hb.2.2.1,hb.2.2.2.1];exact jfY hk
theorem jnL {src:SrcT}{m:MT}(h:Ja src=.ok m):Zk m.1.vars:=by
 unfold Ja at h;split at h
 ·cases h
 ·rename_i b h1;have hb:Zk b.1.vars:=Qz (n:=0) (P:=λ_ (c:MT)=>Zk c.1.vars) (λk c x c' _ hc hr=>by rw[Vc hr];exact hc) (λv hv=>by cases hv) h1;split at h
  ·cases h
  ·rename_i c h2;have hc:Zk c.1.vars:=Qz (n:=0) (P:=λ_ (c:MT)=>Zk c.1.vars) (λk c x c' _ hc hr=>jgs hc hr) hb h2;exact Qz (n:=0) (P:=λ_ (c:MT)=>Zk c.1.vars) (λk c x c' _ hc hr=>by rw[(jce hr).1];exact hc) hc h
mutual
theorem jcD {vars:List VarT}{enums:List EnumT}:∀ (fm:Bool) (x y:Ex) (m:MtT),yh vars enums fm x=.ok (y,m)->szE y<=szE x
 |fm,.mk op num name ks l c,y,m,h=>by
  rw[yh] at h;split at h
  ·cases h;exact τ _
  ·split at h
   ·cases h;exact τ _
   ·split at h
    ·have hs:∀ o n l c,szE (.mk o n [] [] l c)<=szE (.mk op num name ks l c):=λo n l c=>by rw[Xd,Xd];simp[yz]
     unfold zt at h;split at h
     ·cases h;exact hs _ _ _ _
     ·split at h
      ·cases h
      ·cases h;exact hs _ _ _ _
    ·split at h
     ·cases h
     ·rename_i r hr;have h2:=HS _ _ r.1 r.2 hr;have e:∀ l' c',szE (.mk op num name r.1 l' c')<=szE (.mk op num name ks l c):=λl' c'=>by rw[Xd,Xd];omega
      unfold YC at h;split at h
      ·cases h
      ·split at h
       ·cases h;exact e _ _
       ·split at h
        ·cases h
        ·cases h;exact e _ _
theorem HS {vars:List VarT}{enums:List EnumT}:∀ (fm:Bool) (xs ys:List Ex) (ms:List MtT),qh vars enums fm xs=.ok (ys,ms)->yz ys<=yz xs
 |fm,[],ys,ms,h=>by rw[qh] at h;cases h;exact τ _
 |fm,x :: xs,ys,ms,h=>by
  rw[qh] at h;cases hx:yh vars enums fm x with
  |er a b d=>rw[hx] at h;cases h
  |ok y=>
   rw[hx] at h;cases hr:qh vars enums fm xs with
   |er a b d=>rw[hr] at h;cases h
   |ok r=>
    rw[hr] at h;cases h;have h1:=jcD fm x y.1 y.2 hx;have h2:=HS fm xs r.1 r.2 hr;simp only[yz];omega
end
theorem YJ {α:Type}{f:α->Nat}:∀ {l:List α} {x:α},x∈l->f x<=(l.map f).sum
 |y :: l,x,h=>by
  rw[κ,List.sum_cons];rcases QaW.1 h with rfl|h
  ·omega
  ·have:=YJ (f:=f) h;omega
theorem YK {α:Type}{f:α->Nat}(hf:∀ x,1<=f x):∀ l:List α,l.length<=(l.map f).sum
 |[]=>Qae _
 |y :: l=>by
  rw[κ,List.sum_cons,υ];have:=YK hf l;have:=hf y;omega
theorem jkC {xs:List Ex}{x:Ex}(h:x∈xs):szE x<=yz xs:=by rw[<-J3];exact YJ h
theorem jnl (xs:List Ex):xs.length<=yz xs:=by rw[<-J3];exact YK Gx xs
theorem jpm {m:SrcT}(h:szS m<=1048576):WrS m:=by
 unfold szS at h;have hB:(1048576:Nat)<=BIG:=dc
 have l1:=YK (f:=szN) (λe=>by unfold szN;omega) m.enums;have l2:=YK (f:=szD) (λe=>by unfold szD;omega) m.vars;have l3:=YK (f:=szP) (λe=>by unfold szP;omega) m.procs;refine⟨om,λe he=>?_,om,λd hd=>?_,om,λp hp=>?_⟩
 ·have h0:=YJ (f:=szN) he;have e0:szN e=e.name.length+(e.vals.map szV).sum+1:=rfl;have lv:=YK (f:=szV) (λe=>by unfold szV;omega) e.vals;refine⟨om,om,λv hv=>?_⟩;have h1:=YJ (f:=szV) hv;have e1:szV v=v.length+1:=rfl;omega
 ·have h0:=YJ (f:=szD) hd;have e0:szD d=d.name.length+d.ty.length+yz d.begins+1:=rfl;have:=jnl d.begins;refine⟨om,om,om,λx hx=>?_⟩;have:=jkC hx;omega
 ·have h0:=YJ (f:=szP) hp;have e0:szP p=p.name.length+(p.rules.map szR).sum+1:=rfl;have lr:=YK (f:=szR) (λe=>by unfold szR;omega) p.rules;refine⟨om,om,λr hr=>?_⟩;have h1:=YJ (f:=szR) hr;have e1:szR r=szE r.when+(r.acts.map szA).sum+1:=rfl;have la:=YK (f:=szA) (λe=>by unfold szA;omega) r.acts;refine⟨om,om,λa ha=>?_⟩;have h2:=YJ (f:=szA) ha;have e2:szA a=a.name.length+szE a.to+1:=rfl;omega
section
variable {st:St} {K:AV->St->Prop}
theorem Yg (a b c:AV):jk (GV 0 (.tup [a,b,c]) st) K=K a st:=nr rfl
theorem Yf (a b c:AV):jk (GV 1 (.tup [a,b,c]) st) K=K b st:=nr rfl
theorem Ye (a b c:AV):jk (GV 2 (.tup [a,b,c]) st) K=K c st:=nr rfl
end
theorem jb7 {l f:List Nat}(h:(zV l f).c=0):VarsOK (zV l f).m.vars (zV l f).m.enums/\Zk (zV l f).m.vars:=by
 unfold zV at h ⊢;by_cases h1:(yK l).2.1≠0
 ·rw[if_pos h1] at h;exact absurd (show((yK l).2.1:Int)=0 from h) om
 ·rw[if_neg h1] at h ⊢;have O:=jd6 (l:=l) (by simpa using h1);cases hm:Ja (yK l).1 with
  |er a b c=>
   rw[hm] at h;exact absurd h (WT hm)
  |ok m=>
   rw[hm] at h;dsimp only at h ⊢;by_cases h2:(yx f).2.1≠0
   ·rw[if_pos h2] at h;exact absurd (show((yx f).2.1:Int)=0 from h) om
   ·rw[if_neg h2] at h ⊢;cases hr:yE m.1.vars m.1.enums true (yx f).1 2 [] with
    |er a b c=>
     rw[hr] at h;exact absurd h (Xx hr)
    |ok y=>exact⟨jmu O hm,jnL hm⟩
mutual
def wkB:Ex->Bool
 |.mk op num _ ks _ _=>(decide (zx op=(ks.length:Int)) && (decide (op≠2) ||decide (num=0) ||decide (num=1))) && Zn ks
def Zn:List Ex->Bool
 |[]=>true
 |x :: xs=>wkB x && Zn xs
end
def WkX (x:Ex):Prop:=wkB x=true/\szE x<=BIG
mutual
theorem Zu:∀ (d:Nat) (x:Ex),yF d x=true->wkB x=true
 |0,_,h=>by cases h
 |d+1,.mk op num name ks l c,h=>by
  rw[vB] at h;simp only[Qaa,decide_eq_true_eq] at h;obtain⟨⟨⟨⟨h1,h2⟩,h3⟩,h4⟩,h5⟩:=h;have h1:(1:Int)<=op:=h1;have h2:op<31:=h2;have h3:(ks.length:Int)=if 5<=op/\op<=13 then 1 else if 14<=op/\op<31 then 2 else 0:=h3
  rw[wkB,Qaa,Qaa,decide_eq_true_eq];refine⟨⟨?_,?_⟩,Hl d ks h5⟩
  ·unfold zx;rw[h3];repeat' split
   all_goals omega
  ·by_cases ho:op=2
   ·unfold ui at h4;rw[if_neg (show ¬ Ex.op (.mk op num name ks l c)=1 from by show ¬ op=1;omega),if_pos (show Ex.op (.mk op num name ks l c)=2 from ho)] at h4;simp only[Qaa,Qav,decide_eq_true_eq] at h4;have h6:num=0\/num=1:=h4.1;simp only[Qav,decide_eq_true_eq];omega
   ·simp[ho]
theorem Hl:∀ (d:Nat) (xs:List Ex),xs.all (yF d)=true->Zn xs=true
 |_,[],_=>rfl
 |d,x :: xs,h=>by
  rw[QaD,Qaa] at h;rw[Zn,Zu d x h.1,Hl d xs h.2];rfl
end
theorem jkv {ts:List Tk}(W:Wds ts){i j:Nat}{x:Ex}(hi:i<ts.length)(h:yu ts i=.ok x j):szE x<=BIG:=by
 obtain⟨r,_,hr⟩:=evR W hi;rw[Vu hr] at h;obtain⟨N,hr⟩:=hr;have hz:=(UD W N).1 _ _ _ _ (hr N (τ _)) hi;unfold Vt at h;cases r with
 |er t=>cases h
 |ok y k=>
  dsimp only at h;split at h
  ·cases h;have h1:=hz.2.2;have h2:(j - i) * 65537<=1000000 * 65537:=Qaw _ (by have:=W.len;have:=hz.2.1;omega);have h3:1000000 * 65537<=BIG:=dc
   exact Qab h1 (by rw[Qal];exact Qab h2 h3)
  ·cases h
theorem kK {ts:List Tk}(W:Wds ts){i j:Nat}{x:Ex}(hi:i<ts.length)(h:yu ts i=.ok x j):WkX x:=⟨Zu 60 x (yg W hi h).2.2.2,jkv W hi h⟩
def WkD (d:DeclT):Prop:=(∀ x∈d.begins,WkX x)/\d.begins.length<=1
def WkR (r:RuleT):Prop:=WkX r.when/\(∀ a∈r.acts,WkX a.to)/\r.acts.length<=1000000
def WkP (p:ProcT):Prop:=p.rules.length<=1000/\∀ r∈p.rules,WkR r
structure WkS (m:SrcT):Prop where
 begs:∀ d∈m.vars,WkD d
 rules:∀ p∈m.procs,WkP p
 ens:∀ e∈m.enums,0<e.vals.length/\e.vals.length<=32
theorem jdN:∀ {ts:List Tk} {n i j:Nat} {vs ws:List (List Nat)},vs.length<=32->Xv ts n i vs=.ok ws j->vs.length<ws.length/\ws.length<=32
 |ts,0,i,j,vs,ws,hv,h=>by cases h
 |ts,n+1,i,j,vs,ws,hv,h=>by
  rw[Xv] at h;split at h
  ·split at h
   ·cases h
   ·split at h
    ·have:=jdN (by simp;omega) h;simp at this;omega
    ·split at h
     ·cases h;simp;omega
     ·cases h
  ·cases h
theorem jm6 {ts:List Tk}{i j:Nat}{e:EnumT}(h:Yt ts i=.ok e j):0<e.vals.length/\e.vals.length<=32:=by
 unfold Yt at h;split at h
 ·split at h
  ·split at h
   ·rename_i vs k hv;cases h;have:=jdN (by simp) hv;dsimp only;omega
   ·cases h
  ·cases h
 ·cases h
theorem jow {ts:List Tk}(W:Wds ts){i j:Nat}{bs:List Ex}(hi:i<ts.length)(h:wh ts i=.ok bs j):(∀ x∈bs,WkX x)/\bs.length<=1:=by
 unfold wh at h;split at h
 ·rename_i c;have hi1:=W.isM hi c;split at h
  ·cases h
  ·rename_i x k hx;split at h
   ·cases h;exact⟨λy hy=>by simp at hy;rw[hy];exact kK W hi1 hx,by simp⟩
   ·cases h
 ·split at h
  ·cases h;exact⟨(λy hy=>by cases hy),by simp⟩
  ·cases h
theorem jm7 {ts:List Tk}(W:Wds ts){i j:Nat}{d:DeclT}(hi:i<ts.length)(h:Yu ts i=.ok d j):WkD d:=by
 unfold Yu at h;split at h
 ·rename_i k1;have hi1:=W.next i hi om
  split at h
  ·rename_i c1;have hi2:=W.isM hi1 c1;split at h
   ·cases h
   ·rename_i y k hy;have hk:=jbQ W hi2 hy;split at h
    ·cases h
    ·rename_i bs k2 hb;cases h;obtain⟨c,d⟩:=jow W hk.2 hb;exact⟨c,d⟩
  ·cases h
 ·cases h
theorem jdO {ts:List Tk}(W:Wds ts):∀ {n i j:Nat} {vs ws:List AsT},i<ts.length->(∀ a∈vs,WkX a.to)->vs.length<=32->QN ts n i vs=.ok ws j->(∀ a∈ws,WkX a.to)/\ws.length<=32
 |0,i,j,vs,ws,hi,hv,hl,h=>by cases h
 |n+1,i,j,vs,ws,hi,hv,hl,h=>by
  rw[QN] at h;by_cases k1:(tk ts i).kind=1
  ·simp only[if_pos k1] at h;have hi1:=W.next i hi om
   by_cases h32:32<=vs.length
   ·simp only[if_pos h32] at h;cases h
   simp only[if_neg h32] at h;by_cases c1:isM (tk ts (i+1)) [[58,61]]=true
   ·simp only[if_pos c1] at h;have hi2:=W.isM hi1 c1;cases h1:yu ts (i+2) with
    |er t=>rw[h1] at h;cases h
    |ok x k=>
     rw[h1] at h;dsimp only at h;have hj:=yg W hi2 h1;have hx:=kK W hi2 h1;have hv2:∀ l c nm,∀ a∈vs ++ [(⟨nm,x,l,c⟩:AsT)],WkX a.to:=λl c nm a ha=>by
      rcases Qaz.1 ha with ha|ha
      ·exact hv a ha
      ·simp at ha;rw[ha];exact hx
     by_cases c2:isM (tk ts k) [[44]]=true
     ·simp only[if_pos c2] at h;exact jdO W (W.isM hj.2.1 c2) (hv2 _ _ _) (by simp;omega) h
     ·simp only[if_neg c2] at h;split at h
      ·cases h;exact⟨hv2 _ _ _,by simp;omega⟩
      ·cases h
   ·simp only[if_neg c1] at h;cases h
  ·simp only[if_neg k1] at h;cases h
theorem jm4 {ts:List Tk}(W:Wds ts){i j:Nat}{r:RuleT}(hi:i<ts.length)(h:Xz ts i=.ok r j):WkX r.when/\(∀ a∈r.acts,WkX a.to)/\r.acts.length<=1000000:=by
 unfold Xz at h;cases h1:yu ts i with
 |er t=>rw[h1] at h;cases h
 |ok x k=>
  rw[h1] at h;dsimp only at h;have hj:=yg W hi h1;by_cases c1:isM (tk ts k) [[100,111]]=true
  ·simp only[if_pos c1] at h;cases h2:QN ts ts.length (k+1) [] with
   |er t=>rw[h2] at h;cases h
   |ok vs k2=>
    rw[h2] at h;cases h;have:=jdO (vs:=[]) W (W.isM hj.2.1 c1) (λa ha=>by cases ha) (Qae _) h2;exact⟨kK W hi h1,this.1,by dsimp only;omega⟩
  ·simp only[if_neg c1] at h;cases h
theorem jbA {ts:List Tk}(W:Wds ts):∀ {n i j:Nat} {vs ws:List RuleT},i<ts.length->(∀ r∈vs,WkX r.when/\(∀ a∈r.acts,WkX a.to)/\r.acts.length<=1000000)->vs.length<=32->Qi ts n i vs=.ok ws j->(∀ r∈ws,WkX r.when/\(∀ a∈r.acts,WkX a.to)/\r.acts.length<=1000000)/\ws.length<=32
 |0,i,j,vs,ws,hi,hv,hl,h=>by cases h
 |n+1,i,j,vs,ws,hi,hv,hl,h=>by
  rw[Qi] at h;by_cases c1:isM (tk ts i) [[119,104,101,110]]=true
  ·simp only[if_pos c1] at h;have hi1:=W.isM hi c1;by_cases h32:32<=vs.length
   ·simp only[if_pos h32] at h;cases h
   simp only[if_neg h32] at h;cases h1:Xz ts (i+1) with
   |er t=>rw[h1] at h;cases h
   |ok r k=>
    rw[h1] at h;dsimp only at h;refine jbA W (UG W hi1 h1).2 (λa ha=>?_) (by simp;omega) h;rcases Qaz.1 ha with ha|ha
    ·exact hv a ha
    ·simp at ha;rw[ha];exact jm4 W hi1 h1
  ·simp only[if_neg c1] at h;split at h
   ·cases h;exact⟨hv,hl⟩
   ·cases h
theorem jm5 {ts:List Tk}(W:Wds ts){i j:Nat}{p:ProcT}(hi:i<ts.length)(h:Yj ts i=.ok p j):WkP p:=by
 unfold Yj at h;split at h
 ·rename_i k1;have hi1:=W.next i hi om
  split at h
  ·rename_i c1;have hi2:=W.isM hi1 c1;split at h
   ·rename_i vs k hv;cases h;have:=jbA (vs:=[]) W hi2 (λa ha=>by cases ha) (Qae _) hv;exact⟨by dsimp only;omega,this.1⟩
   ·cases h
  ·cases h
 ·cases h
theorem Kl {ts:List Tk}(W:Wds ts):∀ {n i j:Nat} {m w:SrcT},i<ts.length->WkS m->m.enums.length<=32->m.vars.length<=32->m.procs.length<=32->XV ts n i m=.ok w j->WkS w/\w.enums.length<=32/\w.vars.length<=32/\w.procs.length<=32
 |0,i,j,m,w,hi,hm,h1,h2,h3,h=>by cases h
 |n+1,i,j,m,w,hi,hm,h1,h2,h3,h=>by
  rw[XV] at h;by_cases c:isM (tk ts i) [[101,110,117,109],[118,97,114],[112,114,111,99,101,115,115]]=true
  ·simp only[if_pos c] at h;have hi1:=W.isM hi c;by_cases c1:(tk ts i).text=[101,110,117,109]
   ·simp only[if_pos c1] at h;by_cases hr:32<=m.enums.length
    ·simp only[if_pos hr] at h;cases h
    simp only[if_neg hr] at h;cases he:Yt ts (i+1) with
    |er t=>rw[he] at h;cases h
    |ok e k=>
     rw[he] at h;refine Kl (m:={ m with enums:=m.enums ++ [e] }) W (G3 W hi1 he).2 ⟨hm.begs,hm.rules,λa ha=>?_⟩ (by simp;omega) h2 h3 h;rcases Qaz.1 ha with ha|ha
     ·exact hm.ens a ha
     ·simp at ha;rw[ha];exact jm6 he
   simp only[if_neg c1] at h;by_cases c2:(tk ts i).text=[118,97,114]
   ·simp only[if_pos c2] at h;by_cases hr:32<=m.vars.length
    ·simp only[if_pos hr] at h;cases h
    simp only[if_neg hr] at h;cases he:Yu ts (i+1) with
    |er t=>rw[he] at h;cases h
    |ok e k=>
     rw[he] at h;refine Kl (m:={ m with vars:=m.vars ++ [e] }) W (G8 W hi1 he).2 ⟨λa ha=>?_,hm.rules,hm.ens⟩ h1 (by simp;omega) h3 h;rcases Qaz.1 ha with ha|ha
     ·exact hm.begs a ha
     ·simp at ha;rw[ha];exact jm7 W hi1 he
   ·simp only[if_neg c2] at h;by_cases hr:32<=m.procs.length
    ·simp only[if_pos hr] at h;cases h
    simp only[if_neg hr] at h;cases he:Yj ts (i+1) with
    |er t=>rw[he] at h;cases h
    |ok e k=>
     rw[he] at h;refine Kl (m:={ m with procs:=m.procs ++ [e] }) W (GE W hi1 he).2 ⟨hm.begs,λa ha=>?_,hm.ens⟩ h1 h2 (by simp;omega) h;rcases Qaz.1 ha with ha|ha
     ·exact hm.rules a ha
     ·simp at ha;rw[ha];exact jm5 W hi1 he
  ·simp only[if_neg c] at h;split at h
   ·cases h;exact⟨hm,h1,h2,h3⟩
   ·cases h
theorem jno {l:List Nat}(h:(yK l).2.1=0):WkS (yK l).1/\(yK l).1.procs.length<=32:=by
 unfold yK at h ⊢;by_cases c:(qr l).2.1≠0
 ·rw[if_pos c] at h;exact absurd h c
 ·rw[if_neg c] at h ⊢;have c0:(qr l).2.1=0:=by simpa using c
  obtain⟨W,ne,_⟩:=Ui c0;cases hr:XV (qr l).1 (qr l).1.length 0 WA with
  |er t=>rw[hr] at h;exact absurd h (λh=>by cases h)
  |ok m j=>
   have:=Kl W (Qbx.2 ne) ⟨(λa ha=>by cases ha),(λa ha=>by cases ha),(λa ha=>by cases ha)⟩ dc dc dc hr;exact⟨this.1,this.2.2.2⟩
section
def wq (n:Int):Int:=qO .i64 n
def Qr (p:Prop) [Decidable p]:Int:=if p then 1 else 0
def vv (op a b:Int):Option Int:=
 if op=14 then some (wq (a * b)) else if op=15 then some (wq (a+b)) else if op=16 then some (wq (a - b))
 else if op=17\/op=30 then some (Qr (a=b)) else if op=18 then some (Qr (a≠b)) else if op=19 then some (Qr (a<b))
 else if op=20\/op=29 then some (Qr (a<=b)) else if op=21 then some (Qr (b<a)) else if op=22 then some (Qr (b<=a))
 else if op=27 then some (if a<=b then a else b) else if op=28 then some (if a<=b then b else a) else none
def opV (s:List Int)(op num:Int)(ns:List Int):Option Int:=
 if ns.length=0/\(op=1\/op=2) then some num
 else if ns.length=0/\op=4/\0<=num/\num<(s.length:Int) then some (s.getD num.toNat 0)
 else if ns.length=1/\op=5 then some (wq (-(ns.getD 0 0)))
 else if ns.length=1/\op=6 then some (wq (1 - ns.getD 0 0))
 else if ns.length=2 then vv op (ns.getD 0 0) (ns.getD 1 0)
 else none
mutual
def qe (s:List Int):Ex->Option Int
 |.mk op num _ ks _ _=>match qm s ks with
  |none=>none
  |some ns=>opV s op num ns
def qm (s:List Int):List Ex->Option (List Int)
 |[]=>some []
 |x :: xs=>match qe s x with
  |none=>none
  |some n=>match qm s xs with
   |none=>none
   |some ns=>some (n :: ns)
end
def QE (op a b:Int):Int:=
 if op=5 then wq (-a) else if op=14 then wq (a * b) else if op=15 then wq (a+b) else if op=16 then wq (a - b)
 else if op=6 then Qr (a=0) else if op=17\/op=30 then Qr (a=b) else if op=18 then Qr (a≠b) else if op=19 then Qr (a<b)
 else if op=20 then Qr (a<=b) else if op=21 then Qr (b<a) else if op=22 then Qr (b<=a) else if op=27 then Qr (a=1/\b=1)
 else if op=28 then Qr (a=1\/b=1) else if op=29 then Qr (a=0\/b=1) else 0
mutual
def JR (s:List Int):Ex->Int
 |.mk op num _ ks _ _=>if op=4 then s.getD num.toNat 0 else if ks.length=0 then num else QE op ((KX s ks).getD 0 0) ((KX s ks).getD (ks.length - 1) 0)
def KX (s:List Int):List Ex->List Int
 |[]=>[]
 |x :: xs=>JR s x :: KX s xs
end
theorem Wy {s:List Int}:∀ {xs:List Ex} {ns:List Int},qm s xs=some ns->ns.length=xs.length
 |[],ns,h=>by simp only[qm] at h;cases h;rfl
 |x :: xs,ns,h=>by
  rw[qm] at h;cases h1:qe s x with
  |none=>rw[h1] at h;cases h
  |some n=>
   rw[h1] at h;cases h2:qm s xs with
   |none=>rw[h2] at h;cases h
   |some ms=>rw[h2] at h;cases h;simp[Wy h2]
def JH (vars:List VarT)(s:List Int):Bool:=decide (s.length=vars.length) && (Qak vars.length).all λi=>decide ((vars.getD i ⟨[],0,[],0,0,false,0⟩).lo<=s.getD i 0) && decide (s.getD i 0<=(vars.getD i ⟨[],0,[],0,0,false,0⟩).hi)
def YG (vars:List VarT):Prop:=∀ v∈vars,v.kind=2->v.lo=0/\v.hi=1
def zY (n:Int):Prop:=n=0\/n=1
theorem jtu:wq (1 - 0)=1:=dc
theorem jtt:wq (1 - 1)=0:=dc
theorem vo (p:Prop) [Decidable p]:zY (Qr p):=by unfold Qr zY;split<;>simp
theorem jn6 {part:Int}{ms:List MtT}(h:Up part ms≠true)(hp:0<part):∀ m∈ms,m.kind=part:=λm hm=>by
 have h:Up part ms=false:=by simpa using h
 unfold Up at h;rw[List.any_eq_false] at h;have:=h m hm;simp at this;exact this.1.1 hp
theorem jd1 {op a b n:Int}(h:vv op a b=some n)(hb:(qJ op).1=2->zY a/\zY b):QE op a b=n/\((qJ op).2=2->zY n):=by
 have no:∀ {p:Prop} {q:Int},(qJ q).2=1->((qJ q).2=2->p):=λe h=>by rw[e] at h;exact absurd h dc
 unfold vv at h;by_cases e:op=14
 ·rw[if_pos e] at h;cases h;subst e;exact⟨by simp[QE],no dc⟩
 rw[if_neg e] at h;clear e;by_cases e:op=15
 ·rw[if_pos e] at h;cases h;subst e;exact⟨by simp[QE],no dc⟩
 rw[if_neg e] at h;clear e;by_cases e:op=16
 ·rw[if_pos e] at h;cases h;subst e;exact⟨by simp[QE],no dc⟩
 rw[if_neg e] at h;clear e;by_cases e:op=17\/op=30
 ·rw[if_pos e] at h;cases h;refine⟨?_,λ_=>vo _⟩;rcases e with e|e<;>(subst e;simp[QE])
 rw[if_neg e] at h;clear e;by_cases e:op=18
 ·rw[if_pos e] at h;cases h;subst e;exact⟨by simp[QE],λ_=>vo _⟩
 rw[if_neg e] at h;clear e;by_cases e:op=19
 ·rw[if_pos e] at h;cases h;subst e;exact⟨by simp[QE],λ_=>vo _⟩
 rw[if_neg e] at h;clear e;by_cases e:op=20\/op=29
 ·rw[if_pos e] at h;cases h;refine⟨?_,λ_=>vo _⟩;rcases e with e|e
  ·subst e;simp[QE]
  ·subst e;obtain⟨ha,hc⟩:=hb dc;rcases ha with rfl|rfl<;>rcases hc with rfl|rfl<;>decide
 rw[if_neg e] at h;clear e;by_cases e:op=21
 ·rw[if_pos e] at h;cases h;subst e;exact⟨by simp[QE],λ_=>vo _⟩
 rw[if_neg e] at h;clear e;by_cases e:op=22
 ·rw[if_pos e] at h;cases h;subst e;exact⟨by simp[QE],λ_=>vo _⟩
 rw[if_neg e] at h;clear e;by_cases e:op=27
 ·rw[if_pos e] at h;cases h;subst e;obtain⟨ha,hc⟩:=hb dc;rcases ha with rfl|rfl<;>rcases hc with rfl|rfl<;>exact⟨dc,λ_=>(by unfold zY;decide)⟩
 rw[if_neg e] at h;clear e;by_cases e:op=28
 ·rw[if_pos e] at h;cases h;subst e;obtain⟨ha,hc⟩:=hb dc;rcases ha with rfl|rfl<;>rcases hc with rfl|rfl<;>exact⟨dc,λ_=>(by unfold zY;decide)⟩
 rw[if_neg e] at h;cases h
theorem kQ {vars:List VarT}{s:List Int}(h:JH vars s=true):s.length=vars.length/\∀ i,i<vars.length->(vars.getD i ⟨[],0,[],0,0,false,0⟩).lo<=s.getD i 0/\s.getD i 0<=(vars.getD i ⟨[],0,[],0,0,false,0⟩).hi:=by
 unfold JH at h;rw[Qaa,decide_eq_true_eq,Qai] at h;refine⟨h.1,λi hi=>?_⟩;have:=h.2 i (QbH.2 hi);simpa using this
mutual
theorem HV {vars:List VarT}{enums:List EnumT}(hv:YG vars){s:List Int}(hs:JH vars s=true):∀ (fm:Bool) (x y:Ex) (m:MtT),wkB x=true->yh vars enums fm x=.ok (y,m)->∀ n,qe s y=some n->JR s y=n/\(m.kind=2->zY n)
 |fm,.mk op num name ks l c,y,m,hx,h,n,hn=>by
  have hx0:=hx;rw[wkB] at hx0;simp only[Qaa,decide_eq_true_eq] at hx0;obtain⟨⟨hk,hleaf⟩,hks⟩:=hx0;have nk:(op=1\/op=2\/op=3\/op=4)->ks=[]:=λho=>by
   unfold zx at hk;rw[if_pos om] at hk;exact QaN om
  rw[yh] at h;split at h
  ·rename_i h1;cases h;subst h1;have e:=nk (by simp);subst e;simp only[qe,qm,opV] at hn;simp at hn;subst hn;exact⟨by simp[JR],λh=>by simp at h⟩
  ·split at h
   ·rename_i h1;cases h;subst h1;have e:=nk (by simp);subst e;simp only[qe,qm,opV] at hn;simp at hn;subst hn;refine⟨by simp[JR],λ_=>?_⟩;simp at hleaf;unfold zY;omega
   ·split at h
    ·rename_i h1;subst h1;unfold zt at h;split at h
     ·rename_i h2;cases h;have hlt:jV vars (Ex.mk 3 num name ks l c).name<(vars.length:Int):=Zb;have hlt2:(jV vars name).toNat<vars.length:=by
       have:jV vars name<(vars.length:Int):=hlt;have:(0:Int)<=jV vars name:=h2;omega
      obtain⟨r1,r2⟩:=kQ hs;have r2:=r2 _ hlt2;simp only[qe,qm,opV] at hn;have hlt3:jV vars (Ex.mk 3 num name ks l c).name<(s.length:Int):=by rw[r1];exact hlt
      rw[if_neg (by simp),if_pos ⟨by simp,by simp,h2,hlt3⟩] at hn;cases hn;refine⟨by simp only[JR,if_true],λhk2=>?_⟩;have hm:vars.getD (jV vars name).toNat ⟨[],0,[],0,0,false,0⟩∈vars:=by
       rw[Qap,Qaj hlt2];exact Qad hlt2
      have:=hv _ hm hk2;show zY (s.getD (jV vars name).toNat 0);unfold zY;omega
     ·split at h
      ·cases h
      ·cases h;simp only[qe,qm,opV] at hn;simp at hn;subst hn;exact⟨by simp[JR],λh=>by simp at h⟩
    ·rename_i n1 n2 n3;split at h
     ·cases h
     ·rename_i r hr;have K:=gt (vars:=vars) (enums:=enums) hv hs _ ks r.1 r.2 hks hr;have kl:=Jp hr;unfold YC at h;split at h
      ·cases h
      ·rename_i hbad;have hb0:r.2.length≠0:=λh=>hbad (.inl h);have hbm:Up (qJ op).1 r.2≠true:=λh=>hbad (.inr (.inr (.inr h)));have hy:y=.mk op num name r.1 l c/\m.kind=(qJ op).2:=by
        split at h
        ·cases h;exact⟨rfl,rfl⟩
        ·split at h
         ·cases h
         ·cases h;exact⟨rfl,rfl⟩
       obtain⟨rfl,hm⟩:=hy;rw[hm];rw[qe] at hn;cases hns:qm s r.1 with
       |none=>rw[hns] at hn;cases hn
       |some ns=>
        rw[hns] at hn;obtain⟨k1,k2⟩:=K ns hns;have hl:=Wy hns;have ho:op≠4:=λe=>by
         have:=nk (by simp[e]);rw[this] at kl;exact hb0 (by simpa using kl.2)
        have hp:0<(qJ op).1->∀ i,i<r.2.length->(r.2.getD i mt0).kind=(qJ op).1:=λh0 i hi=>by
         refine jn6 hbm h0 _ ?_;rw[Qap,Qaj hi];exact Qad hi
        have hr:JR s (.mk op num name r.1 l c)=QE op (ns.getD 0 0) (ns.getD (r.1.length - 1) 0):=by
         rw[JR,if_neg ho,if_neg om,k1]
        rw[hr];unfold opV at hn;dsimp only at hn;rw[if_neg om,if_neg om] at hn;split at hn
        ·rename_i e;cases hn;obtain⟨e1,rfl⟩:=e;exact⟨rfl,λh=>absurd h dc⟩
        ·split at hn
         ·rename_i e;cases hn;obtain⟨e1,rfl⟩:=e;have:=k2 0 om (by rw[hp dc 0 om];decide);rw[show r.1.length - 1=0 by omega];rcases this with e|e<;>rw[e]<;>exact⟨rfl,λ_=>by unfold zY;decide⟩
         ·split at hn
          ·rename_i e;rw[show r.1.length - 1=1 by omega];exact jd1 hn λh2=>⟨k2 0 om (by rw[hp om 0 om,h2]),k2 1 om (by rw[hp om 1 om,h2])⟩
          ·cases hn
theorem gt {vars:List VarT}{enums:List EnumT}(hv:YG vars){s:List Int}(hs:JH vars s=true):∀ (fm:Bool) (xs ys:List Ex) (ms:List MtT),Zn xs=true->qh vars enums fm xs=.ok (ys,ms)->∀ ns,qm s ys=some ns->KX s ys=ns/\∀ i,i<ms.length->(ms.getD i mt0).kind=2->zY (ns.getD i 0)
 |fm,[],ys,ms,hx,h,ns,hn=>by
  rw[qh] at h;cases h;simp only[qm] at hn;cases hn;exact⟨rfl,λi hi=>absurd hi (by simp)⟩
 |fm,x :: xs,ys,ms,hx,h,ns,hn=>by
  rw[Zn,Qaa] at hx;rw[qh] at h;split at h
  ·cases h
  ·rename_i y hy;split at h
   ·cases h
   ·rename_i r hr;cases h;rw[qm] at hn;cases h1:qe s y.1 with
    |none=>rw[h1] at hn;cases hn
    |some n=>
     rw[h1] at hn;cases h2:qm s r.1 with
     |none=>rw[h2] at hn;cases hn
     |some ns'=>
      rw[h2] at hn;cases hn;have A:=HV (vars:=vars) (enums:=enums) hv hs fm x y.1 y.2 hx.1 hy n h1;have B:=gt (vars:=vars) (enums:=enums) hv hs fm xs r.1 r.2 hx.2 hr ns' h2;refine⟨by rw[KX,A.1,B.1],λi hi hk=>?_⟩;cases i with
      |zero=>exact A.2 hk
      |succ i=>exact B.2 i (by simpa using hi) hk
end
mutual
def WS (n:Int):Ex->Bool
 |.mk op num _ ks _ _=>(!(decide (op=3) ||(decide (op=4) && (decide (num<0) ||decide (n<=num))))) && Y4 n ks
def Y4 (n:Int):List Ex->Bool
 |[]=>true
 |x :: xs=>WS n x && Y4 n xs
end
theorem kV (n:Int)(x:Ex):WS n x=((!(decide (x.op=3) ||(decide (x.op=4) && (decide (x.num<0) ||decide (n<=x.num))))) && Y4 n x.kids):=by cases x;rw[WS];rfl
end
section
theorem jnk {op a b:Int}(h1:14<=op)(h2:op<=30)(h3:¬ (23<=op/\op<=26)):∃ n,vv op a b=some n:=by
 have hop2:op=14\/op=15\/op=16\/op=17\/op=18\/op=19\/op=20\/op=21\/op=22\/op=27\/op=28\/op=29\/op=30:=om
 rcases hop2 with h|h|h|h|h|h|h|h|h|h|h|h|h<;>(subst h;exact⟨_,rfl⟩)
theorem jnQ {op:Int}{n:Nat}(h:zx op=(n:Int))(h0:n≠0)(h2:¬ 2<n)(ht:zn op=false):(n=1/\(op=5\/op=6))\/(n=2/\14<=op/\op<=30/\¬ (23<=op/\op<=26)):=by
 unfold zn at ht;simp at ht;unfold zx at h;repeat' split at h
 all_goals omega
mutual
theorem HW {vars:List VarT}{enums:List EnumT}{s:List Int}(hs:JH vars s=true):∀ (x y:Ex) (m:MtT),wkB x=true->yh vars enums false x=.ok (y,m)->∃ n,qe s y=some n
 |.mk op num name ks l c,y,m,hx,h=>by
  have hx0:=hx;rw[wkB] at hx0;simp only[Qaa,decide_eq_true_eq] at hx0;obtain⟨⟨hk,_⟩,hks⟩:=hx0;have nk:(op=1\/op=2\/op=3\/op=4)->ks=[]:=λho=>by
   unfold zx at hk;rw[if_pos om] at hk;exact QaN om
  rw[yh] at h;split at h
  ·rename_i h1;cases h;have e:=nk (.inl h1);subst e h1;exact⟨num,by simp[qe,qm,opV]⟩
  ·split at h
   ·rename_i h1;cases h;have e:=nk (.inr (.inl h1));subst e h1;exact⟨num,by simp[qe,qm,opV]⟩
   ·split at h
    ·rename_i h1;subst h1;unfold zt at h;split at h
     ·rename_i h2;cases h;have hlt:jV vars (Ex.mk 3 num name ks l c).name<(vars.length:Int):=Zb;obtain⟨r1,_⟩:=kQ hs;refine⟨s.getD (jV vars name).toNat 0,?_⟩;simp only[qe,qm,opV];have hlt3:jV vars (Ex.mk 3 num name ks l c).name<(s.length:Int):=by rw[r1];exact hlt
      rw[if_neg (by simp),if_pos ⟨by simp,by simp,h2,hlt3⟩];rfl
     ·split at h
      ·cases h
      ·cases h;exact⟨(yv enums (Ex.mk 3 num name ks l c).name).2,by simp[qe,qm,opV]⟩
    ·rename_i n1 n2 n3;split at h
     ·cases h
     ·rename_i r hr;have hr:qh vars enums false ks=.ok (r.1,r.2):=hr;obtain⟨ns,hns⟩:=gu hs ks r.1 r.2 hks hr;have kl:=Jp hr;have hl:=Wy hns;unfold YC at h;split at h
      ·cases h
      ·rename_i hbad;have hy:y=.mk op num name r.1 l c:=by
        split at h
        ·cases h;rfl
        ·split at h
         ·cases h
         ·cases h;rfl
       subst hy;have ht:zn op=false:=by
        cases ht:zn op with
        |false=>rfl
        |true=>exact absurd (.inr (.inr (.inl ⟨ht,rfl⟩))) hbad
       have hb0:r.2.length≠0:=λh=>hbad (.inl h);have hb2:¬ 2<r.2.length:=λh=>hbad (.inr (.inl h));clear h hbad;have K:=jnQ hk om om ht;rw[qe,hns];show ∃ n,opV s op num ns=some n;unfold opV;rw[if_neg om,if_neg om];rcases K with ⟨h1,h5|h5⟩|⟨h2,h3,h4,h5⟩
       ·exact⟨_,if_pos ⟨om,h5⟩⟩
       ·rw[if_neg om,if_pos ⟨om,h5⟩];exact⟨_,rfl⟩
       ·rw[if_neg om,if_neg om,if_pos om];exact jnk h3 h4 h5
theorem gu {vars:List VarT}{enums:List EnumT}{s:List Int}(hs:JH vars s=true):∀ (xs ys:List Ex) (ms:List MtT),Zn xs=true->qh vars enums false xs=.ok (ys,ms)->∃ ns,qm s ys=some ns
 |[],ys,ms,hx,h=>by rw[qh] at h;cases h;exact⟨[],rfl⟩
 |x :: xs,ys,ms,hx,h=>by
  rw[Zn,Qaa] at hx;rw[qh] at h;split at h
  ·cases h
  ·rename_i y hy;split at h
   ·cases h
   ·rename_i r hr;cases h;obtain⟨n,e1⟩:=HW hs x y.1 y.2 hx.1 hy;obtain⟨ns,e2⟩:=gu hs xs r.1 r.2 hx.2 hr;exact⟨n :: ns,by rw[qm,e1,e2]⟩
end
def OfK (vars:List VarT)(enums:List EnumT)(y:Ex):Prop:=∃ (x:Ex) (m:MtT),WkX x/\yh vars enums false x=.ok (y,m)
theorem jd0 {vars:List VarT}{enums:List EnumT}{x y:Ex}{w:Int}{en:List Nat}(hr:WkX x)(h:yE vars enums false x w en=.ok y):OfK vars enums y:=by
 unfold yE at h;split at h
 ·cases h
 ·rename_i r hk;split at h
  ·cases h
  ·cases h;exact⟨x,r.2,hr,hk⟩
theorem OfK.val {vars:List VarT}{enums:List EnumT}{y:Ex}(k:OfK vars enums y)(hv:YG vars){s:List Int}(hs:JH vars s=true){n:Int}(h:qe s y=some n):JR s y=n:=by
 obtain⟨x,m,hr,hk⟩:=k;exact(HV hv hs false x y m hr.1 hk n h).1
theorem OfK.som {vars:List VarT}{enums:List EnumT}{y:Ex}(k:OfK vars enums y){s:List Int}(hs:JH vars s=true):∃ n,qe s y=some n:=by
 obtain⟨x,m,hr,hk⟩:=k;exact HW hs x y m hr.1 hk
theorem OfK.sz {vars:List VarT}{enums:List EnumT}{y:Ex}(k:OfK vars enums y):szE y<=BIG:=by
 obtain⟨x,m,hr,hk⟩:=k;exact Qab (jcD false x y m hk) hr.2
structure MoveK (vars:List VarT)(enums:List EnumT)(m:MoveT):Prop where
 when:OfK vars enums m.when
 len:m.acts.length<=1000000
 acts:∀ a∈m.acts,0<=a.var/\a.var<(vars.length:Int)/\OfK vars enums a.to
 nd:(m.acts.map (·.var)).Nodup
theorem jbi {α:Type}{q:α->Bool}:∀ {xs:List α},0<=fi q xs->∃ h:(fi q xs).toNat<xs.length,q xs[(fi q xs).toNat]=true
 |[],h=>by simp[fi] at h
 |x :: xs,h=>by
  by_cases hq:q x=true
  ·have e:fi q (x :: xs)=0:=by rw[fi,if_pos hq]
   simp only[e];exact⟨by simp,by simpa using hq⟩
  ·by_cases h0:fi q xs<0
   ·rw[fi,if_neg hq,if_pos h0] at h;exact absurd h dc
   ·obtain⟨h1,h2⟩:=jbi (q:=q) (xs:=xs) om;have e:(fi q (x :: xs)).toNat=(fi q xs).toNat+1:=by rw[fi,if_neg hq,if_neg h0];omega
    simp only[e];exact⟨by simpa using h1,by simpa using h2⟩
theorem jm9 {vars:List VarT}{n n':List Nat}(h:0<=jV vars n)(e:jV vars n=jV vars n'):n=n':=by
 obtain⟨h1,h2⟩:=jbi h;obtain⟨h3,h4⟩:=jbi (e▸h);have e':(fi (λx:VarT=>decide (x.name=n)) vars).toNat=(fi (λx:VarT=>decide (x.name=n')) vars).toNat:=congrArg Int.toNat e;have h2:=of_decide_eq_true h2;have h4:=of_decide_eq_true h4;simp only[e'] at h2;rw[<-h2,h4]
theorem jhE {vars:List VarT}{enums:List EnumT}:∀ {l:List AsT} {acc:List SetT} {done:List AsT} {ss:List SetT},(∀ a∈l,WkX a.to)->QD vars enums acc done l=.ok ss->(∀ a∈acc,0<=a.var/\a.var<(vars.length:Int)/\OfK vars enums a.to)->acc.map (·.var)=done.map (λa=>jV vars a.name)->(acc.map (·.var)).Nodup->(∀ a∈ss,0<=a.var/\a.var<(vars.length:Int)/\OfK vars enums a.to)/\ss.length=acc.length+l.length/\(ss.map (·.var)).Nodup
 |[],acc,done,ss,hr,h,ha,hd,hn=>by rw[QD] at h;cases h;exact⟨ha,rfl,hn⟩
 |a :: l,acc,done,ss,hr,h,ha,hd,hn=>by
  rw[QD] at h;split at h
  ·cases h
  ·rename_i hv;split at h
   ·cases h
   ·rename_i n0;split at h
    ·cases h
    ·rename_i y hy;have N:=jd0 (hr a (by simp)) hy;have hlt:=(Zb:jV vars a.name<(vars.length:Int));have R:=jhE (λb hb=>hr b (by simp[hb])) h (λb hb=>by
      rcases Qaz.1 hb with hb|hb
      ·exact ha b hb
      ·simp at hb;rw[hb];exact⟨by dsimp only;omega,hlt,N⟩) (by rw[QaX,QaX,hd];rfl) (by
      rw[QaX,List.nodup_append];refine⟨hn,by simp,λu hu v hv2=>?_⟩;simp only[κ,μ,Qbm] at hv2;subst hv2;rw[hd] at hu;obtain⟨b,hb,e⟩:=QaI.1 hu;intro e2;have e3:jV vars b.name=jV vars a.name:=e.trans e2;have e4:=jm9 om e3;have:=jbh (λx:AsT=>decide (x.name=a.name)) done;rw[decide_eq_false n0] at this;have h5:=this.symm;rw[List.any_eq_false] at h5;exact h5 b hb (decide_eq_true e4))
     exact⟨R.1,by rw[R.2.1];simp;omega,R.2.2⟩
theorem jpY {m:ModT}{ts:List (List Nat)}{r:RuleT}{b:MT}(hq:WkR r)(h:XA m ts r=.ok b)(hm:∀ v∈m.moves,MoveK m.vars m.enums v):b.1.vars=m.vars/\b.1.enums=m.enums/\(∀ v∈b.1.moves,MoveK m.vars m.enums v)/\b.1.moves.length=m.moves.length+1:=by
 obtain⟨hw,hr,hn⟩:=hq;unfold XA at h;split at h
 ·cases h
 ·rename_i w hw';split at h
  ·cases h
  ·rename_i ss hs;cases h;refine⟨rfl,rfl,λv hv=>?_,by simp⟩;rcases Qaz.1 hv with hv|hv
   ·exact hm v hv
   ·simp only[Qbm] at hv;subst hv;have S:=jhE (acc:=[]) (done:=[]) hr hs (λa ha=>by cases ha) rfl (by simp);exact⟨jd0 hw hw',by dsimp only;rw[S.2.1];simp;omega,S.1,S.2.2⟩
theorem jea:∀ {l:List RuleT} {b c:MT},(∀ r∈l,WkR r)->yi (λb r=>XA b.1 b.2 r) b l=.ok c->(∀ v∈b.1.moves,MoveK b.1.vars b.1.enums v)->c.1.vars=b.1.vars/\c.1.enums=b.1.enums/\(∀ v∈c.1.moves,MoveK b.1.vars b.1.enums v)/\c.1.moves.length=b.1.moves.length+l.length
 |[],b,c,hr,h,hm=>by rw[yi] at h;cases h;exact⟨rfl,rfl,hm,rfl⟩
 |r :: l,b,c,hr,h,hm=>by
  rw[yi] at h;split at h
  ·cases h
  ·rename_i b' hb';obtain⟨e1,e2,e3,e4⟩:=jpY (hr r (by simp)) hb' hm;have:=jea (b:=b') (λq hq=>hr q (by simp[hq])) h (by rw[e1,e2];exact e3);rw[e1,e2,e4] at this;exact⟨this.1,this.2.1,this.2.2.1,by rw[this.2.2.2];simp;omega⟩
theorem jek:∀ {l:List ProcT} {b c:MT},(∀ p∈l,p.rules.length<=1000/\∀ r∈p.rules,WkR r)->yi Y2 b l=.ok c->(∀ v∈b.1.moves,MoveK b.1.vars b.1.enums v)->c.1.vars=b.1.vars/\c.1.enums=b.1.enums/\(∀ v∈c.1.moves,MoveK b.1.vars b.1.enums v)/\c.1.moves.length<=b.1.moves.length+1000 * l.length
 |[],b,c,hr,h,hm=>by rw[yi] at h;cases h;exact⟨rfl,rfl,hm,by simp⟩
 |p :: l,b,c,hr,h,hm=>by
  rw[yi] at h;split at h
  ·cases h
  ·rename_i b' hb';unfold Y2 at hb';split at hb'
   ·cases hb'
   ·rename_i ts' _;obtain⟨e1,e2,e3,e4⟩:=jea (b:=(b.1,ts')) (hr p (by simp)).2 hb' hm;have h1000:=(hr p (by simp)).1;have:=jek (b:=b') (λq hq=>hr q (by simp[hq])) h (by rw[e1,e2];exact e3);rw[e1,e2,e4] at this;exact⟨this.1,this.2.1,this.2.2.1,by have:=this.2.2.2;dsimp only at this;simp only[υ];omega⟩
end
section
def VB (v:VarT):Prop:=v.lo<=v.hi/\v.hi - v.lo<=1023
def YD (vars:List VarT):Nat:=vars.foldl (λn v=>n * (v.hi - v.lo+1).toNat) 1
structure SB (vars:List VarT):Prop where
 vb:∀ v∈vars,VB v
 cnt:vars.foldl stW 1=(YD vars:Int)
 le:YD vars<=281474976710656
theorem SB.nil:SB []:=⟨(λv h=>by cases h),rfl,dc⟩
theorem jbP {x:Int}(h1:0<=x)(h2:x<18446744073709551616):qO .u64 x=x:=by
 rw[JD];show x % 18446744073709551616=x;omega
theorem jnj (a b:Int)(h1:0<=a - b)(h2:a - b<18446744073709551616):qO .u64 (qO .u64 a - qO .u64 b)=a - b:=by
 rw[JD,JD,JD];show(a % 18446744073709551616 - b % 18446744073709551616) % 18446744073709551616=a - b;omega
theorem jpI {n:Nat}{v:VarT}(hn:n<=281474976710656)(h:VB v):stW (n:Int) v=((n * (v.hi - v.lo+1).toNat:Nat):Int):=by
 obtain⟨h1,h2⟩:=h;unfold stW;rw[jnj _ _ om om,jbP (x:=v.hi - v.lo+1) om om];obtain⟨r,hr⟩:∃ r:Nat,v.hi - v.lo+1=(r:Int):=⟨(v.hi - v.lo+1).toNat,om⟩;rw[hr];have h3:r<=1024:=om
 have h4:n * r<=281474976710656 * 1024:=Nat.mul_le_mul hn h3;rw[QbP,<-Int.natCast_mul,jbP om om]
theorem SB.snoc {vars:List VarT}{v:VarT}(h:SB vars)(hv:VB v)(hs:Jy (vars ++ [v])<=281474976710656):SB (vars ++ [v]):=by
 have e:(vars ++ [v]).foldl stW 1=(YD (vars ++ [v]):Int):=by
  rw[Qba,h.cnt,Qbr,List.foldl_nil,jpI h.le hv];unfold YD;rw[Qba];rfl
 refine⟨λu hu=>?_,e,?_⟩
 ·rcases Qaz.1 hu with hu|hu
  ·exact h.vb u hu
  ·simp at hu;rw[hu];exact hv
 ·unfold Jy at hs;rw[e] at hs;have h4:YD (vars ++ [v])<=281474976710656 * 1024:=by
   unfold YD;rw[Qba];exact Nat.mul_le_mul h.le (by have:=hv.1;have:=hv.2;omega)
  rw[Xq om om] at hs;omega
theorem SB.states {vars:List VarT}(h:SB vars):Jy vars=(YD vars:Int):=by
 unfold Jy;have:=h.le;rw[h.cnt,Xq om om]
theorem jq5 {m:ModT}{ts:List (List Nat)}{d:DeclT}{b:MT}(hd:d.begins.length<=1)(he:∀ e∈m.enums,0<e.vals.length/\e.vals.length<=32)(h:XR m ts d=.ok b):∃ v,b.1={ m with vars:=m.vars ++ [v] }/\(v.kind=2->v.lo=0/\v.hi=1)/\VB v/\Jy (m.vars ++ [v])<=281474976710656:=by
 unfold XR at h;split at h
 ·cases h
 ·split at h
  ·cases h
  ·rename_i v hk;have kv:(v.kind=2->v.lo=0/\v.hi=1)/\VB v:=by
    unfold uj at hk;split at hk
    ·cases hk;exact⟨λ_=>⟨rfl,rfl⟩,by unfold VB;dsimp only;omega⟩
    ·split at hk
     ·rename_i h0;cases hk;refine⟨λh=>by simp at h,?_⟩;have hx:0<(m.enums.getD (Js m.enums d.ty).toNat en0).vals.length/\(m.enums.getD (Js m.enums d.ty).toNat en0).vals.length<=32:=by
       obtain⟨h1,_⟩:=jbi h0;have:=he _ (Qad h1);unfold Js;rw[Qap,Qaj h1];exact this
      show(0:Int)<=((m.enums.getD (Js m.enums d.ty).toNat en0).vals.length:Int) - 1/\((m.enums.getD (Js m.enums d.ty).toNat en0).vals.length:Int) - 1 - 0<=1023;omega
     ·split at hk
      ·cases hk
      ·split at hk
       ·cases hk
       ·split at hk
        ·cases hk
        ·cases hk;exact⟨λh=>by simp at h,by unfold VB;dsimp only;omega⟩
   unfold wT at h;split at h
   ·cases h
   ·rename_i u hu;unfold kR at h;split at h
    ·cases h
    ·rename_i hst;cases h;refine⟨u,rfl,?_⟩;have hst:Jy (m.vars ++ [u])<=281474976710656:=om
     cases hb:d.begins with
     |nil=>rw[hb,Jt] at hu;cases hu;exact⟨kv.1,kv.2,hst⟩
     |cons x xs=>
      rw[hb] at hd;cases xs with
      |cons y ys=>simp at hd
      |nil=>
       rw[hb,Jt] at hu;split at hu
       ·cases hu
       ·split at hu
        ·cases hu
        ·split at hu
         ·cases hu
         ·rw[Jt] at hu;cases hu;exact⟨kv.1,kv.2,hst⟩
theorem jeP:∀ {l:List DeclT} {b c:MT},(∀ d∈l,d.begins.length<=1)->(∀ e∈b.1.enums,0<e.vals.length/\e.vals.length<=32)->yi (λb e=>XR b.1 b.2 e) b l=.ok c->YG b.1.vars->SB b.1.vars->YG c.1.vars/\c.1.moves=b.1.moves/\SB c.1.vars
 |[],b,c,hd,he,h,hv,hs=>by rw[yi] at h;cases h;exact⟨hv,rfl,hs⟩
 |d :: l,b,c,hd,he,h,hv,hs=>by
  rw[yi] at h;split at h
  ·cases h
  ·rename_i b' hb';obtain⟨v,e,hk,h1,h2⟩:=jq5 (hd d (by simp)) he hb';have:=jeP (b:=b') (λd hd'=>hd d (by simp[hd'])) (by rw[e];exact he) h (by
    rw[e];intro u hu;rcases Qaz.1 hu with hu|hu
    ·exact hv u hu
    ·simp at hu;rw[hu];exact hk) (by rw[e];exact hs.snoc h1 h2)
   exact⟨this.1,by rw[this.2.1,e],this.2.2⟩
theorem jeL:∀ {l:List EnumT} {b c:MT},(∀ e∈l,0<e.vals.length/\e.vals.length<=32)->(∀ e∈b.1.enums,0<e.vals.length/\e.vals.length<=32)->yi (λb e=>wO b.1 b.2 e) b l=.ok c->c.1.vars=b.1.vars/\c.1.moves=b.1.moves/\∀ e∈c.1.enums,0<e.vals.length/\e.vals.length<=32
 |[],b,c,hl,he,h=>by rw[yi] at h;cases h;exact⟨rfl,rfl,he⟩
 |e :: l,b,c,hl,he,h=>by
  rw[yi] at h;split at h
  ·cases h
  ·rename_i b' hb';have e1:=Vc hb';have:=jeL (b:=b') (λx hx=>hl x (by simp[hx])) (by
    rw[e1];intro x hx;rcases Qaz.1 hx with hx|hx
    ·exact he x hx
    ·simp at hx;rw[hx];exact hl e (by simp)) h
   rw[e1] at this;exact this
structure ModK (m:ModT):Prop where
 vars:YG m.vars
 moves:∀ v∈m.moves,MoveK m.vars m.enums v
 len:m.moves.length<=100000
 sb:SB m.vars
theorem jnH {s:SrcT}{c:MT}(hb:∀ d∈s.vars,d.begins.length<=1)(hr:∀ p∈s.procs,p.rules.length<=1000/\∀ r∈p.rules,WkR r)(hp:s.procs.length<=100)(he:∀ e∈s.enums,0<e.vals.length/\e.vals.length<=32)(h:Ja s=.ok c):ModK c.1:=by
 unfold Ja at h;split at h
 ·cases h
 ·rename_i b h1;obtain⟨E2,E3,E4⟩:=jeL he (λe h=>by cases h) h1;split at h
  ·cases h
  ·rename_i b2 h2;have v0:b.1.vars=[]:=E2;have m0:b.1.moves=[]:=E3;obtain⟨d1,d2,d3⟩:=jeP hb E4 h2 (by rw[v0];intro v hv;cases hv) (by rw[v0];exact SB.nil);have m2:b2.1.moves=[]:=by rw[d2,m0]
   obtain⟨f1,f2,f3,f4⟩:=jek (b:=b2) hr h (by rw[m2];intro v hv;cases hv);rw[m2] at f4;exact⟨by rw[f1];exact d1,by rw[f1,f2];exact f3,by simp only[χ] at f4;omega,by rw[f1];exact d3⟩
end
theorem jnt {l f:List Nat}(h:(zV l f).c=0):ModK (zV l f).m:=by
 unfold zV at h ⊢;by_cases h1:(yK l).2.1≠0
 ·rw[if_pos h1] at h;exact absurd (show((yK l).2.1:Int)=0 from h) om
 ·rw[if_neg h1] at h ⊢;obtain⟨O,hp⟩:=jno (l:=l) (by simpa using h1);cases hm:Ja (yK l).1 with
  |er a b c=>
   rw[hm] at h;exact absurd h (WT hm)
  |ok m=>
   rw[hm] at h;dsimp only at h ⊢;by_cases h2:(yx f).2.1≠0
   ·rw[if_pos h2] at h;exact absurd (show((yx f).2.1:Int)=0 from h) om
   ·rw[if_neg h2] at h ⊢;cases hr:yE m.1.vars m.1.enums true (yx f).1 2 [] with
    |er a b c=>
     rw[hr] at h;exact absurd h (Xx hr)
    |ok y=>exact jnH (λd hd=>(O.begs d hd).2) O.rules om O.ens hm
def XI (src:SrcT):ModT×Bool:=match Qh src with
 |none=>(md0,false)
 |some t=>if 5000<t.length then(md0,false) else((zV t [116,114,117,101]).m,decide ((zV t [116,114,117,101]).c=0/\(zV t [116,114,117,101]).l=0/\(zV t [116,114,117,101]).k=0) && decide (Jy (zV t [116,114,117,101]).m.vars<=300))
theorem jb6 {src:SrcT}(h:(XI src).2=true):ModK (XI src).1/\VarsOK (XI src).1.vars (XI src).1.enums:=by
 unfold XI at h ⊢;cases hs:Qh src with
 |none=>rw[hs] at h;cases h
 |some t=>
  rw[hs] at h;dsimp only at h ⊢;split at h
  ·cases h
  ·rename_i h5;rw[if_neg h5];simp only[Qaa,decide_eq_true_eq] at h;exact⟨jnt h.1.1,(jb7 h.1.1).1⟩
theorem jhM {src:SrcT}(h:(XI src).2=true):YD (XI src).1.vars<=300:=by
 have hS:=(jb6 h).1.sb.states;unfold XI at h hS ⊢;cases hs:Qh src with
 |none=>rw[hs] at h;cases h
 |some t=>
  rw[hs] at h hS;dsimp only at h hS ⊢;split at h
  ·cases h
  ·rename_i h5;rw[if_neg h5] at hS ⊢;simp only[Qaa,decide_eq_true_eq] at h;have:=h.2;dsimp only at hS ⊢;omega
def jbr:XC:=(Oe [I0 2] [oy 3 0] 3 [OZ 2 1] (o4 [I0 2]))
def jkn:XF:=⟨[0],jbr,[(.t 2)]⟩
theorem jpf:jC γ 61=some jkn:=by kernel_rfl
def jjw:XC:=(OU (TG (I0 6) 7) (T7 [oy 8 0] 0 (Te 10 8 14 9 10 9 [OY 11,oz 12 2,IW 13 .mul 11 12,oy 6 13,Ta 7] (Te 15 8 15 14 15 14 [OY 16,oz 17 2,IW 18 .add 16 17,oy 6 18,Ta 7] (Te 20 8 16 19 20 19 [OY 21,oz 22 2,IW 23 .sub 21 22,oy 6 23,Ta 7] (.seq (Tt 25 8 17 24 25 24 (.ops (IV 26 8 30 24 26))) (Ti 24 [OY 27,oz 28 2,IW 29 .eql 27 28,Ox 30 61 29,oy 6 30,Ta 7] (Te 32 8 18 31 32 31 [OY 33,oz 34 2,IW 35 .neq 33 34,Ox 36 61 35,oy 6 36,Ta 7] (Te 38 8 19 37 38 37 [OY 39,oz 40 2,IW 41 .lss 39 40,Ox 42 61 41,oy 6 42,Ta 7] (.seq (Tt 44 8 20 43 44 43 (.ops (IV 45 8 29 43 45))) (Ti 43 [OY 46,oz 47 2,IW 48 .leq 46 47,Ox 49 61 48,oy 6 49,Ta 7] (Te 51 8 21 50 51 50 [OY 52,oz 53 2,IW 54 .gtr 52 53,Ox 55 61 54,oy 6 55,Ta 7] (Te 57 8 22 56 57 56 [OY 58,oz 59 2,IW 60 .geq 58 59,Ox 61 61 60,oy 6 61,Ta 7] (Te 63 8 27 62 63 62 [OY 64,oz 65 2,ol 66 (.bi .min #[2,2] [64,65]),oy 6 66,Ta 7] (Iy (IV 68 8 28 67 68) 67 [OY 69,oz 70 2,ol 71 (.bi .max #[2,2] [69,70]),oy 6 71,Ta 7])))))))))))))) (TG (I0 6) 7))
def jon:XF:=⟨[0,1,2],jjw,[(.t 6),(.t 7)]⟩
theorem jsB:jC γ 42=some jon:=by kernel_rfl
def jjD:XC:=(ov [TT 2,I0 4,Ol 5] (oX [O5 6] (T6 [Tl 11 2,Oh 12 11,IP 13 12,I0 14] 0 15 14 13 15 0 1 [Ik 16 6 12 14,O9 17 16,Tz 8,TV 8 17] (Oe [O9 19 8,OY 20,OA 21 16 19 20,oz 18 21,Tw 22 18,Tx 23 18,oy 9 22,oy 10 23] [oz 24 10,OV 25 24] 25 (TG (I0 4) 5) (.ops [TY 26,oz 27 9,TI 28 1 oB [((0,1),27)],Oq 29 1 8 26 28,oy 6 29])) 30 14 14 30) (Il 2 (oK [TY 32,I4 33 32,ol 34 (TJ 33),oz 35 34,Oy 36 35 0 2,Ow 37 35 36,Td 38 35 .eql 37 1,IZ 39 35 38,Oo 40 39 0 2,Ov 41 39 40,O6 42 39 .eql 41 2,Ig 43 35 (.pick 39 Ih 42),Tb 44 35 43,oy 31 44] 31 (o4 [Tv 45 2,oH 46 45,TK 46,Ta 5]) (oK [TY 48,I4 49 48,ol 50 (TJ 49),oz 51 50,Oy 52 51 0 2,Ow 53 51 52,Td 54 51 .eql 53 4,Tb 55 51 54,oz 56 55,Oy 57 56 1 2,Ow 58 56 57,Ig 59 56 (O7 .geq 58),Tb 60 56 59,oz 61 60,Oy 62 61 1 2,Ow 63 61 62,IZ 64 61 1,Ig 65 61 (.len 64),Ig 66 61 (.bin .lss 63 65),Tb 67 61 66,oy 47 67] 47 (o4 [OY 68,Tv 69 2,oH 70 69,Li 71 68 70,oH 72 71,TK 72,Ta 5]) (oK [TY 74,I4 75 74,Ib 76 .eql 75 1,oz 77 76,Oy 78 77 0 2,Ow 79 77 78,Td 80 77 .eql 79 5,Tb 81 77 80,oy 73 81] 73 (o4 [TY 82,Li 83 82 OM,oH 84 83,ol 85 (.un .neg 84),TK 85,Ta 5]) (oK [TY 87,I4 88 87,Ib 89 .eql 88 1,oz 90 89,Oy 91 90 0 2,Ow 92 90 91,Td 93 90 .eql 92 6,Tb 94 90 93,oy 86 94] 86 (o4 [TY 95,Li 96 95 OM,oH 97 96,IW 98 .sub Tg 97,TK 98,Ta 5]) (Ic [TY 100,I4 101 100,Ib 102 .eql 101 2,oy 99 102] 99 (TN [IE (OO 103 2),OQ 104 103,TB 105 6,IE (Li 106 105 OM),OQ 107 106,TB 108 6,IE (Li 109 108 Tg),OQ 110 109,(Ip 111 42 [104,107,110],OJ),IE (Tw 112 111),IE (Tx 113 111),IE (TK 112),IE (oy 5 113)] .ret)))))) (o4 (TG (I0 4) 5)))))
def jou:XF:=⟨[0,1],jjD,[(.t 4),(.t 5)]⟩
theorem jsI:jC γ 16=some jou:=by kernel_rfl
def jjC:XC:=(ov [TT 2,Ol 4,Ol 5] (OK [O9 9 2,OY 10,OA 11 16 9 10,oz 8 11,Tw 12 8,Tx 13 8,oy 6 12,oy 7 13] [oz 14 7,oz 15 14,IZ 16 15 6,Td 17 15 .eql 16 1,Tb 18 15 17,oz 19 7,TK 18,oy 5 19]))
def jot:XF:=⟨[0,1],jjC,[(.t 4),(.t 5)]⟩
theorem jsH:jC γ 17=some jot:=by kernel_rfl
def jjF:XC:=(ov [TT 1,o8 2 [.nils,.nils,.nils],Ol 3] (Oe [TZ 10 1,Ox 11 35 10,oz 9 11,Tw 12 9,Tx 13 9,TK 12,oy 5 13] [Lb 14,ol 15 (O7 .neq 14),oz 16 15,IH 17 16 4,If 18 16 (.lenS 17),O6 19 16 .gtr 18 5000,Lc 20 16 19] 20 [Iv 21 [.nils,.nils,.nils] [],o5 3 2 21,Ol 3] (oX [TW 23,OA 24 34 23 (o7 [116,114,117,101]),oz 22 24,Tw 25 22,Tx 26 22,Ii 27 22 2,o8 6 [.nils,.nils,.nils],ol 7 (.alloc OI),o8 8 [oB,oB,oB],o5 3 6 25,TV 7 26,o5 3 8 27] (.dops [T8 28 3 6 6 35,T8 29 3 8 8 45,TF 30 [oB,oB,oB] [],IO (ol 31 (TO .eql 45 29 30)),Tq 32 31,IB (Ig 33 32 (.ldA 3 6)) 6 35 [],(Ix (Tm 34 (32,true) 36 [33]) 0 [(5,35)],OJ),IO (Td 35 32 .leq 34 300),IO (Tb 36 32 35),TU 3 2 28,IO (oy 3 36)]) .ret)))
def jov:XF:=⟨[0],jjF,[(.cA 2 3),(.t 3)]⟩
theorem jsK:jC γ 10=some jov:=by kernel_rfl
def svV (s:List Int):AV:=.lst s.length (s.map (.int .i64))
theorem jpH (s:List Int):pc (svV s)=true:=by
 have:(s.map (AV.int .i64)).all pc=true:=by simp[pc]
 simp[svV,pc,this]
theorem jrG (k:Int)(h : -9223372036854775808<=k)(h2:k<=9223372036854775807):wq k=k:=Xq h h2
section
variable {st:St} {K:AV->St->Prop}
theorem jfs (a b:Int):jk (Jk .add (.int .i64 a) (.int .i64 b) st) K=K (.int .i64 (wq (a+b))) st:=rfl
theorem jfr (a b:Int):jk (Jk .sub (.int .i64 a) (.int .i64 b) st) K=K (.int .i64 (wq (a - b))) st:=rfl
theorem jlN (a b:Int):jk (Jk .mul (.int .i64 a) (.int .i64 b) st) K=K (.int .i64 (wq (a * b))) st:=rfl
theorem jlM (a:Int):jk (unV .neg (.int .i64 a) st) K=K (.int .i64 (wq (-a))) st:=by
 have e:IntKind.i64.wrap (0 - a)=wq (-a):=by rw[<-JD,Int.zero_sub];rfl
 simp only[unV,Yh,O,e,jk]
end
theorem jsu (hb:NB base)(q:Bool):Tot base 61 [.bool q] (.int .i64 (if q=true then 1 else 0)):=by
 refine hb.tot ?_ rfl rfl;cases q with
 |true=>
  refine jF jpf (by rfl) (hb.pur 61 1 dc) ?_;simp only[jkn,ju,κ,μ,ν,ξ];rw[(by unfold jbr;simp only[qq];rfl:jbr=_)];repeat'(first|apply jc<;>intro _|simp(disch:=first|exact dzG|fail) only[r8,δ,ε,ζ,η,θ])
  exact G0.v rfl rfl
 |false=>
  refine jF jpf (by rfl) (hb.pur 61 1 dc) ?_;simp only[jkn,ju,κ,μ,ν,ξ];rw[(by unfold jbr;simp only[qq];rfl:jbr=_)];repeat'(first|apply jc<;>intro _|simp(disch:=first|exact dzG|fail) only[r8,δ,ε,ζ,η,θ])
  exact G0.v rfl rfl
def tpO (o:Option Int):AV:=.tup [.int .i64 (o.getD 0),.bool o.isSome]
theorem ZJ {s:St}{o:Option Int}{x:Int}{q:Bool}(h1:x=o.getD 0)(h2:q=o.isSome):G0 (tpO o) (.tup [.int .i64 x,.bool q]) s:=by
 subst h1 h2;exact FzD.tup (.cons (.pc rfl) (.cons (.pc rfl) .nil))
set_option maxHeartbeats 4000000 in
theorem jsa (hb:NB base)(op a b:Int):Tot base 42 [.int .i64 op,.int .i64 a,.int .i64 b] (tpO (vv op a b)):=by
 refine hb.tot ?_ rfl rfl;have B:=jsu hb;refine jF jsB (by rfl) (hb.pur 42 1 dc) ?_;simp only[jon,ju,κ,μ,ν,ξ];rw[(by unfold jjw;simp only[qq];rfl:jjw=_)];repeat'(first|apply jc<;>intro _|simp(disch:=first|exact dzG|fail) only[B,jfs,jfr,jlN,r8,δ,ε,ζ,η,θ])
 all_goals(refine ZJ ?_ ?_<;>simp[vv,Qr,Int.min_def,Int.max_def, *])
theorem WC {vars:List VarT}{s:List Int}:JH vars s=true↔s.length=vars.length/\∀ i (h1:i<vars.length) (h2:i<s.length),vars[i].lo<=s[i]/\s[i]<=vars[i].hi:=by
 unfold JH;rw[Qaa,decide_eq_true_eq,Qai];refine⟨λ⟨a,b⟩=>⟨a,λi h1 h2=>?_⟩,λ⟨a,b⟩=>⟨a,λi hi=>?_⟩⟩
 ·have:=b i (QbH.2 h1);rw[Qap,Qaj h1,Qap,Qaj h2] at this;simpa using this
 ·have h1:=QbH.1 hi;have:=b i h1 om;rw[Qap,Qaj h1,Qap,Qaj (show i<s.length by omega)];simpa using this
theorem jkE (sv:List Int)(x:Ex):qe sv x=match qm sv x.kids with|none=>none|some ns=>opV sv x.op x.num ns:=by cases x;rw[qe];rfl
theorem Wz {sv:List Int}:∀ {xs ys:List Ex} {ns:List Int},qm sv xs=some ns->qm sv (xs ++ ys)=match qm sv ys with|none=>none|some ms=>some (ns ++ ms)
 |[],ys,ns,h=>by
  rw[qm] at h;cases h;rw[Qam];cases qm sv ys<;>rfl
 |x :: xs,ys,ns,h=>by
  rw[qm] at h;rw[Qaf,qm];cases h1:qe sv x with
  |none=>rw[h1] at h;cases h
  |some n=>
   rw[h1] at h;cases h2:qm sv xs with
   |none=>rw[h2] at h;cases h
   |some ms=>
    rw[h2] at h;cases h;rw[Wz h2];cases qm sv ys<;>rfl
theorem jkD {sv:List Int}{xs:List Ex}{k:Nat}{ns:List Int}{n:Int}(hk:k<xs.length)(h:qm sv (xs.take k)=some ns)(h2:qe sv xs[k]=some n):qm sv (xs.take (k+1))=some (ns ++ [n]):=by
 rw[yw hk,Wz h];simp[qm,h2]
theorem Hh {sv:List Int}{xs:List Ex}{k:Nat}{ns:List Int}(hk:k<xs.length)(h:qm sv (xs.take k)=some ns)(h2:qe sv xs[k]=none):qm sv xs=none:=by
 have e:xs=xs.take k ++ (xs[k] :: xs.drop (k+1)):=by rw[<-Qcj hk,Qbg]
 rw[e,Wz h];simp[qm,h2]
set_option maxHeartbeats 8000000 in
theorem joc (hb:NB base)(sv:List Int)(hs:sv.length<=1099511627776):∀ x:Ex,szE x<=BIG->PX γ base 16 [.agg (eE x),svV sv] (.ok (tpO (qe sv x))):=by
 refine Ex.indk λx ih hx=>?_;have hd:=jkE sv x;have hz:=zZ x;generalize hks:x.kids=ks at *;have hlen:=Zr ks;unfold BIG at *;unfold svV at *;refine jF jsI (by rfl) (hb.pur 16 1 dc) ?_;simp only[jou,ju,κ,μ,ν,ξ];rw[(by unfold jjD;simp only[qq];rfl:jjD=_)];repeat'(first|apply jc<;>intro _|simp(disch:=first|exact dzG|fail) only[hks,r8,δ,ε,ζ,η,θ])
 refine qg ks.length (λk L s=>(∃ ns v,qm sv (ks.take k)=some ns/\ns.length=k/\Lv 1 s.nx s v k (ns.map (.int .i64)) 1/\Has L 6 v)/\1<=s.nx/\Cl s 0 (eE x)/\Has L 1 (.lst sv.length (sv.map (.int .i64)))/\Has L 2 (.ptr 0 0)/\Has L 12 (.lst ks.length (fl eE ks))) (by first|assumption|omega) dc (by simp(disch:=decide) only[jf,jb]) (by simp(disch:=decide) only[jf,jb]) ?_ (λk L s v h=>(by obtain⟨⟨ns,v,a1,a2,a3,a4⟩,a5,a6,a7,a8,a9⟩:=h;refine⟨⟨ns,v,a1,a2,a3,?_⟩,a5,a6,?_,?_,?_⟩<;>simp(disch:=decide) only[jb]<;>assumption)) (λk L s v h=>(by obtain⟨⟨ns,v,a1,a2,a3,a4⟩,a5,a6,a7,a8,a9⟩:=h;refine⟨⟨ns,v,a1,a2,a3,?_⟩,a5,a6,?_,?_,?_⟩<;>simp(disch:=decide) only[jb]<;>assumption)) (λk L s hk hI hi hn=>?_) (λL s hI=>?_)
 ·refine⟨⟨[],.nils,rfl,rfl,Lv.nil,?_⟩,by(first|omega|(simp only[jg,jh,jt,jm,jl];first|done|omega)),by(first|exact cyG|fail),?_,?_,?_⟩<;>simp(disch:=decide) only[jb,jf]
 ·obtain⟨⟨ns,v,h1,h2,V,i6⟩,n1,C0,i1,i2,i12⟩:=hI;have hk2:=Zs hk;have e:=hb.tot (ih ks[k] (Qad hk) om) (by simp[pa,pc,qS,XN]) rfl;cases hv:qe sv ks[k] with
  |none=>
   rw[hv] at e;have e:Tot base 16 [.agg (eE ks[k]),.lst sv.length (sv.map (.int .i64))] (.tup [.int .i64 0,.bool false]):=e
   (have zz:=C0.r;(repeat'(first|apply jc<;>intro _|simp(disch:=first|exact jT|fail) only[ja i1,ja i2,ja i6,ja i12,ja hi,ja hn,e,C0.q,C0.r,r8,δ,ε,ζ,η,θ]));all_goals clear zz)
   exact ZJ (by rw[hd,Hh hk h1 hv];rfl) (by rw[hd,Hh hk h1 hv];rfl)
  |some n=>
   rw[hv] at e;have e:Tot base 16 [.agg (eE ks[k]),.lst sv.length (sv.map (.int .i64))] (.tup [.int .i64 n,.bool true]):=e;obtain⟨m,hm⟩:∃ m,m=s.nx:=⟨_,rfl⟩;rw[<-hm] at V;have A:=λst bv xc xx K h hv=>@J2 1 m k 1 st v (ns.map (.int .i64)) K 8 bv xc xx h dc om om hv;have V2:∀ st m',Lv 1 m st v k (ns.map (.int .i64)) 1->1<=st.nx->m'=st.nx+1->Lv 1 m' (aps v st [.int .i64 n]) (apv 1 v st) (k+1) ((ns ++ [n]).map (.int .i64)) 1:=λst m' h h2 h3=>by
    rw[QaX];exact h.put rfl h2 h3
   (have zz:=aI V.ln (aI @jz (aI @jE (aI @V C0.r)));(repeat'(first|apply jc<;>intro _|simp(disch:=first|exact jT|fail) only[ja i1,ja i2,ja i6,ja i12,ja hi,ja hn,e,A,V.at,C0.q,V.ln,jz,jE,V,C0.r,r8,δ,ε,ζ,η,θ]));all_goals clear zz)
   refine⟨⟨⟨ns ++ [n],_,jkD hk h1 hv,by simp[h2],V2 _ _ ?_ ?_ ?_,?_⟩,?_,?_,?_,?_,?_⟩,?_,?_⟩;all_goals first
    |(simp(disch:=decide) only[jb,jf];done)
    |(simp(disch:=decide) only[jb];assumption)
    |(simp(disch:=first|decide|omega|(simp only[jg,jh];omega)) only[jH,jz,jE];exact V)
    |(simp(disch:=first|decide|omega|(simp only[jg,jh];omega)) only[V.cl,jB,jD];exact C0)
    |(simp only[jg,jh];done)
    |(simp only[jg,jh];omega)
    |omega
    |rfl
 ·obtain⟨⟨ns,v,h1,h2,V,i6⟩,n1,C0,i1,i2,i12⟩:=hI;rw[Qag] at h1;rw[h1] at hd;dsimp only at hd;unfold opV at hd;rcases V with ⟨rfl,h0,_⟩|⟨b,rfl,h0,_,C,hb1,hb2⟩
  ·have hn0:ns=[]:=List.length_eq_zero_iff.1 om;subst hn0;have z1:¬ ((0:Nat)=1):=dc
   by_cases g1:x.op=1\/x.op=2
   ·rw[if_pos ⟨rfl,g1⟩] at hd
    (have zz:=C0.r;(repeat'(first|apply jc<;>intro _|simp(disch:=first|exact jT|fail) only[ja i1,ja i2,ja i6,g1,C0.q,C0.r,r8,δ,ε,ζ,η,θ]));all_goals clear zz)
    all_goals first|exact ZJ (by rw[hd];rfl) (by rw[hd];rfl)|(exfalso;omega)
   ·rw[if_neg (λh=>g1 h.2)] at hd;by_cases g2:x.op=4/\0<=x.num/\x.num<(sv.length:Int)
    ·rw[if_pos ⟨rfl,g2⟩] at hd;obtain⟨g2,g3,g4⟩:=g2;have g5:x.num.toNat<sv.length:=om
     have eL:∀ (st:St) (K:AV->St->Prop),jk (q9 (.lptr (sv.map (AV.int .i64)) x.num.toNat) st) K=K (.int .i64 sv[x.num.toNat]) st:=λst K=>Vx g5
     (have zz:=C0.r;(repeat'(first|apply jc<;>intro _|simp(disch:=first|exact jT|fail) only[ja i1,ja i2,ja i6,g2,g3,g4,eL,C0.q,C0.r,r8,δ,ε,ζ,η,θ]));all_goals clear zz)
     all_goals first|exact ZJ (by rw[hd,Qap,Qaj g5];rfl) (by rw[hd];rfl)|(exfalso;omega)
    ·rw[if_neg (λh=>g2 h.2),if_neg (λh=>by simp at h),if_neg (λh=>by simp at h),if_neg (by simp)] at hd
     (have zz:=C0.r;(repeat'(first|apply jc<;>intro _|simp(disch:=first|exact jT|fail) only[ja i1,ja i2,ja i6,C0.q,C0.r,r8,δ,ε,ζ,η,θ]));all_goals clear zz)
     all_goals first|exact ZJ (by rw[hd];rfl) (by rw[hd];rfl)|(exfalso;omega)
  ·have z0:¬ (ks.length:Int)=0:=om
   rw[if_neg (λh=>by omega),if_neg (λh=>by omega)] at hd;by_cases k1:ks.length=1
   ·have k1':(ks.length:Int)=1:=om
    have k2':¬ (ks.length:Int)=2:=om
    have f0:rat s.h b 0=.int .i64 (ns.getD 0 0):=by
     rw[C.cell 0 (by simp;omega)];simp[Qac,show 0<ns.length by omega]
    by_cases g5:x.op=5
    ·rw[if_pos ⟨om,g5⟩] at hd
     (have zz:=aI C.len C0.r;(repeat'(first|apply jc<;>intro _|simp(disch:=first|exact jT|fail) only[ja i1,ja i2,ja i6,z0,k1',g5,f0,jlM,C0.q,C.len,C0.r,r8,δ,ε,ζ,η,θ]));all_goals clear zz)
     all_goals first|exact ZJ (by rw[hd];rfl) (by rw[hd];rfl)
    ·rw[if_neg (λh=>g5 h.2)] at hd;by_cases g6:x.op=6
     ·rw[if_pos ⟨om,g6⟩] at hd
      (have zz:=aI C.len C0.r;(repeat'(first|apply jc<;>intro _|simp(disch:=first|exact jT|fail) only[ja i1,ja i2,ja i6,z0,k1',g5,g6,f0,jfr,C0.q,C.len,C0.r,r8,δ,ε,ζ,η,θ]));all_goals clear zz)
      all_goals first|exact ZJ (by rw[hd];rfl) (by rw[hd];rfl)
     ·rw[if_neg (λh=>g6 h.2),if_neg om] at hd
      (have zz:=C0.r;(repeat'(first|apply jc<;>intro _|simp(disch:=first|exact jT|fail) only[ja i1,ja i2,ja i6,z0,k1',k2',g5,g6,C0.q,C0.r,r8,δ,ε,ζ,η,θ]));all_goals clear zz)
      all_goals first|exact ZJ (by rw[hd];rfl) (by rw[hd];rfl)
   ·have k1':¬ (ks.length:Int)=1:=om
    rw[if_neg (λh=>by omega),if_neg (λh=>by omega)] at hd;by_cases k2:ks.length=2
    ·have k2':(ks.length:Int)=2:=om
     rw[if_pos om] at hd;have f0:rat s.h b 0=.int .i64 (ns.getD 0 0):=by
      rw[C.cell 0 (by simp;omega)];simp[Qac,show 0<ns.length by omega]
     have f1:rat s.h b 1=.int .i64 (ns.getD 1 0):=by
      rw[C.cell 1 (by simp;omega)];simp[Qac,show 1<ns.length by omega]
     have E2:=jsa hb x.op (ns.getD 0 0) (ns.getD 1 0);unfold tpO at E2
     (have zz:=aI C.len C0.r;(repeat'(first|apply jc<;>intro _|simp(disch:=first|exact jT|fail) only[ja i1,ja i2,ja i6,z0,k1',k2',f0,f1,E2,C0.q,C.len,C0.r,r8,δ,ε,ζ,η,θ]));all_goals clear zz)
     all_goals first|exact ZJ (by rw[hd]) (by rw[hd])
    ·have k2':¬ (ks.length:Int)=2:=om
     rw[if_neg om] at hd
     (have zz:=C0.r;(repeat'(first|apply jc<;>intro _|simp(disch:=first|exact jT|fail) only[ja i1,ja i2,ja i6,z0,k1',k2',C0.q,C0.r,r8,δ,ε,ζ,η,θ]));all_goals clear zz)
     all_goals first|exact ZJ (by rw[hd];rfl) (by rw[hd];rfl)
theorem job (hb:NB base)(sv:List Int)(hs:sv.length<=1099511627776)(x:Ex)(hx:szE x<=BIG):Tot base 16 [.agg (eE x),svV sv] (tpO (qe sv x)):=hb.tot (joc hb sv hs x hx) (by unfold svV;simp[pa,pc,qS,XN]) rfl
theorem je6 (hb:NB base)(sv:List Int)(hs:sv.length<=1099511627776)(x:Ex)(hx:szE x<=BIG):PX γ base 17 [.agg (eE x),svV sv] (.ok (.tup [.bool (decide (qe sv x=some 1)),.bool (qe sv x).isSome])):=by
 have e:=job hb sv hs x hx;unfold tpO at e;unfold svV at *;refine jF jsH (by rfl) (hb.pur 17 1 dc) ?_;simp only[jot,ju,κ,μ,ν,ξ];rw[(by unfold jjC;simp only[qq];rfl:jjC=_)];cases hv:qe sv x with
 |none=>
  rw[hv] at e;repeat'(first|apply jc<;>intro _|simp(disch:=first|exact dzG|fail) only[e,r8,δ,ε,ζ,η,θ])
  exact FzD.tup (.cons (.pc rfl) (.cons (.pc rfl) .nil))
 |some n=>
  rw[hv] at e;have e:Tot base 16 [.agg (eE x),.lst sv.length (sv.map (.int .i64))] (.tup [.int .i64 n,.bool true]):=e;have e1:decide (some n=some 1)=decide (n=1):=by simp
  rw[e1];repeat'(first|apply jc<;>intro _|simp(disch:=first|exact dzG|fail) only[e,r8,δ,ε,ζ,η,θ])
  exact FzD.tup (.cons (.pc rfl) (.cons (.pc rfl) .nil))
theorem je5 (hb:NB base)(sv:List Int)(hs:sv.length<=1099511627776)(x:Ex)(hx:szE x<=BIG):Tot base 17 [.agg (eE x),svV sv] (.tup [.bool (decide (qe sv x=some 1)),.bool (qe sv x).isSome]):=hb.tot (je6 hb sv hs x hx) (by unfold svV;simp[pa,pc,qS,XN]) rfl
end Go.Sy
end
noncomputable section
namespace Go.Sy
open Go.Ev Go.RowKit
def Lw (lo hi:Nat)(s:St)(v:AV)(n:Nat)(cs:List AV)(z:Nat):Prop:=∃ b ex,v=.slice b 0 n n z ex/\(ex=true->n=0)/\cs.length=n * z/\Cl s b cs/\lo<=b/\b<hi
theorem Lw.new {s:St}{z lo hi:Nat}(h1:lo<=s.nx)(h2:s.nx<hi):Lw lo hi (nw s []) (.slice s.nx 0 0 0 z true) 0 [] z:=⟨s.nx,true,rfl,λ_=>rfl,by simp,Cl.new s [],h1,h2⟩
theorem Lw.fz {lo hi n z m d:Nat}{s:St}{v:AV}{cs:List AV}(h:Lw lo hi s v n cs z)(hm:m<=lo)(hp:cs.all pc=true):FzD m (d+2) s v (.lst n cs):=by
 obtain⟨b,ex,rfl,_,h3,h4,h5,h6⟩:=h;refine FzD.slice h4.rw_ (QaU h3.symm) om ?_;rw[<-h3,Qag];exact FzsD.pc hp
theorem Lw.nwO {lo hi n z:Nat}{s:St}{v:AV}{cs:List AV}(h:Lw lo hi s v n cs z)(ds:List AV):Lw lo hi (nw s ds) v n cs z:=by
 obtain⟨b,ex,h1,h2,h3,h4,h5,h6⟩:=h;exact⟨b,ex,h1,h2,h3,h4.nw ds,h5,h6⟩
structure ApL (lo:Nat)(s s':St):Prop where
 nx:s.nx<=s'.nx
 fr:s'.fr=s.fr
 cl:∀ c ds,c<lo->Cl s c ds->Cl s' c ds
theorem Lw.keep {lo hi lo2 n z:Nat}{s s':St}{v:AV}{cs:List AV}(h:Lw lo hi s v n cs z)(a:ApL lo2 s s')(hh:hi<=lo2):Lw lo hi s' v n cs z:=by
 obtain⟨b,ex,h1,h2,h3,h4,h5,h6⟩:=h;exact⟨b,ex,h1,h2,h3,a.cl b cs om h4,h5,h6⟩
theorem ApL.nwO (s:St)(ds:List AV):ApL s.nx s (nw s ds):=⟨by rw[jg];omega,by rw[W7],λc cs hc C=>C.nw ds⟩
theorem ApL.trans {lo lo2:Nat}{s t u:St}(a:ApL lo s t)(b:ApL lo2 t u)(h:lo<=lo2):ApL lo s u:=⟨Qab a.nx b.nx,b.fr.trans a.fr,λc ds hc C=>b.cl c ds om (a.cl c ds hc C)⟩
theorem jtF {lo hi n z n2 bytes:Nat}{s:St}{v:AV}{cs cs2:List AV}(h:Lw lo hi s v n cs z)(hhi:hi<=s.nx)(hl:cs2.length=n2 * z)(hz:0<z)(hby:(n+n2) * bytes<=140737488355328)(h63:n+n2<=9223372036854775807) :
  ∃ v' s',(∀ K:AV->St->Prop,jk (J8 z bytes v (.lst n2 cs2) s) K=K v' s')/\Lw lo s'.nx s' v' (n+n2) (cs ++ cs2) z/\ApL lo s s':=by
 obtain⟨b,ex,rfl,hex,h3,h4,h5,h6⟩:=h;obtain⟨m',zl',zz',ks',hg'⟩:=h4.row;have h4l:=h4.len;rw[yL hg'] at h4l;have e1:Qcp (Qcr n2 z) (jR cs2)=true:=qE (by rw[jO];exact QaU hl.symm);have e2:yq cs2 (Qcr n2 z)=cs2:=by rw[qY];exact(by rw[show Qcr n2 z=cs2.length from hl.symm,Qag])
 have e3:Qcn (jR cs2) (Qcr n2 z)=true:=Zh (by rw[jO];exact hl);by_cases h0:n2=0
 ·subst h0;have hc:cs2=[]:=List.length_eq_zero_iff.1 om;subst hc;refine⟨_,s,λK=>?_,⟨b,ex,rfl,by simpa using hex,by simpa using h3,by simpa using h4,h5,om⟩,⟨τ _,rfl,λ_ _ _ c=>c⟩⟩;have e4:Qcp (Qcq n 0) n=true:=qE (τ _);have e5:Qcn 0 0=true:=rfl;simp only[J8,zX,firstCells,e1,cond_true,e2,q7,e3,hg',ym,jG,e4,e5,jk];rfl
 ·have e4:Qcp (Qcq n n2) n=false:=jbm (by show n<n+n2;omega);have e5:Qcp (Qcr (Qcq n n2) bytes) 140737488355328=true:=qE hby;have e6:Qcp (Qcq n n2) 9223372036854775807=true:=qE h63;cases ex with
  |true=>
   have hn:=hex rfl;subst hn;have hc:cs=[]:=List.length_eq_zero_iff.1 om;subst hc;have e7:Qcp (Qcq 0 (Qcr 0 z)) m'=true:=qE (by show 0+0 * z<=m';omega);have e8:jQ zl' zz' ks' (Qcr 0 z) 0=[]:=by rw[qt,show Qcr 0 z=0 from QaQ z];rfl
   have e9:yR [] cs2=cs2:=by rw[yC];rfl
   refine⟨.slice s.nx 0 (0+n2) (0+n2) z false,nw s cs2,λK=>?_,⟨s.nx,false,rfl,(λh=>by cases h),by rw[Qam,hl,Qal],Cl.new s _,om,by rw[jg];omega⟩,⟨by rw[jg];omega,by rw[W7],λc ds hc C=>C.nw _⟩⟩;simp only[J8,zX,firstCells,e1,cond_true,e2,q7,e3,hg',ym,jG,e4,e5,e6,cond_false,e7,e8,e9,St.alloc_eq,jk];conv=>rhs;unfold nw
   rw[show Qcr (Qcq 0 n2) z=cs2.length by rw[hl];exact congrArg (· * z) (Qal n2)];rfl
  |false=>
   have e7:Qcn z z=true:=Zh rfl;have e8:Qcn 0 0=true:=rfl;have e9:Qcn (Qcr n z) m'=true:=Zh (by rw[h4l,h3];rfl);have e10:Qcr (Qcq n n2) z=m'+cs2.length:=by rw[hl,h4l,h3];exact QaK n n2 z
   have ea:ap s b cs2=⟨s.nx+1,(qc (jM s.nx)).run (.row (m'+cs2.length) zl' zz' (qw cs2 ks' m')) ((qc (jM b)).run .dead s.h),min s.dirty b,s.fr⟩:=by
    unfold ap apO;rw[hg']
   have hne:b≠s.nx:=om
   refine⟨.slice s.nx 0 (n+n2) (n+n2) z false,ap s b cs2,λK=>?_,⟨s.nx,false,rfl,(λh=>by cases h),by rw[φ,h3,hl,QaK],h4.ap cs2,om,by rw[ea];exact QbU _⟩,⟨by rw[ea];exact Nat.le_succ _,by rw[ea],λc ds hc C=>C.apO om⟩⟩;simp only[J8,zX,firstCells,e1,cond_true,e2,q7,e3,hg',ym,jG,e4,e5,e6,cond_false,e7,e8,e9,St.put_eq,St.alloc_eq,jk];rw[e10,ea];rfl
end Go.Sy
end
noncomputable section
set_option maxRecDepth 100000
namespace Go.Sy
open Go.Ev Go.Proofs
variable {base:Bs}
def OutV (lo:Nat)(s:St)(v:AV)(out:List Int):Prop:=(out=[]/\v=.lst 0 [])\/∃ b,v=.slice b 0 out.length out.length 1 false/\Cl s b (out.map (.int .i64))/\lo<=b/\0<out.length
theorem OutV.fz {lo m d:Nat}{s:St}{v:AV}{out:List Int}(h:OutV lo s v out)(hm:m<=lo):FzD m (d+2) s v (svV out):=by
 rcases h with ⟨rfl,rfl⟩|⟨b,rfl,C,hl,_⟩
 ·exact FzD.pa rfl
 ·refine FzD.slice C.rw_ (by simp) om ?_;rw[Qbd,<-Qar (f:=AV.int .i64),Qag];exact FzsD.pc (XN _)
theorem OutV.nwO {lo:Nat}{s:St}{v:AV}{out:List Int}(h:OutV lo s v out)(ds:List AV):OutV lo (Go.Sy.nw s ds) v out:=h.imp id λ⟨b,h1,h2,h3,h4⟩=>⟨b,h1,h2.nw ds,h3,h4⟩
theorem ApL.refl (lo:Nat)(s:St):ApL lo s s:=⟨τ _,rfl,λ_ _ _ c=>c⟩
theorem OutV.lend {lo:Nat}{s:St}{v:AV}{out:List Int}(h:OutV lo s v out):lend s.h v=some (svV out):=by
 rcases h with ⟨rfl,rfl⟩|⟨b,rfl,C,_,_⟩
 ·exact jet rfl
 ·exact jfV C (by simp) (XN _)
abbrev SvT:=List Int
def svE (s:SvT):List AV:=[svV s]
theorem KD (s:SvT):(svE s).length=1:=nr rfl
theorem jl9 (s:SvT)(k:Nat):(svE s).getD k .bad=([svV s]:List AV).getD k .bad:=nr rfl
theorem jmb (s:SvT)(k:Nat):(svE s).drop k=([svV s]:List AV).drop k:=nr rfl
theorem jmc (s:SvT):lall AV.cell (svE s)=true:=nr rfl
theorem jma {st:St}{K:AV->St->Prop}{xs:List SvT}{i:Nat}(h:i<xs.length):jk (zC 1 (.lptr (fl svE xs) (i * 1)) st) K=K (.agg (svE xs[i])) st:=Q4 KD h
theorem jhx {st:St}{K:AV->St->Prop}{xs:List SvT}{i:Nat}(h:i<xs.length){k:Nat}(hk:k<1):jk (q9 (.lptr (fl svE xs) (i * 1+k)) st) K=K ((svE xs[i]).getD k .bad) st:=yd KD h hk
theorem jbR {st:St}{K:AV->St->Prop}{xs:List SvT}{i:Nat}(h:i<xs.length):jk (q9 (.lptr (fl svE xs) (i * 1)) st) K=K ((svE xs[i]).getD 0 .bad) st:=yd (k:=0) KD h dc
theorem yT:type_of% (aI @KD (aI @jl9 (aI @jmb (aI @jmc (aI @jma (aI @jbR @jhx)))))):=aI @KD (aI @jl9 (aI @jmb (aI @jmc (aI @jma (aI @jbR @jhx)))))
theorem jlU {ls:List SvT}{k:Nat}{st:St}{K:AV->St->Prop}(h:k<ls.length):jk (q9 (.lptr (fl svE ls) k) st) K=K (svV ls[k]) st:=by
 have:=jbR (st:=st) (K:=K) h;rw[Qbd] at this;exact this
theorem jsf:Go.Ev.isAgg γ 35=some true:=by kernel_rfl
theorem jse:Go.Ev.sizeOf γ 35=some 3:=by kernel_rfl
theorem jsg {b:Nat}{m:ModT}{h:T AO}(ho:3<=qu h b)(hv:rats h b 0 3=mdE m):(jZ γ 35 (.ptr b 0) (.agg (mdE m)) h=true)=True:=eq_true (X4 jsf jse dc om hv rfl)
theorem jaQ {s:St}{m:ModT}{c:List AV}{q p:Bool}(h:FzsD 0 7 s c (mdE m))(h2:q=p):G0 (.tup [.agg (mdE m),.bool p]) (.tup [.agg c,.bool q]) s:=by
 subst h2;exact FzD.tup (.cons (.agg h) (.cons (.pc rfl) .nil))
theorem jif {s:St}:FzsD 0 7 s [.nils,.nils,.nils] (mdE md0):=.cons .nils (.cons .nils (.cons .nils .nil))
set_option maxHeartbeats 8000000 in
theorem jp6 (hb:NB base)(hP:PI base)(src:SrcT)(wr:WrS src):Tot base 10 [.agg (srE src)] (.tup [.agg (mdE (XI src).1),.bool (XI src).2]):=by
 refine hb.tot ?_ (by simp[pa,KG]) rfl;have E35:=jjq hb src wr;unfold jfv at E35;have hd:XI src=match Qh src with|none=>(md0,false)|some t=>if 5000<t.length then(md0,false) else((zV t [116,114,117,101]).m,decide ((zV t [116,114,117,101]).c=0/\(zV t [116,114,117,101]).l=0/\(zV t [116,114,117,101]).k=0) && decide (Jy (zV t [116,114,117,101]).m.vars<=300)):=rfl
 refine jF jsK (by rfl) (hb.pur 10 1 dc) ?_;simp only[jov,ju,κ,μ,ν,ξ];rw[(by unfold jjF;simp only[qq];rfl:jjF=_)];cases hs:Qh src with
 |none=>
  rw[hs] at E35 hd;have E35:Tot base 35 [.agg (srE src)] (.tup [.str [],.int .i64 141]):=E35;dsimp only at hd;rw[hd];repeat'(first|apply jc<;>intro _|simp(disch:=first|exact dzG|fail) only[E35,je,jj,ji,jd,jn,jo,jq,jr,jp,yT,rzZ,δ,ε,ζ,η,θ])
  all_goals exact jaQ jif rfl
 |some t=>
  rw[hs] at E35 hd;have E35:Tot base 35 [.agg (srE src)] (.tup [.str t,.int .i64 0]):=E35;dsimp only at hd;by_cases h5:5000<t.length
  ·have h5':(5000:Int)<(t.length:Int):=om
   rw[if_pos h5] at hd;rw[hd];repeat'(first|apply jc<;>intro _|simp(disch:=first|exact dzG|fail) only[E35,h5',je,jj,ji,jd,jn,jo,jq,jr,jp,yT,rzZ,δ,ε,ζ,η,θ])
   all_goals exact jaQ jif rfl
  ·have h5':¬ (5000:Int)<(t.length:Int):=om
   rw[if_neg h5] at hd;rw[hd];have E34:=jrx hb hP t [116,114,117,101] om dc;have ok:=λh=>jb7 (l:=t) (f:=[116,114,117,101]) h;unfold Kz at E34;generalize zV t [116,114,117,101]=r at E34 ok;obtain⟨m,x,c,l,k⟩:=r;dsimp only at E34 ok ⊢;have E34:Tot base 34 [.str t,.str [116,114,117,101]] (.tup [.agg (mdE m),.agg (eE x),.agg [.int .i64 c,.int .i64 l,.int .i64 k]]):=E34;by_cases hz:c=0/\l=0/\k=0
   ·have V:=(ok hz.1).1;have E36:=λst K Kp=>(jbT hb m.vars V.len m.enums.length m.moves.length (fl enE m.enums) (fl moE m.moves)).pa (by simp[pa,pc]) (λst=>hb.no 36 dc _ _) st K Kp;rw[decide_eq_true hz,Bool.true_and];have E36:∀ (st:St) (K Kp:AV->St->Prop),XB γ base 36 [.agg (mdE m)] st K Kp=K (.int .i64 (Jy m.vars)) st:=E36;have f2:(nw (nw st0 (srE src)) [AV.nils,AV.nils,AV.nils]).nx=2:=rfl;have CX:=((((((f2▸Cl.new (nw (nw st0 (srE src)) [AV.nils,AV.nils,AV.nils]) [AV.nils,AV.nils,AV.nils]:Cl (nw (nw (nw st0 (srE src)) [AV.nils,AV.nils,AV.nils]) [AV.nils,AV.nils,AV.nils]) 2 [AV.nils,AV.nils,AV.nils]).nw [AV.int .i64 0,AV.int .i64 0,AV.str [],AV.nils,AV.int .i64 0,AV.int .i64 0]).nw [AV.int .i64 0,AV.int .i64 0,AV.int .i64 0]).wr0 (c':=mdE m) rfl).wrO (c:=3) dc 0 (eE x)).wrO (c:=4) dc 0 [AV.int .i64 0,AV.int .i64 0,AV.int .i64 0]);have sm:=jsg (by rw[CX.len];exact τ 3) (CX.rats0 rfl);obtain⟨rfl,rfl,rfl⟩:=hz;repeat'(first|apply jc<;>intro _|simp(disch:=first|exact dzG|fail) only[E35,h5',E34,Yg,Yf,Ye,fEq,E36,sm,je,jj,ji,jd,jn,jo,jq,jr,jp,yT,rzZ,δ,ε,ζ,η,θ])
    all_goals exact jaQ (FzsD.pc (Q7 m)) rfl
   ·rw[decide_eq_false hz,Bool.false_and];repeat'(first|apply jc<;>intro _|simp(disch:=first|exact dzG|fail) only[E35,h5',E34,Yg,Yf,Ye,fEq,hz,je,jj,ji,jd,jn,jo,jq,jr,jp,yT,rzZ,δ,ε,ζ,η,θ])
    all_goals exact jaQ (FzsD.pc (Q7 m)) rfl
def jjA:XC:=(oX [TT 2,Tz 4,o8 5 [oB,oJ,oB,oB],Ol 6] (T6 [OO 13 2,Oh 14 13,IP 15 14,I0 16] 0 17 16 15 17 0 1 [oz 18 16,Ik 19 7 14 16,oU 20 7 19,o8 8 [oJ,oB,oJ,oB,oB,Tj,oB],oy 7 18,o5 7 8 20] (Ic [OO 21 8,oH 22 21,OY 23,ow 24 (.strb .eql 22 23)] 24 (Lh [Tq 25 7,TF 26 OI [((0,1),IR 4),((1,1),25)],IX 27 1 8,Ts 28 27 27 3,IX 29 2 8,Ts 30 29 29 9,IX 31 3 8,Ts 32 31 31 2,IX 33 4 8,Ts 34 33 33 2,TF 35 [oB,oJ,oB,oB] [((0,1),28),((1,1),30),((2,1),32),((3,1),34)],Ty 6 4 26 [(1,2),(3,2),(5,9),(7,3)],TU 4 5 35,IO (Ta 6)])) 36 16 16 36) (OW (T6 [Tv 37 2,Oh 38 37,IP 39 38,I0 40] 2 41 40 39 41 2 3 [Ik 42 4 38 40,oU 43 4 42,o8 10 [oJ,.nils,oB,oB],o5 4 10 43] (T6 [Tv 44 10,Oh 45 44,IP 46 45,I0 47] 4 48 47 46 48 4 5 [oz 49 47,Li 50 45 47,oH 51 50,oy 11 49,oy 12 51] (Ic [oz 52 12,OY 53,ow 54 (.strb .eql 52 53)] 54 (Lh [Tq 55 11,TF 56 OI [((0,1),Tg),((1,1),55)],IX 57 0 10,Ts 58 57 57 9,TF 59 [oB,oJ,oB,oB] [((0,1),IR 3),((1,1),58)],Ty 6 4 56 [(1,9)],TU 4 5 59,IO (Ta 6)])) 60 47 47 60) 61 40 40 61) [Iv 62 OI [],Iv 63 [oB,oJ,oB,oB] [],TV 4 62,o5 4 5 63,Ol 6]))
def jor:XF:=⟨[0,1],jjA,[(.cA 4 6),(.cA 5 4),(.t 6)]⟩
theorem jsF:jC γ 38=some jor:=by kernel_rfl
def jjz:XC:=(OK [o8 6 [oB,oB,oB]] [IY 7,OY 8,oz 9 2,Iv 10 [oB,oB,oB] [((0,1),7),((1,1),8),((2,1),9)],o5 3 6 10])
def joq:XF:=⟨[0,1,2],jjz,[(.cA 6 3)]⟩
theorem jsE:jC γ 39=some joq:=by kernel_rfl
def jjy:XC:=(OK (T0 1 2) [TZ 3 1,Iv 4 [oB,oB,oB] [],ol 5 (TO .eql 45 3 4),Tp 5])
def jop:XF:=⟨[0],jjy,[(.t 2)]⟩
theorem jsD:jC γ 40=some jop:=by kernel_rfl
def jjx:XC:=(ov [ID 4 1,ID 5 2,I0 6,I0 7] (oX (IK (TI 17 0 oB []) 8 17) (On [Ld 18 4,oH 19 18,Tl 20 4,oH 21 20,ow 22 (.build [oB,oB] [((0,1),19),((1,1),21)]),I0 23] 0 [O1 24 .lss 23 2] 24 0 1 (IK (ol 25 (.ixA1 2 1 22 23)) 10 25) (On [Ld 26 5,oH 27 26,Tl 28 5,oH 29 28,ow 30 (.build [oB,oB] [((0,1),27),((1,1),29)]),I0 31] 2 [O1 32 .lss 31 2] 32 2 3 (IK (ol 33 (.ixA1 2 1 30 31)) 12 33) (T7 [oy 34 0] 4 (Oi 42 34 5 41 42 41 (.ops [oz 43 8,oz 44 10,ol 45 (.un .neg 44),TI 46 1 oB [((0,1),45)],Oq 47 1 8 43 46,oy 8 47]) (Oi 49 34 15 48 49 48 (.ops [oz 50 8,oz 51 10,oz 52 12,IW 53 .add 51 52,TI 54 1 oB [((0,1),53)],Oq 55 1 8 50 54,oy 8 55]) (Oi 57 34 16 56 57 56 (.ops [oz 58 8,oz 59 10,oz 60 12,IW 61 .sub 59 60,TI 62 1 oB [((0,1),61)],Oq 63 1 8 58 62,oy 8 63]) (.ops [oz 35 8,oz 36 10,oz 37 12,IW 38 .mul 36 37,TI 39 1 oB [((0,1),38)],Oq 40 1 8 35 39,oy 8 40]))))) 64 31 1 31 64) 65 23 1 23 65) (TN [TB 66 8,IE (Li 67 66 OM),OQ 68 67,TB 69 8,IE (Li 70 69 OM),OQ 71 70,IE (oy 13 68),IE (oy 14 71)] (OW (T6 [oy 72 8,IP 73 72,I0 74] 5 75 74 73 75 5 6 [Li 76 72 74,oH 77 76,oy 16 77] (ov [oz 78 13,oz 79 16,ol 80 (.bi .min #[2,2] [78,79]),oy 13 80] (.ops [oz 81 14,oz 82 16,ol 83 (.bi .max #[2,2] [81,82]),oy 14 83])) 84 74 74 84) [oz 85 13,oz 86 14,oy 6 85,oy 7 86]))))
def joo:XF:=⟨[0,1,2],jjx,[(.t 6),(.t 7)]⟩
theorem jsC:jC γ 41=some joo:=by kernel_rfl
def Kj:XC:=(T9 [oz 205 22,OV 206 205] 206 [Iv 207 OI [],Iv 208 [oB,oJ,oB,oB] [],oE 209 4 4,oH 210 209,oE 211 5 4,oH 212 211,Ip 213 39 [IR 163,210,212],TV 6 207,o5 4 7 208,o5 3 8 213] (T9 [OO 214 23,oH 215 214,Ib 216 .eql 215 1,oz 217 216,Oy 218 217 2 23,Ow 219 217 218,Td 220 217 .lss 219 (-(99999999+1)),IZ 221 217 220,Oo 222 221 3 23,Ov 223 221 222,O6 224 221 .gtr 223 100000000,Ig 225 217 (.pick 221 Ih 224),I6 226 217 225 oW] 226 [Iv 227 OI [],Iv 228 [oB,oJ,oB,oB] [],oE 229 4 4,oH 230 229,oE 231 5 4,oH 232 231,Ip 233 39 [IR 165,230,232],TV 6 227,o5 4 7 228,o5 3 8 233] (Lh [T8 234 6 12 12 29,T8 235 4 23 23 42,TF 236 [oB,oB,oB] [],Ty 6 6 234 [(1,42)],TU 4 7 235,TU 3 8 236])))
def jaw:XC:=(.seq (T7 [OO 145 4,Oh 146 145] 2 (.seq (Tt 157 146 5 156 157 156 (Tt 158 146 14 156 158 156 (Tt 159 146 15 156 159 156 (.ops (IV 160 146 16 156 160))))) (.cond 156 (O8 [oz 161 21,oz 162 161,Oy 163 162 0 19,Ow 164 162 163,Td 165 162 .eql 164 1,Tb 166 162 165,oy 22 166] [OO 167 23,o5 1 167 Tg] (.ops [OO 169 4,oH 170 169,oU 171 4 19,oU 172 4 20,Ip 173 41 [170,171,172],oz 168 173,Tw 174 168,Tx 175 168,Ld 176 23,o5 1 176 174,Tl 177 23,o5 1 177 175])) (.seq (Tt 179 146 19 178 179 178 (Tt 180 146 20 178 180 178 (Tt 181 146 21 178 181 178 (.ops (IV 182 146 22 178 182))))) (.cond 178 (.ops [oz 183 21,oz 184 183,Oy 185 184 0 19,Ow 186 184 185,Td 187 184 .eql 186 1,Tb 188 184 187,oy 22 188]) (.seq (Tt 190 146 17 189 190 189 (.ops (IV 191 146 18 189 191))) (.cond 189 (.ops (Tf 192 21 22 192)) (.seq (Tt 194 146 6 193 194 193 (Tt 195 146 27 193 195 193 (Tt 196 146 28 193 196 193 (Tt 197 146 29 193 197 193 (.ops (IV 198 146 30 193 198)))))) (.cond 193 (.ops [oz 199 21,oz 200 199,Oy 201 200 0 19,Ow 202 200 201,Td 203 200 .eql 202 2,Tb 204 200 203,oy 22 204]) (.ops [oz 147 21,oz 148 147,Oy 149 148 0 19,Ow 150 148 149,Td 151 148 .eql 150 2,Tb 152 148 151,oz 153 152,IZ 154 153 2,Tb 155 153 154,oy 22 155])))))))))) Kj)
def jax:XC:=(ov [oz 123 13,Ik 124 4 123 OM,oU 125 4 124,o8 19 [oB,oJ,oB,oB],o5 4 19 125] (O8 [oz 126 13,oz 127 13,I4 128 127,Ib 129 .sub 128 1,Ik 130 4 126 129,oU 131 4 130,o8 20 [oB,oJ,oB,oB],o5 4 20 131] [OO 132 19,oH 133 132,OO 134 20,oH 135 134,IW 136 .eql 133 135,oz 137 136,Oy 138 137 1 19,Ow 139 137 138,Oy 140 137 1 20,Ow 141 137 140,Ig 142 137 (.strb .eql 139 141),Tb 143 137 142,oy 21 143] (O8 (Th 22) [Iv 144 [oB,oJ,oB,oB] [((0,1),IR 2)],o8 23 [oB,oJ,oB,oB],o5 4 23 144] jaw)))
def jay:XC:=(.seq (T6 [Tl 81 4,Oh 82 81,IP 83 82,I0 84] 0 85 84 83 85 0 1 [Ik 86 6 82 84,O9 87 86,Tz 15,TV 15 87] (oX [TZ 89 3,O9 90 15,oz 91 2,oz 92 91,Oy 93 92 0 4,Ow 94 92 93,Td 95 92 .neq 94 17,Tb 96 92 95,oz 97 96,Oy 98 97 0 4,Ow 99 97 98,Td 100 97 .neq 99 18,Tb 101 97 100,Ip 102 14 [89,90,101],oz 88 102,Tw 103 88,Tx 104 88,Ii 105 88 2,Tz 16,o8 17 [oB,oJ,oB,oB],o8 18 [oB,oB,oB],TV 16 103,o5 4 17 104,o5 3 18 105] (Ic [TZ 106 18,Ox 107 40 106,OV 108 107] 108 (Lh [TF 109 OI [],TF 110 [oB,oJ,oB,oB] [],T8 111 3 18 18 45,Ty 6 6 109 [(0,45)],Ty 4 7 110 [(1,45)],TU 3 8 111])) (ov [Tl 112 12,oH 113 112,O9 114 16,Is 115 1 6 OI [((0,6),114)],Oq 116 6 72 113 115,Tl 117 12,o5 1 117 116] (.ops [oz 118 13,oU 119 4 17,Is 120 1 4 [oB,oJ,oB,oB] [((0,4),119)],Oq 121 4 40 118 120,oy 13 121]))) 122 84 84 122) jax)
def jjE:XC:=(oX [TT 3,ID 4 1,Tz 6,o8 7 [oB,oJ,oB,oB],o8 8 [oB,oB,oB]] (Ic [OO 24 4,oH 25 24,O1 26 .eql 25 1] 26 (Lh [T8 27 6 4 4 29,IX 28 1 4,Ts 29 28 28 2,IX 30 1 4,Ts 31 30 30 2,TF 32 [oB,oJ,oB,oB] [((0,1),Tg),((2,1),29),((3,1),31)],TF 33 [oB,oB,oB] [],Ty 6 6 27 [(2,2),(4,2)],TU 4 7 32,TU 3 8 33])) (T9 [OO 34 4,oH 35 34,O1 36 .eql 35 2] 36 [O9 37 4,Iv 38 [oB,oJ,oB,oB] [((0,1),IR 2)],Iv 39 [oB,oB,oB] [],TV 6 37,o5 4 7 38,o5 3 8 39] (.seq (Ic [OO 40 4,oH 41 40,O1 42 .eql 41 3] 42 (Oe [TZ 44 3,Ld 45 4,oH 46 45,OA 47 38 44 46,oz 43 47,Tw 48 43,Tx 49 43,Ii 50 43 2,Tz 9,o8 10 [oB,oJ,oB,oB],TV 9 48,o5 4 10 49,oy 11 50] [oz 51 11,OV 52 51] 52 [Iv 53 OI [],Iv 54 [oB,oJ,oB,oB] [],oE 55 4 4,oH 56 55,oE 57 5 4,oH 58 57,Ip 59 39 [IR 161,56,58],TV 6 53,o5 4 7 54,o5 3 8 59] (ov [oE 60 4 4,oH 61 60,oE 62 4 9,o5 1 62 61] (oX [oE 63 5 4,oH 64 63,oE 65 5 9,o5 1 65 64] (.dops [T8 66 6 9 9 29,T8 67 4 10 10 42,TF 68 [oB,oB,oB] [],Ty 6 6 66 [(1,42)],TU 4 7 67,TU 3 8 68]) .ret)))) (O8 [OO 69 4,oH 70 69,Tv 71 4,oH 72 71,Ld 73 4,oH 74 73,oE 75 4 4,oH 76 75,oE 77 5 4,oH 78 77,Iv 79 OI [((0,1),70),((1,1),72),((2,1),74),((4,1),76),((5,1),78)],Tz 12,TV 12 79] (IK (Is 80 0 4 [oB,oJ,oB,oB] []) 13 80) jay))))
def jbz:XF:=⟨[0,1,2],jjE,[(.cA 6 6),(.cA 7 4),(.cA 8 3)]⟩
theorem jsJ:jC γ 14=some jbz:=by kernel_rfl
def jjB:XC:=(ov [TT 1,O5 2] (OU [TI 10 0 oB [],Ll 11 1 [((0,1),10)],oy 3 11] (T6 [OO 12 1,Oh 13 12,IP 14 13,I0 15] 0 16 15 14 16 0 1 [Ik 17 7 13 15,oU 18 7 17,o8 5 [oJ,oB,oJ,oB,oB,Tj,oB],o5 7 5 18] (oX (IK (Ll 19 0 []) 6 19) (T6 [oy 20 3,IP 21 20,I0 22] 2 23 22 21 23 2 3 [Li 24 20 22,oH 25 24,oy 8 25] (IU [Tl 26 5,oH 27 26,oy 9 27] 4 (.seq (O4 [oz 28 9,oE 29 4 5,oH 30 29,Iw 31 .leq 28 30] 31 (.exit 4)) (Iz 5 (.ops [TY 34,TI 35 0 oB [],oz 36 8,Oq 37 1 8 35 36,oz 38 9,TI 39 1 oB [((0,1),38)],Oq 40 1 8 37 39,Ll 41 1 [((0,1),40)],Oq 42 1 24 34 41,oy 6 42]) [oz 32 9,TA 33 32 1,oy 9 33]))) 43 22 22 43) (.ops (Tf 44 6 3 44))) 45 15 15 45) (Tf 46 3 2 46)))
def jos:XF:=⟨[0],jjB,[(.t 2)]⟩
theorem jsG:jC γ 19=some jos:=by kernel_rfl
def zs5:XC:=(Oe [TT 3,ID 4 1,ID 5 2,Ol 6] [Ip 27 9 [],OV 28 27] 28 (Th 6) (Oe [TZ 30 3,Ox 31 10 30,oz 29 31,Tw 32 29,Tx 33 29,o8 7 [.nils,.nils,.nils],o5 3 7 32,oy 8 33] [oz 34 8,TM 35 34,oz 36 35,O0 37 36 6 4,Lg 38 36 11 [37],TS 39 36 38,Tc 40 36 39,oz 41 40,O0 42 41 6 5,Lg 43 41 11 [42],TS 44 41 43,Tc 45 41 44,oz 46 45,O0 47 46 6 4,Lg 48 46 12 [47],O6 49 46 .gtr 48 12,Tc 50 46 49,oz 51 50,O0 52 51 6 5,Lg 53 51 12 [52],O6 54 51 .gtr 53 12,Lc 55 51 54] 55 [Ta 6] (ov [TZ 57 7,O9 58 4,Ip 59 14 [57,58,oW],oz 56 59,Tw 60 56,Tx 61 56,Ii 62 56 2,Tz 9,o8 10 [oB,oJ,oB,oB],o8 11 [oB,oB,oB],TV 9 60,o5 4 10 61,o5 3 11 62] (Oe [TZ 64 7,O9 65 5,Ip 66 14 [64,65,oW],oz 63 66,Tw 67 63,Tx 68 63,Ii 69 63 2,Tz 12,o8 13 [oB,oJ,oB,oB],o8 14 [oB,oB,oB],TV 12 67,o5 4 13 68,o5 3 14 69] [TZ 70 11,Iv 71 [oB,oB,oB] [],ol 72 (TO .neq 45 70 71),oz 73 72,O0 74 73 3 14,If 75 73 (.build [oB,oB,oB] []),If 76 73 (TO .neq 45 74 75),Tc 77 73 76,oz 78 77,Oo 79 78 0 10,Ov 80 78 79,O6 81 78 .neq 80 2,Tc 82 78 81,oz 83 82,Oo 84 83 0 13,Ov 85 83 84,O6 86 83 .neq 85 2,Lc 87 83 86] 87 [Ta 6] (OW (Ob [TZ 88 7,T4 89 (oQ 19 []) [88],IP 90 89,I0 91] 0 (Tn 92 91 90) 92 0 1 (oX [oz 93 91,Li 94 89 91,oH 95 94,oy 15 93,oy 16 95] (Ic [oz 96 15,O1 97 .gtr 96 40] 97 (.exit 0)) (ov [O9 99 9,oz 100 16,OA 101 17 99 100,oz 98 101,Tw 102 98,Tx 103 98,oy 17 102,oy 18 103] (O8 [O9 105 12,oz 106 16,OA 107 17 105 106,oz 104 107,Tw 108 104,Tx 109 104,oy 19 108,oy 20 109] [O9 111 9,Is 112 1 6 OI [((0,6),111)],Iv 113 OI [((0,1),IR 6),((3,1),112)],oz 114 16,OA 115 17 113 114,oz 110 115,Tw 116 110,Tx 117 110,oy 21 116,oy 22 117] (O8 [O9 119 9,O9 120 12,Is 121 2 6 OI [((0,6),119),((6,6),120)],Iv 122 OI [((0,1),IR 27),((3,1),121)],oz 123 16,OA 124 17 122 123,oz 118 124,Tw 125 118,Tx 126 118,oy 23 125,oy 24 126] [O9 128 9,O9 129 12,Is 130 2 6 OI [((0,6),128),((6,6),129)],Iv 131 OI [((0,1),IR 29),((3,1),130)],oz 132 16,OA 133 17 131 132,oz 127 133,Tw 134 127,Tx 135 127,oy 25 134,oy 26 135] (Iy [oz 136 18,TM 137 136,oz 138 137,IH 139 138 20,TS 140 138 139,Tc 141 138 140,oz 142 141,IH 143 142 22,TS 144 142 143,Tc 145 142 144,oz 146 145,IH 147 146 24,TS 148 146 147,Tc 149 146 148,oz 150 149,IH 151 150 26,TS 152 150 151,Tc 153 150 152,oz 154 153,IH 155 154 17,IH 156 154 21,If 157 154 (TO .eql 4 155 156),Tc 158 154 157,oz 159 158,IH 160 159 23,IH 161 159 17,IH 162 159 161,IZ 163 162 19,Lk 164 159 162 163 oW,If 165 159 (TO .neq 4 160 164),Tc 166 159 165,oz 167 166,IH 168 167 25,IH 169 167 17,TS 170 167 169,IH 171 167 170,IH 172 171 19,Lk 173 167 171 Ih 172,If 174 167 (TO .neq 4 168 173),Lc 175 167 174] 175 (Th 6)))))) 176 91 1 91 176) [Ta 6])))))
def ys5:XF:=⟨[0,1,2],zs5,[(.t 6)]⟩
theorem xs5:jC γ 5=some ys5:=by kernel_rfl
theorem jeI (hb:NB base)(c l k:Int):Tot base 39 [.int .i64 c,.int .i64 l,.int .i64 k] (.agg [.int .i64 c,.int .i64 l,.int .i64 k]):=by
 refine hb.tot ?_ rfl rfl;refine jF jsE (by rfl) (hb.pur 39 1 dc) ?_;simp only[joq,ju,κ,μ,ν,ξ];rw[(by unfold jjz;simp only[qq];rfl:jjz=_)];repeat'(first|apply jc<;>intro _|simp(disch:=first|exact dzG|fail) only[r8,δ,ε,ζ,η,θ])
 exact FzD.agg (.pc rfl)
theorem jh6 (hb:NB base)(c l k:Int):Tot base 40 [.agg [.int .i64 c,.int .i64 l,.int .i64 k]] (.bool (decide (c=0/\l=0/\k=0))):=by
 refine hb.tot ?_ rfl rfl;refine jF jsD (by rfl) (hb.pur 40 1 dc) ?_;simp only[jop,ju,κ,μ,ν,ξ];rw[(by unfold jjy;simp only[qq];rfl:jjy=_)];repeat'(first|apply jc<;>intro _|simp(disch:=first|exact dzG|fail) only[fEq,r8,δ,ε,ζ,η,θ])
 exact G0.v rfl rfl
def Y1 (vars:List VarT)(enums:List EnumT)(s:List Nat):Ex×MtT×Bool:=
 if 0<=jV vars s then
  (let v:=vars.getD (jV vars s).toNat ⟨[],0,[],0,0,false,0⟩
   (.mk 4 (jV vars s) [] [] 0 0,⟨v.kind,v.enum,v.lo,v.hi⟩,true))
 else if(yv enums s).2<0 then(.mk 0 0 [] [] 0 0,mt0,false)
 else(.mk 1 (yv enums s).2 [] [] 0 0,⟨3,(yv enums s).1,0,0⟩,true)
def rnV (r:Ex×MtT×Bool):AV:=.tup [.agg (eE r.1),.agg (mtE r.2.1),.bool r.2.2]
theorem rnG {s:St}{u:AV}{r:Ex×MtT×Bool}{op num:Int}{nm:List Nat}{kd:Int}{en:List Nat}{lo hi:Int}{q:Bool}{ks:AV}(hk:ks=.nils\/ks=.lst 0 [])(hu:u=.tup [.agg [.int .i64 op,.int .i64 num,.str nm,ks,.int .i64 0,.int .i64 0],.agg [.int .i64 kd,.str en,.int .i64 lo,.int .i64 hi],.bool q])(h:r=(.mk op num nm [] 0 0,⟨kd,en,lo,hi⟩,q)):G0 (rnV r) u s:=by
 subst hu h;have e:FzD 0 7 s ks (.lst 0 []):=by
  rcases hk with rfl|rfl
  ·exact FzD.nils
  ·exact FzD.pa rfl
 exact FzD.tup (.cons (FzD.agg (.cons (.pc rfl) (.cons (.pc rfl) (.cons (.pc rfl) (.cons e (.cons (.pc rfl) (.cons (.pc rfl) .nil))))))) (.cons (FzD.agg (.pc rfl)) (.cons (.pc rfl) .nil)))
set_option maxHeartbeats 8000000 in
theorem jqh (hb:NB base)(m:ModT)(hv:m.vars.length<=1000000)(he:m.enums.length<=1000000)(hv2:∀ e∈m.enums,e.vals.length<=1000000)(nm:List Nat):Tot base 38 [.agg (mdE m),.str nm] (rnV (Y1 m.vars m.enums nm)):=by
 refine hb.tot ?_ (by simp[pa,pc,Q7]) rfl;obtain⟨r,hr⟩:∃ r,r=Y1 m.vars m.enums nm:=⟨_,rfl⟩;have hd:=hr;unfold Y1 at hd;rw[<-hr];refine jF jsF (by rfl) (hb.pur 38 1 dc) ?_;simp only[jor,ju,κ,μ,ν,ξ];rw[(by unfold jjA;simp only[qq];rfl:jjA=_)];repeat'(first|apply jc<;>intro _|simp(disch:=first|exact dzG|fail) only[r8,δ,ε,ζ,η,θ])
 refine qg m.vars.length (λk L s=>(∀ j (hj:j<m.vars.length),j<k->decide (m.vars[j].name=nm)=false)/\3<=s.nx/\Cl s 0 (mdE m)/\Cl s 1 [.int .i64 0,.int .i64 0,.str [],.nils,.int .i64 0,.int .i64 0]/\Cl s 2 [.int .i64 0,.str [],.int .i64 0,.int .i64 0]/\Has L 1 (.str nm)/\Has L 2 (.ptr 0 0)/\Has L 4 (.ptr 1 0)/\Has L 5 (.ptr 2 0)/\Has L 14 (.lst m.vars.length (fl vaE m.vars))) (by first|assumption|omega) dc (by simp(disch:=decide) only[jf,jb]) (by simp(disch:=decide) only[jf,jb]) ?_ (λk L s v h=>(by obtain⟨a1,a2,a3,a4,a5,a6,a7,a8,a9,a10⟩:=h;refine⟨a1,a2,a3,a4,a5,?_,?_,?_,?_,?_⟩<;>simp(disch:=decide) only[jb]<;>assumption)) (λk L s v h=>(by obtain⟨a1,a2,a3,a4,a5,a6,a7,a8,a9,a10⟩:=h;refine⟨a1,a2,a3,a4,a5,?_,?_,?_,?_,?_⟩<;>simp(disch:=decide) only[jb]<;>assumption)) (λk L s hk hI hi hn=>?_) (λL s hI=>?_)
 ·refine⟨λj _ hj=>absurd hj (QaG _),by(first|omega|(simp only[jg,jh,jt,jm,jl];first|done|omega)),by(first|exact cyG|fail),by(first|exact cyG|fail),by(first|exact cyG|fail),?_,?_,?_,?_,?_⟩<;>simp(disch:=decide) only[jb,jf]
 ·obtain⟨h0,n4,C0,C1,C2,i1,i2,i4,i5,i14⟩:=hI;by_cases g:m.vars[k].name=nm
  ·have hv:jV m.vars nm=k:=wN hk (λj hj=>h0 j om hj) (by rw[decide_eq_true g]);have hv2:m.vars.getD (jV m.vars nm).toNat ⟨[],0,[],0,0,false,0⟩=m.vars[k]:=by
    rw[hv,QbP,Qap,Qaj hk];rfl
   dsimp only at hd;rw[hv2,hv,if_pos om] at hd
   (have zz:=aI @ya (aI @yj (aI C0.r (aI C1.r C2.r)));(repeat'(first|apply jc<;>intro _|simp(disch:=first|exact jT|fail) only[ja i1,ja i2,ja i4,ja i5,ja i14,ja hi,ja hn,g,sm2,sm3,sm9,C0.q,C1.q,C2.q,ya,yj,C0.r,C1.r,C2.r,r8,δ,ε,ζ,η,θ]));all_goals clear zz)
   exact rnG (.inl rfl) rfl hd
  ·(have zz:=aI C0.r (aI C1.r C2.r);(repeat'(first|apply jc<;>intro _|simp(disch:=first|exact jT|fail) only[ja i1,ja i2,ja i4,ja i5,ja i14,ja hi,ja hn,g,C0.q,C1.q,C2.q,C0.r,C1.r,C2.r,r8,δ,ε,ζ,η,θ]));all_goals clear zz)
   refine⟨⟨λj hj hjk=>?_,om,(C0.nw _).wrO om _ _,(C1.nw _).wrO om _ _,(C2.nw _).wrO om _ _,?_,?_,?_,?_,?_⟩,?_,?_⟩
   ·rcases Qau j k with h2|h2
    ·exact of_decide_eq_false (h0 j hj h2)
    ·have:j=k:=om
     subst this;exact g
   all_goals(simp(disch:=decide) only[jb];assumption)
 ·obtain⟨h0,n4,C0,C1,C2,i1,i2,i4,i5,i14⟩:=hI;have hv:jV m.vars nm=-1:=wM λj hj=>h0 j hj hj;rw[hv,if_neg om] at hd;clear hv h0
  (have zz:=C0.r;(repeat'(first|apply jc<;>intro _|simp(disch:=first|exact jT|fail) only[ja i2,C0.q,C0.r,r8,δ,ε,ζ,η,θ]));all_goals clear zz)
  refine qg m.enums.length (λk L s=>(∀ j (hj:j<m.enums.length),j<k->fi (λv=>decide (nm=v)) m.enums[j].vals<0)/\3<=s.nx/\Cl s 1 [.int .i64 0,.int .i64 0,.str [],.nils,.int .i64 0,.int .i64 0]/\Cl s 2 [.int .i64 0,.str [],.int .i64 0,.int .i64 0]/\Has L 1 (.str nm)/\Has L 4 (.ptr 1 0)/\Has L 5 (.ptr 2 0)/\Has L 38 (.lst m.enums.length (fl enE m.enums))) (by first|assumption|omega) dc (by simp(disch:=decide) only[jf,jb]) (by simp(disch:=decide) only[jf,jb]) ?_ (λk L s v h=>(by obtain⟨a1,a2,a3,a4,a5,a6,a7,a8⟩:=h;refine⟨a1,a2,a3,a4,?_,?_,?_,?_⟩<;>simp(disch:=decide) only[jb]<;>assumption)) (λk L s v h=>(by obtain⟨a1,a2,a3,a4,a5,a6,a7,a8⟩:=h;refine⟨a1,a2,a3,a4,?_,?_,?_,?_⟩<;>simp(disch:=decide) only[jb]<;>assumption)) (λk L s hk hI hi hn=>?_) (λL s hI=>?_)
  ·refine⟨λj _ hj=>absurd hj (QaG _),n4,C1,C2,?_,?_,?_,?_⟩<;>simp(disch:=decide) only[jb,jf]<;>assumption
  ·obtain⟨h0,n4,C1,C2,i1,i4,i5,i38⟩:=hI;have hl:=hv2 _ (Qad hk);repeat'(first|apply jc<;>intro _|simp(disch:=first|exact dzG|fail) only[ja i38,ja hi,ja hn,r8,δ,ε,ζ,η,θ])
   refine qg m.enums[k].vals.length (λk2 L s=>(∀ j (hj:j<m.enums[k].vals.length),j<k2->decide (nm=m.enums[k].vals[j])=false)/\3<=s.nx/\Cl s 1 [.int .i64 0,.int .i64 0,.str [],.nils,.int .i64 0,.int .i64 0]/\Cl s 2 [.int .i64 0,.str [],.int .i64 0,.int .i64 0]/\(∃ b,Cl s b (enE m.enums[k])/\3<=b/\Has L 10 (.ptr b 0))/\Has L 1 (.str nm)/\Has L 4 (.ptr 1 0)/\Has L 5 (.ptr 2 0)/\Has L 38 (.lst m.enums.length (fl enE m.enums))/\Has L 40 (.int .i64 (k:Int))/\Has L 39 (.int .i64 (m.enums.length:Int))/\Has L 45 (.lst m.enums[k].vals.length (m.enums[k].vals.map AV.str))) (by first|assumption|omega) dc (by simp(disch:=decide) only[jf,jb]) (by simp(disch:=decide) only[jf,jb]) ?_ (λk L s v h=>(by obtain⟨a1,a2,a3,a4,⟨b,a5,a6,a7⟩,a8,a9,a10,a11,a12,a13,a14⟩:=h;refine⟨a1,a2,a3,a4,⟨b,a5,a6,?_⟩,?_,?_,?_,?_,?_,?_,?_⟩<;>simp(disch:=decide) only[jb]<;>assumption)) (λk L s v h=>(by obtain⟨a1,a2,a3,a4,⟨b,a5,a6,a7⟩,a8,a9,a10,a11,a12,a13,a14⟩:=h;refine⟨a1,a2,a3,a4,⟨b,a5,a6,?_⟩,?_,?_,?_,?_,?_,?_,?_⟩<;>simp(disch:=decide) only[jb]<;>assumption)) (λkx Lx sx hkx hIx hix hnx=>?_) (λLx sx hIx=>?_)
   ·refine⟨λj _ hj=>absurd hj (QaG _),by(first|omega|(simp only[jg,jh,jt,jm,jl];first|done|omega)),(C1.nw _).wrO om _ _,(C2.nw _).wrO om _ _,⟨s.nx,(Cl.new s _).wr0 (by rw[Jr];rfl),om,?_⟩,?_,?_,?_,?_,?_,?_,?_⟩;all_goals first
     |(simp(disch:=decide) only[jb,jf];done)
     |(simp(disch:=decide) only[jb];assumption)
   ·obtain⟨g0,n4,C1,C2,⟨b,Cb,hb3,j10⟩,j1,j4,j5,j38,j40,j39,j45⟩:=hIx;have eS:∀ (st:St) (K:AV->St->Prop),jk (q9 (.lptr (m.enums[k].vals.map AV.str) kx) st) K=K (.str m.enums[k].vals[kx]) st:=λst K=>jbL hkx;by_cases g:m.enums[k].vals[kx]=nm
    ·have hf:fi (λv=>decide (nm=v)) m.enums[k].vals=kx:=wN hkx (λj hj=>g0 j om hj) (by rw[decide_eq_true g.symm]);have hv:=kM hk h0 (by rw[hf];omega);rw[hf] at hv;rw[hv,if_neg (by dsimp only;omega)] at hd;have q0:rat sx.h b 0=.str m.enums[k].name:=Cb.cell 0 (by rw[Jr];decide);have q1:qu sx.h b=4:=by rw[Cb.len,Jr]
     (have zz:=aI @q0 (aI @q1 (aI @ya (aI @yj (aI C1.r (aI C2.r @Cb.r)))));(repeat'(first|apply jc<;>intro _|simp(disch:=first|exact jT|fail) only[ja j1,ja j4,ja j5,ja j10,ja j45,ja hix,ja hnx,g,eS,sm2,sm3,sm9,C1.q,C2.q,Cb.q,q0,q1,ya,yj,C1.r,C2.r,Cb.r,r8,δ,ε,ζ,η,θ]));all_goals clear zz)
     exact rnG (.inl rfl) rfl hd
    ·(have zz:=aI C1.r (aI C2.r @Cb.r);(repeat'(first|apply jc<;>intro _|simp(disch:=first|exact jT|fail) only[ja j1,ja j4,ja j5,ja j10,ja j45,ja hix,ja hnx,g,eS,C1.q,C2.q,Cb.q,C1.r,C2.r,Cb.r,r8,δ,ε,ζ,η,θ]));all_goals clear zz)
     refine⟨⟨λj hj hjk=>?_,n4,C1,C2,⟨b,Cb,hb3,?_⟩,?_,?_,?_,?_,?_,?_,?_⟩,?_,?_⟩
     ·rcases Qau j kx with h2|h2
      ·first|exact g0 j hj h2|exact of_decide_eq_false (g0 j hj h2)
      ·have:j=kx:=om
       subst this;first|exact decide_eq_false (Ne.symm g)|exact Ne.symm g
     all_goals(simp(disch:=decide) only[jb];assumption)
   ·obtain⟨g0,n4,C1,C2,⟨b,Cb,hb3,j10⟩,j1,j4,j5,j38,j40,j39,j45⟩:=hIx;have hf:fi (λv=>decide (nm=v)) m.enums[k].vals=-1:=wM λj hj=>g0 j hj hj;repeat'(first|apply jc<;>intro _|simp(disch:=first|exact dzG|fail) only[r8,δ,ε,ζ,η,θ])
    refine⟨⟨λj hj hjk=>?_,n4,C1,C2,?_,?_,?_,?_⟩,?_,?_⟩
    ·rcases Qau j k with h2|h2
     ·exact h0 j hj h2
     ·have:j=k:=om
      subst this;rw[hf];decide
    all_goals first
     |assumption
     |(simp(disch:=decide) only[jb];assumption)
  ·obtain⟨h0,n4,C1,C2,i1,i4,i5,i38⟩:=hI;have hv:yv m.enums nm=([],-1):=kL λj hj=>h0 j hj hj;rw[hv,if_pos dc] at hd
   (have zz:=aI C1.r C2.r;(repeat'(first|apply jc<;>intro _|simp(disch:=first|exact jT|fail) only[ja i4,ja i5,C1.q,C2.q,C1.r,C2.r,r8,δ,ε,ζ,η,θ]));all_goals clear zz)
   exact rnG (.inl rfl) rfl hd
section
variable {P:Program}
theorem jbE {b b2 i c d:Nat}{zz:Int}{body:XC}{L:Sl}{st:St}{Q:Out->Prop}{Kp:AV->Sl->St->Prop}(N:Nat)(I:Nat->Sl->St->Prop)(hN:N<=4611686018427387904)(hz:zz=(N:Int))(hne:c≠i/\d≠i/\b≠b2)
  (hi:Has L i (.int .i64 0)) (h0:I 0 L st) (hc:∀ k L s v,I k L s->I k ((c,v) :: L) s) (hI:∀ k L s v,I k L s->I k ((i,v) :: L) s)
  (step:∀ k L s,k<N->I k L s->Has L i (.int .i64 (k:Int))->Vn (xC P base body L s (jb0 b b2 (λL' s'=>I (k+1) L' s'/\Has L' i (.int .i64 (k:Int))) Q) Kp))
  (fin:∀ L s,I N L s->Vn (Q (.go L s))) :
  xC P base (.loop (.seq (.ops [⟨some c,true,none,.i (.bin .lss (.t i) (.c (.int .i64 zz)))⟩]) (.seq (.cond (.t c) .skip (.exit b)) (.seq (.block b2 body) (.ops [⟨some d,false,none,.i (.bin .add (.t i) (.c (.int .i64 1)))⟩,⟨some i,true,none,.i (.mv (.t d))⟩]))))) L st (qK b Q) Kp:=by
 obtain⟨n1,n4,n5⟩:=hne;refine yY (λm L s=>∃ k,k<=N/\m=N - k/\I k L s/\Has L i (.int .i64 (k:Int))) ?_ N ⟨0,Qae _,rfl,h0,hi⟩;rintro m L s ⟨k,hk,rfl,hk',h1⟩;unfold Vn;simp only[Ut,Uu,wW,x_i,U2,ja h1,KY,jaC,Uv,w8,QV,Ko,jaT];by_cases hlt:k<N
 ·rw[decide_eq_true om,jeh,Km,QV,Ut,uU];refine Gr _ _ _ _ _ (step k ((c,.bool true) :: L) s hlt (hc k L s _ hk') (by rw[jb n1];exact h1)) λo ho=>?_;have go:∀ L' s',(I (k+1) L' s'/\Has L' i (.int .i64 (k:Int)))->xO P base [⟨some d,false,none,.i (.bin .add (.t i) (.c (.int .i64 1)))⟩,⟨some i,true,none,.i (.mv (.t d))⟩] ⟨[],L'⟩ s' (λe st'=>J5 (λL' st'=>∃ k',k'<N - k/\∃ k,k<=N/\k'=N - k/\I k L' st'/\Has L' i (.int .i64 (k:Int))) (qK b Q) (.go e.g st')) Kp:=by
   intro L' s' ⟨h3,h4⟩;simp only[wW,x_i,U2,ja h4,KY,jhn (show k+1<=9223372036854775807 by omega),UJ,jf3,jaS,Uv,w8,QV];refine⟨N - (k+1),om,k+1,om,rfl,hI _ _ _ _ h3,Has.here _ _ _⟩
  cases o with
  |go L' s'=>exact go L' s' ho
  |rt L' s'=>exact ho
  |ex q L' s'=>
   rw[jfF] at ho;cases hq:Qcn q b2
   ·rw[hq] at ho;have e1:qK b2 (J5 (λL' st'=>xC P base (.ops [⟨some d,false,none,.i (.bin .add (.t i) (.c (.int .i64 1)))⟩,⟨some i,true,none,.i (.mv (.t d))⟩]) L' st' (J5 (λL' st'=>∃ k',k'<N - k/\∃ k,k<=N/\k'=N - k/\I k L' st'/\Has L' i (.int .i64 (k:Int))) (qK b Q)) Kp) (J5 (λL' st'=>∃ k',k'<N - k/\∃ k,k<=N/\k'=N - k/\I k L' st'/\Has L' i (.int .i64 (k:Int))) (qK b Q))) (.ex q L' s')=qK b Q (.ex q L' s'):=by
     simp only[qK,hq,cond_false,J5]
    show qK b2 _ _;rw[e1];exact ho
   ·rw[hq] at ho;have:=go L' s' ho;show qK b2 _ _;simp only[qK,hq,cond_true,QV,Uu];exact this
 ·have hkN:k=N:=om
  rw[decide_eq_false om,jei,Kn,w7,w7];subst hkN;show qK b Q (.ex b _ s);rw[ub];exact fin _ _ (hc _ _ _ _ hk')
end
def Lx (lo hi:Nat)(s:St)(v w:AV)(n:Nat)(cs:List AV)(z:Nat):Prop:=Lv lo hi s w n cs z/\(v=w\/(w=.nils/\∃ b,v=.slice b 0 0 0 z true/\Cl s b []/\lo<=b/\b<hi))
theorem jds {lo hi n z bytes bv xc:Nat}{s:St}{v w:AV}{cs:List AV}{xx:Bool}{K:AV->St->Prop}(h:Lx lo hi s v w n cs z)(hz:0<z)(hby:(n+1) * bytes<=140737488355328)(h63:n+1<=9223372036854775807)(hv:z<=qu s.h bv) :
  jk (J8 z bytes v (.slice bv 0 1 xc z xx) s) K=K (apv z w s) (aps w s (rats s.h bv 0 z)):=by
 obtain⟨V,rfl|⟨rfl,b,rfl,C,_,_⟩⟩:=h
 ·exact J2 V hz hby h63 hv
 ·have hn:n=0:=by
   rcases V with ⟨_,h0,_⟩|⟨b,e,_⟩
   ·exact h0
   ·cases e
  subst hn;obtain⟨m,zl,zz,ks,hg⟩:=Qy (h:=s.h) (b:=bv) om;rw[yL hg] at hv;have e0:Qcr 1 z=z:=Qbs z;have e1:Qcp (Qcq 0 z) m=true:=qE (by show 0+z<=m;omega);have er:jQ zl zz ks z 0=rats s.h bv 0 z:=by
   rw[Qj,qt];exact QaV λi _=>by rw[JS hg]
  have el:(rats s.h bv 0 z).length=z:=J6 _ _ _ _;have e3:Qcn (jR (rats s.h bv 0 z)) z=true:=Zh (by rw[jO,el]);obtain⟨m',zl',zz',ks',hg'⟩:=C.row;have h4l:=C.len;rw[yL hg'] at h4l;have f4:Qcp (Qcq 0 1) 0=false:=rfl;have f5:Qcp (Qcr (Qcq 0 1) bytes) 140737488355328=true:=qE hby;have f6:Qcp (Qcq 0 1) 9223372036854775807=true:=rfl;have e7:Qcp (Qcq 0 (Qcr 0 z)) m'=true:=qE (by show 0+0 * z<=m';omega);have e8:jQ zl' zz' ks' (Qcr 0 z) 0=[]:=by rw[qt,show Qcr 0 z=0 from QaQ z];rfl
  have e9:∀ l:List AV,yR [] l=l:=λl=>by rw[yC];rfl
  have e10:Qcr (Qcq 0 1) z=z:=by show(0+1) * z=z;omega
  simp only[J8,zX,firstCells,hg,hg',ym,jG,e0,e1,cond_true,er,q7,e3,f4,f5,f6,cond_false,e7,e8,e9,e10,St.alloc_eq,jk];unfold apv Go.Sy.aps nw;rw[el]
def uO (op a b:Int):Int:=if op=5 then wq (-a) else if op=15 then wq (a+b) else if op=16 then wq (a - b) else wq (a * b)
def XY (op:Int)(a b:MtT):List Int:=[uO op a.lo b.lo,uO op a.lo b.hi,uO op a.hi b.lo,uO op a.hi b.hi]
def WH (op:Int)(a b:MtT):Int×Int:=((XY op a b).foldl min (uO op a.lo b.lo),(XY op a b).foldl max (uO op a.lo b.lo))
theorem Lx.nwO {lo hi n z:Nat}{s:St}{v w:AV}{cs:List AV}(h:Lx lo hi s v w n cs z)(hh:hi<=s.nx)(ds:List AV):Lx lo hi (nw s ds) v w n cs z:=by
 obtain⟨V,e⟩:=h;refine⟨?_,e.imp id λ⟨h0,b,h1,C,h2,h3⟩=>⟨h0,b,h1,C.nw ds,h2,h3⟩⟩;simp(disch:=omega) only[jE];exact V
theorem Lx.lv {lo hi n z:Nat}{s:St}{v:AV}{cs:List AV}(h:Lv lo hi s v n cs z):Lx lo hi s v v n cs z:=⟨h,.inl rfl⟩
theorem ix2 {x y:Int}{k:Nat}(hk:k<2)(st:St)(K:AV->St->Prop):jk (jmz 2 1 (.agg [.int .i64 x,.int .i64 y]) (.int .i64 (k:Int)) st) K=K (.int .i64 (if k=0 then x else y)) st:=by
 match k,hk with
 |0,_=>rfl
 |1,_=>rfl
theorem jqW {op:Int}{a b:MtT}{k j:Nat}(hk:k<2)(hj:j<2):(XY op a b).take (2 * k+j+1)=(XY op a b).take (2 * k+j) ++ [uO op (if k=0 then a.lo else a.hi) (if j=0 then b.lo else b.hi)]:=by
 match k,hk,j,hj with
 |0,_,0,_=>rfl
 |0,_,1,_=>rfl
 |1,_,0,_=>rfl
 |1,_,1,_=>rfl
set_option maxHeartbeats 8000000 in
theorem jqV (hb:NB base)(op:Int)(a b:MtT):Tot base 41 [.int .i64 op,.agg (mtE a),.agg (mtE b)] (.tup [.int .i64 (WH op a b).1,.int .i64 (WH op a b).2]):=by
 refine hb.tot ?_ (by simp[pa,pc,Y7]) rfl;refine jF jsC (by rfl) (hb.pur 41 1 dc) ?_;simp only[joo,ju,κ,μ,ν,ξ];rw[(by unfold jjx;simp only[qq];rfl:jjx=_)];repeat'(first|apply jc<;>intro _|simp(disch:=first|exact dzG|fail) only[r8,δ,ε,ζ,η,θ])
 have f2:(nw (nw (nw st0 (mtE a)) (mtE b)) []).nx=3:=rfl;have hl2:∀ k,k<=4->((XY op a b).take k).length=k:=λk hk=>by rw[Qan];exact Qbh hk
 refine jbE 2 (λk L s=>(∃ v w,Lx 2 s.nx s v w (2 * k) (((XY op a b).take (2 * k)).map (.int .i64)) 1/\Has L 8 v)/\3<=s.nx/\Cl s 1 (mtE b)/\Has L 0 (.int .i64 op)/\Has L 5 (.ptr 1 0)/\Has L 22 (.agg [.int .i64 a.lo,.int .i64 a.hi])) om rfl dc (by simp(disch:=decide) only[jf,jb]) ?_ (λk L s v h=>?_) (λk L s v h=>?_) (λk L s hk hI hi=>?_) (λL s hI=>?_)
 ·refine⟨⟨_,.nils,⟨Lv.nil,.inr ⟨rfl,2,rfl,Cl.new (nw (nw st0 (mtE a)) (mtE b)) [],τ _,by rw[f2];decide⟩⟩,?_⟩,by(first|omega|(simp only[jg,jh,jt,jm,jl];first|done|omega)),by(first|exact cyG|fail),?_,?_,?_⟩<;>simp(disch:=decide) only[jb,jf]
 ·obtain⟨⟨v,w,a1,a2⟩,a3,a4,a5,a6,a7⟩:=h;refine⟨⟨v,w,a1,?_⟩,a3,a4,?_,?_,?_⟩<;>simp(disch:=decide) only[jb]<;>assumption
 ·obtain⟨⟨v,w,a1,a2⟩,a3,a4,a5,a6,a7⟩:=h;refine⟨⟨v,w,a1,?_⟩,a3,a4,?_,?_,?_⟩<;>simp(disch:=decide) only[jb]<;>assumption
 ·obtain⟨⟨v,w,V,i8⟩,n3,C1,i0,i5,i22⟩:=hI;have I1:=λst K=>@ix2 a.lo a.hi k hk st K
  (have zz:=C1.r;(repeat'(first|apply jc<;>intro _|simp(disch:=first|exact jT|fail) only[ja i0,ja i5,ja i22,ja hi,I1,C1.q,C1.r,r8,δ,ε,ζ,η,θ]));all_goals clear zz)
  refine jbE 2 (λj L s=>(∃ v w,Lx 2 s.nx s v w (2 * k+j) (((XY op a b).take (2 * k+j)).map (.int .i64)) 1/\Has L 8 v)/\3<=s.nx/\Cl s 1 (mtE b)/\Has L 0 (.int .i64 op)/\Has L 5 (.ptr 1 0)/\Has L 22 (.agg [.int .i64 a.lo,.int .i64 a.hi])/\Has L 10 (.int .i64 (if k=0 then a.lo else a.hi))/\Has L 30 (.agg [.int .i64 b.lo,.int .i64 b.hi])/\Has L 23 (.int .i64 (k:Int))) om rfl dc (by simp(disch:=decide) only[jf,jb]) ?_ (λk L s v h=>?_) (λk L s v h=>?_) (λj L s hj hI hij=>?_) (λL s hI=>?_)
  ·refine⟨⟨v,w,V,?_⟩,n3,C1,?_,?_,?_,?_,?_,?_⟩;all_goals first
    |(simp(disch:=decide) only[jb,jf];done)
    |(simp(disch:=decide) only[jb,jf];assumption)
  ·obtain⟨⟨v,w,a1,a2⟩,a3,a4,a5,a6,a7,a8,a9,a10⟩:=h;refine⟨⟨v,w,a1,?_⟩,a3,a4,?_,?_,?_,?_,?_,?_⟩<;>simp(disch:=decide) only[jb]<;>assumption
  ·obtain⟨⟨v,w,a1,a2⟩,a3,a4,a5,a6,a7,a8,a9,a10⟩:=h;refine⟨⟨v,w,a1,?_⟩,a3,a4,?_,?_,?_,?_,?_,?_⟩<;>simp(disch:=decide) only[jb]<;>assumption
  ·obtain⟨⟨v,w,V,j8⟩,n3,C1,j0,j5,j22,j10,j30,j23⟩:=hI;have I2:=λst K=>@ix2 b.lo b.hi j hj st K;have eS:=@jqW op a b k j hk hj;unfold uO at eS;generalize (if k=0 then a.lo else a.hi)=x at *;generalize (if j=0 then b.lo else b.hi)=y at *;obtain⟨m,hm⟩:∃ m,m=s.nx:=⟨_,rfl⟩;have VN:∀ q:Int,Lx 2 m (nw s [.int .i64 q]) v w (2 * k+j) (((XY op a b).take (2 * k+j)).map (.int .i64)) 1:=λq=>by
    rw[hm];exact V.nwO (τ _) _
   have A:=λst bv xc xx K h hv=>@jds 2 m (2 * k+j) 1 8 bv xc st v w (((XY op a b).take (2 * k+j)).map (.int .i64)) xx K h dc om om hv;have put:∀ q:Int,(if op=5 then wq (-x) else if op=15 then wq (x+y) else if op=16 then wq (x - y) else wq (x * y))=q->Lx 2 (s.nx+1+1) (aps w (nw s [.int .i64 q]) [.int .i64 q]) (apv 1 w (nw s [.int .i64 q])) (apv 1 w (nw s [.int .i64 q])) (2 * k+(j+1)) (((XY op a b).take (2 * k+(j+1))).map (.int .i64)) 1:=λq hq=>by
    have h:=(VN q).1.put (news:=[.int .i64 q]) rfl (by rw[jg];omega) (m:=s.nx+1+1) (by rw[jg]);rw[hq] at eS;rw[show 2 * k+(j+1)=2 * k+j+1 from rfl,eS,QaX];exact Lx.lv h
   have CN:∀ q:Int,Cl (aps w (nw s [.int .i64 q]) [.int .i64 q]) 1 (mtE b):=λq=>by
    rw[(VN q).1.cl _ _ _ 1 (.inl dc) (by rw[jg];omega)];exact C1.nw _
   (have zz:=aI @VN C1.r;(repeat'(first|apply jc<;>intro _|simp(disch:=first|exact jT|fail) only[ja j0,ja j8,ja j10,ja j30,ja hij,I2,jlM,jfs,jfr,jlN,A,C1.q,VN,C1.r,r8,δ,ε,ζ,η,θ]));all_goals clear zz)
   all_goals
    refine⟨⟨⟨_,_,put _ (by simp[*]),?_⟩,om,?_,?_,?_,?_,?_,?_,?_⟩,?_⟩
    ·simp(disch:=decide) only[jb,jf]
    ·exact CN _
    all_goals(simp(disch:=decide) only[jb];assumption)
  ·obtain⟨⟨v,w,V,j8⟩,n3,C1,j0,j5,j22,j10,j30,j23⟩:=hI;repeat'(first|apply jc<;>intro _|simp(disch:=first|exact dzG|fail) only[r8,δ,ε,ζ,η,θ])
   refine⟨⟨⟨v,w,V,j8⟩,n3,C1,j0,j5,j22⟩,j23⟩
 ·obtain⟨⟨v,w,V,i8⟩,n3,C1,i0,i5,i22⟩:=hI;have e4:(XY op a b).take (2 * 2)=XY op a b:=rfl;rw[e4] at V;obtain⟨V,e⟩:=V;rcases V with ⟨_,h0,_⟩|⟨b',rfl,h0,_,C,hb1,hb2⟩
  ·cases h0
  have e:v=.slice b' 0 (2 * 2) (2 * 2) 1 false:=by
   rcases e with e|⟨h,_⟩
   ·exact e
   ·cases h
  subst e;have f0:rat s.h b' 0=.int .i64 (uO op a.lo b.lo):=C.cell 0 (by simp[XY]);have hlen:qu s.h b'=4:=C.len;have fk:∀ k (h:k<(XY op a b).length),rat s.h b' k=.int .i64 (XY op a b)[k]:=λk h=>by
   rw[C.cell k (by simpa using h)];simp[Qac,h]
  unfold WH;generalize hl4:XY op a b=l at *;have hl5:l.length=4:=by rw[<-hl4];rfl
  generalize uO op a.lo b.lo=x at *
  (have zz:=@hlen;(repeat'(first|apply jc<;>intro _|simp(disch:=first|exact jT|fail) only[ja i8,f0,hlen,r8,δ,ε,ζ,η,θ]));all_goals clear zz)
  refine qg 4 (λk L s=>Has L 13 (.int .i64 ((l.take k).foldl min x))/\Has L 14 (.int .i64 ((l.take k).foldl max x))/\Cl s b' (l.map (.int .i64))/\Has L 72 (.slice b' 0 4 4 1 false)) (by first|assumption|omega) dc (by simp(disch:=decide) only[jf,jb]) (by simp(disch:=decide) only[jf,jb]) ?_ (λk L s v h=>(by obtain⟨a1,a2,a3,a4⟩:=h;refine⟨?_,?_,a3,?_⟩<;>simp(disch:=decide) only[jb]<;>assumption)) (λk L s v h=>(by obtain⟨a1,a2,a3,a4⟩:=h;refine⟨?_,?_,a3,?_⟩<;>simp(disch:=decide) only[jb]<;>assumption)) (λk L s hk hI hi hn=>?_) (λL s hI=>?_)
  ·refine⟨?_,?_,C,?_⟩<;>simp(disch:=decide) only[jb,jf,QaF,List.foldl_nil]
  ·obtain⟨i13,i14,C,i72⟩:=hI;have hk5:k<l.length:=om
   have g0:rat s.h b' k=.int .i64 l[k]:=by
    rw[C.cell k (by simpa using hk5)];simp[Qac,hk5]
   have gl:qu s.h b'=4:=by rw[C.len,Qar,hl5]
   have et:l.take (k+1)=l.take k ++ [l[k]]:=yw hk5
   (have zz:=@gl;(repeat'(first|apply jc<;>intro _|simp(disch:=first|exact jT|fail) only[ja i13,ja i14,ja i72,ja hi,ja hn,g0,gl,r8,δ,ε,ζ,η,θ]));all_goals clear zz)
   refine⟨⟨?_,?_,C,?_⟩,?_,?_⟩;all_goals first
    |(simp(disch:=decide) only[jb,jf,et,Qba,Qbr,List.foldl_nil];done)
    |(simp(disch:=decide) only[jb];assumption)
  ·obtain⟨i13,i14,C,i72⟩:=hI;have et:l.take 4=l:=by rw[<-hl5,Qag]
   rw[et] at i13 i14;repeat'(first|apply jc<;>intro _|simp(disch:=first|exact dzG|fail) only[ja i13,ja i14,r8,δ,ε,ζ,η,θ])
   exact G0.tupi rfl
def clA (op:Int):Bool:=decide (op=5\/op=14\/op=15\/op=16)
def clB (op:Int):Bool:=decide (op=19\/op=20\/op=21\/op=22)
def clC (op:Int):Bool:=decide (op=17\/op=18)
def clD (op:Int):Bool:=decide (op=6\/op=27\/op=28\/op=29\/op=30)
def rok (fm:Bool)(op:Int)(a b:MtT):Bool:=(decide (a.kind=b.kind) && decide (a.enum=b.enum)) && (if clA op ||clB op then decide (a.kind=1) else if clC op then true else if clD op then decide (a.kind=2) else decide (a.kind=2) && fm)
def Z6 (op:Int)(a b:MtT):MtT:=if clA op then⟨1,[],(WH op a b).1,(WH op a b).2⟩ else⟨2,[],0,0⟩
def WD (fm:Bool)(op num:Int)(name:List Nat)(l c:Int)(ys:List Ex)(a b:MtT):KR (Ex×MtT):=
 if rok fm op a b=false then .er 163 l c
 else if(Z6 op a b).kind=1/\((Z6 op a b).lo < -100000000\/100000000<(Z6 op a b).hi) then .er 165 l c
 else .ok (.mk op num name ys l c,Z6 op a b)
def jb1 (vars:List VarT)(enums:List EnumT)(name:List Nat)(l c:Int):KR (Ex×MtT):=
 if(Y1 vars enums name).2.2=false then .er 161 l c else .ok (.mk (Y1 vars enums name).1.op (Y1 vars enums name).1.num [] [] l c,(Y1 vars enums name).2.1)
mutual
def zq (vars:List VarT)(enums:List EnumT):Bool->Ex->KR (Ex×MtT)
 |fm,.mk op num name ks l c=>
  if op=1 then .ok (.mk op num name ks l c,⟨1,[],num,num⟩)
  else if op=2 then .ok (.mk op num name ks l c,⟨2,[],0,0⟩)
  else if op=3 then jb1 vars enums name l c
  else match qM vars enums (fm && decide (op≠17) && decide (op≠18)) ks with
   |.er a b d=>.er a b d
   |.ok r=>WD fm op num name l c r.1 (r.2.getD 0 mt0) (r.2.getD (r.2.length - 1) mt0)
def qM (vars:List VarT)(enums:List EnumT):Bool->List Ex->KR (List Ex×List MtT)
 |_,[]=>.ok ([],[])
 |fm,x :: xs=>match zq vars enums fm x with
  |.er a b d=>.er a b d
  |.ok y=>match qM vars enums fm xs with
   |.er a b d=>.er a b d
   |.ok r=>.ok (y.1 :: r.1,y.2 :: r.2)
end
theorem jkO (vars:List VarT)(enums:List EnumT)(fm:Bool)(x:Ex):zq vars enums fm x=if x.op=1 then .ok (x,⟨1,[],x.num,x.num⟩) else if x.op=2 then .ok (x,⟨2,[],0,0⟩) else if x.op=3 then jb1 vars enums x.name x.line x.col else match qM vars enums (fm && decide (x.op≠17) && decide (x.op≠18)) x.kids with
  |.er a b d=>.er a b d
  |.ok r=>WD fm x.op x.num x.name x.line x.col r.1 (r.2.getD 0 mt0) (r.2.getD (r.2.length - 1) mt0):=by
 cases x;rw[zq];rfl
mutual
theorem WG {vars:List VarT}{enums:List EnumT}:∀ {fm:Bool} {x:Ex} {a b d:Int},zq vars enums fm x=.er a b d->a≠0
 |fm,.mk op num name ks l c,a,b,d,h=>by
  rw[zq] at h;split at h
  ·cases h
  ·split at h
   ·cases h
   ·split at h
    ·unfold jb1 at h;split at h
     ·cases h;decide
     ·cases h
    ·split at h
     ·rename_i e;cases h;exact KP e
     ·unfold WD at h;split at h
      ·cases h;decide
      ·split at h
       ·cases h;decide
       ·cases h
theorem KP {vars:List VarT}{enums:List EnumT}:∀ {fm:Bool} {xs:List Ex} {a b d:Int},qM vars enums fm xs=.er a b d->a≠0
 |fm,[],a,b,d,h=>by rw[qM] at h;cases h
 |fm,x :: xs,a,b,d,h=>by
  rw[qM] at h;split at h
  ·rename_i e;cases h;exact WG e
  ·split at h
   ·rename_i e;cases h;exact KP e
   ·cases h
end
theorem Hn {vars:List VarT}{enums:List EnumT}{fm:Bool}:∀ {xs:List Ex} {ys:List Ex} {ms:List MtT} {x y:Ex} {m:MtT},qM vars enums fm xs=.ok (ys,ms)->zq vars enums fm x=.ok (y,m)->qM vars enums fm (xs ++ [x])=.ok (ys ++ [y],ms ++ [m])
 |[],ys,ms,x,y,m,h,h2=>by
  simp only[qM] at h;cases h;simp only[Qam,qM,h2]
 |z :: xs,ys,ms,x,y,m,h,h2=>by
  simp only[qM] at h;cases hz:zq vars enums fm z with
  |er a b d=>rw[hz] at h;cases h
  |ok w=>
   rw[hz] at h;cases hr:qM vars enums fm xs with
   |er a b d=>rw[hr] at h;cases h
   |ok r=>
    rw[hr] at h;cases h;obtain⟨r1,r2⟩:=r;simp only[Qaf,qM,hz,Hn hr h2]
theorem Ho {vars:List VarT}{enums:List EnumT}{fm:Bool}:∀ {xs:List Ex} {ys:List Ex} {ms:List MtT} {x:Ex} {a b d:Int} (zs:List Ex),qM vars enums fm xs=.ok (ys,ms)->zq vars enums fm x=.er a b d->qM vars enums fm (xs ++ x :: zs)=.er a b d
 |[],ys,ms,x,a,b,d,zs,h,h2=>by simp only[Qam,qM,h2]
 |z :: xs,ys,ms,x,a,b,d,zs,h,h2=>by
  simp only[qM] at h;cases hz:zq vars enums fm z with
  |er a b d=>rw[hz] at h;cases h
  |ok w=>
   rw[hz] at h;cases hr:qM vars enums fm xs with
   |er a b d=>rw[hr] at h;cases h
   |ok r=>
    rw[hr] at h;cases h;obtain⟨r1,r2⟩:=r;simp only[Qaf,qM,hz,Ho zs hr h2]
theorem WE {vars:List VarT}{enums:List EnumT}{fm:Bool}:∀ {xs:List Ex} {ys:List Ex} {ms:List MtT},qM vars enums fm xs=.ok (ys,ms)->ys.length=xs.length/\ms.length=xs.length
 |[],ys,ms,h=>by simp only[qM] at h;cases h;exact⟨rfl,rfl⟩
 |z :: xs,ys,ms,h=>by
  simp only[qM] at h;cases hz:zq vars enums fm z with
  |er a b d=>rw[hz] at h;cases h
  |ok w=>
   rw[hz] at h;cases hr:qM vars enums fm xs with
   |er a b d=>rw[hr] at h;cases h
   |ok r=>
    rw[hr] at h;cases h;obtain⟨r1,r2⟩:=r;have:=WE hr;simp[this]
mutual
def kdB:Ex->Bool
 |.mk op _ _ ks _ _=>(decide (op=1\/op=2\/op=3) ||decide (ks≠[])) && decide (ks.length<=2) && jf0 ks
def jf0:List Ex->Bool
 |[]=>true
 |x :: xs=>kdB x && jf0 xs
end
theorem jcE:∀ xs,jf0 xs=xs.all kdB
 |[]=>rfl
 |x :: xs=>by rw[jf0,QaD,jcE]
theorem jio (x:Ex):kdB x=((decide (x.op=1\/x.op=2\/x.op=3) ||decide (x.kids≠[])) && decide (x.kids.length<=2) && x.kids.all kdB):=by cases x;rw[kdB,jcE];rfl
def rxV:KR (Ex×MtT)->AV
 |.ok r=>.tup [.agg (eE r.1),.agg (mtE r.2),.agg [.int .i64 0,.int .i64 0,.int .i64 0]]
 |.er a b d=>.tup [.agg (eE (.mk 0 0 [] [] 0 0)),.agg (mtE mt0),.agg [.int .i64 a,.int .i64 b,.int .i64 d]]
theorem KN {s:St}{r:KR (Ex×MtT)}{a b d:Int}{u:AV}(hu:u=.tup [.agg [.int .i64 0,.int .i64 0,.str [],.nils,.int .i64 0,.int .i64 0],.agg [.int .i64 0,.str [],.int .i64 0,.int .i64 0],.agg [.int .i64 a,.int .i64 b,.int .i64 d]])(h:r=.er a b d):G0 (rxV r) u s:=by
 subst hu h;exact FzD.tup (.cons (FzD.agg (.cons (.pc rfl) (.cons (.pc rfl) (.cons (.pc rfl) (.cons FzD.nils (.cons (.pc rfl) (.cons (.pc rfl) .nil))))))) (.cons (FzD.agg (.pc rfl)) (.cons (FzD.agg (.pc rfl)) .nil)))
theorem jaN {s:St}{r:KR (Ex×MtT)}{y:Ex}{m:MtT}{c:List AV}{u:AV}(hc:FzsD 0 7 s c (eE y))(hu:u=.tup [.agg c,.agg (mtE m),.agg [.int .i64 0,.int .i64 0,.int .i64 0]])(h:r=.ok (y,m)):G0 (rxV r) u s:=by
 subst hu h;exact FzD.tup (.cons (FzD.agg hc) (.cons (FzD.agg (.pc rfl)) (.cons (FzD.agg (.pc rfl)) .nil)))
theorem jsd:Go.Ev.isAgg γ 42=some true:=by kernel_rfl
theorem jsc:Go.Ev.sizeOf γ 42=some 4:=by kernel_rfl
theorem jkG {b:Nat}{k lo hi:Int}{e:List Nat}{h:T AO}(ho:0+4<=qu h b)(hv:rats h b 0 4=[.int .i64 k,.str e,.int .i64 lo,.int .i64 hi]):(jZ γ 42 (.ptr b 0) (.agg [.int .i64 k,.str e,.int .i64 lo,.int .i64 hi]) h=true)=True:=eq_true (X4 jsd jsc dc ho hv rfl)
structure EX6 (x:Ex)(ys:List Ex)(vk:AV)(hi:Nat)(L:Sl)(s:St):Prop where
 n7:7<=hi
 nx:hi<=s.nx
 c1:Cl s 1 (eE x)
 c2:Cl s 2 z6
 c3:Cl s 3 z4
 c4:Cl s 4 [.int .i64 0,.int .i64 0,.int .i64 0]
 c5:Cl s 5 [.int .i64 x.op,.int .i64 x.num,.str x.name,vk,.int .i64 x.line,.int .i64 x.col]
 lk:Lv 7 hi s vk ys.length (fl eE ys) 6
 i4:Has L 4 (.ptr 1 0)
 i6:Has L 6 (.ptr 2 0)
 i7:Has L 7 (.ptr 3 0)
 i8:Has L 8 (.ptr 4 0)
 i12:Has L 12 (.ptr 5 0)
section
variable {x:Ex} {ys:List Ex} {vk:AV} {hi:Nat} {L:Sl} {s:St}
theorem EX6.nw (S:EX6 x ys vk hi L s)(ds:List AV):EX6 x ys vk hi L (Go.Sy.nw s ds):=by
 obtain⟨n7,nx,c1,c2,c3,c4,c5,lk,i4,i6,i7,i8,i12⟩:=S;exact⟨n7,by rw[jg];omega,c1.nw _,c2.nw _,c3.nw _,c4.nw _,c5.nw _,by rw[jE nx];exact lk,i4,i6,i7,i8,i12⟩
theorem EX6.wr (S:EX6 x ys vk hi L s){c o:Nat}{ds:List AV}(hc:hi<=c):EX6 x ys vk hi L (Go.Sy.wr s c o ds):=by
 obtain⟨n7,nx,c1,c2,c3,c4,c5,lk,i4,i6,i7,i8,i12⟩:=S;exact⟨n7,by rw[jh];omega,c1.wrO om _ _,c2.wrO om _ _,c3.wrO om _ _,c4.wrO om _ _,c5.wrO om _ _,by rw[jz (.inr hc)];exact lk,i4,i6,i7,i8,i12⟩
theorem EX6.push (S:EX6 x ys vk hi L s){c:Nat}{v:AV}(h:c≠4/\c≠6/\c≠7/\c≠8/\c≠12):EX6 x ys vk hi ((c,v) :: L) s:=by
 obtain⟨n7,nx,c1,c2,c3,c4,c5,lk,i4,i6,i7,i8,i12⟩:=S;obtain⟨h1,h2,h3,h4,h5⟩:=h;exact⟨n7,nx,c1,c2,c3,c4,c5,lk,by rw[jb h1];exact i4,by rw[jb h2];exact i6,by rw[jb h3];exact i7,by rw[jb h4];exact i8,by rw[jb h5];exact i12⟩
end
abbrev rxQ (r:KR (Ex×MtT)):Out->Prop:=Q2 γ jbz.res (Xa G0 (.ok (rxV r)))
abbrev rxP (r:KR (Ex×MtT)):AV->Sl->St->Prop:=λv _ s=>Q6 G0 (.ok (rxV r)) v s.bare
set_option maxHeartbeats 8000000 in
theorem jpZ (hb:NB base){x:Ex}{ys:List Ex}{vk:AV}{hi p:Nat}{L:Sl}{s:St}(S:EX6 x ys vk hi L s){ok:Bool}{own:MtT}(C:Cl s p (mtE own))(hp:6<=p)(i22:Has L 22 (.bool ok))(i23:Has L 23 (.ptr p 0)){r:KR (Ex×MtT)}
  (hr:r=if ok=false then .er 163 x.line x.col else if own.kind=1/\(own.lo < -100000000\/100000000<own.hi) then .er 165 x.line x.col else .ok (.mk x.op x.num x.name ys x.line x.col,own)):xC γ base Kj L s (rxQ r) (rxP r):=by
 obtain⟨n7,nx,c1,c2,c3,c4,c5,lk,i4,i6,i7,i8,i12⟩:=S;have hpn:=C.lt;have F:=jeI hb;unfold z6 at c2;unfold z4 at c3;unfold rxQ rxP;unfold jbz;rw[(by unfold Kj;simp only[qq];rfl:Kj=_)];have vc:∀ l,lall AV.cell (vk :: l)=lall AV.cell l:=λl=>by show cond vk.cell _ false=_;rw[lk.cell];rfl
 have vk6:=λm d hm=>lk.fz (m:=m) (d:=d) hm (zh qS ys);have fin:∀ (s':St) (m:MtT),r=.ok (.mk x.op x.num x.name ys x.line x.col,m)->Lv 7 hi s' vk ys.length (fl eE ys) 6->G0 (rxV r) (.tup [.agg [.int .i64 x.op,.int .i64 x.num,.str x.name,vk,.int .i64 x.line,.int .i64 x.col],.agg (mtE m),.agg [.int .i64 0,.int .i64 0,.int .i64 0]]) s':=λs' m h V=>jaN (by
  rw[qx];exact .cons (.pc rfl) (.cons (.pc rfl) (.cons (.pc rfl) (.cons (V.fz (Qae _) (zh qS ys)) (.cons (.pc rfl) (.cons (.pc rfl) .nil)))))) rfl h
 cases ok with
 |false=>
  rw[if_pos rfl] at hr
  (have zz:=aI @c1.r (aI @c2.r (aI @c3.r @c4.r));(repeat'(first|apply jc<;>intro _|simp(disch:=first|exact jT|fail) only[ja i4,ja i6,ja i7,ja i8,ja i22,F,c1.q,c2.q,c3.q,c4.q,c1.r,c2.r,c3.r,c4.r,r8,δ,ε,ζ,η,θ]));all_goals clear zz)
  exact KN rfl hr
 |true=>
  rw[if_neg dc] at hr;obtain⟨k,e,lo,hiv⟩:=own;dsimp only at hr;have q1:rats s.h p 0 4=[.int .i64 k,.str e,.int .i64 lo,.int .i64 hiv]:=C.rats0 rfl;have q2:qu s.h p=4:=C.len;by_cases g1:k=1
  ·by_cases g2:lo < -100000000
   ·rw[if_pos ⟨g1,.inl g2⟩] at hr
    (have zz:=aI @c1.r (aI @c2.r (aI @c3.r (aI @c4.r C.r)));(repeat'(first|apply jc<;>intro _|simp(disch:=first|exact jT|fail) only[ja i4,ja i6,ja i7,ja i8,ja i22,ja i23,g1,g2,F,c1.q,c2.q,c3.q,c4.q,C.q,c1.r,c2.r,c3.r,c4.r,C.r,r8,δ,ε,ζ,η,θ]));all_goals clear zz)
    exact KN rfl hr
   ·by_cases g3:100000000<hiv
    ·rw[if_pos ⟨g1,.inr g3⟩] at hr
     (have zz:=aI @c1.r (aI @c2.r (aI @c3.r (aI @c4.r C.r)));(repeat'(first|apply jc<;>intro _|simp(disch:=first|exact jT|fail) only[ja i4,ja i6,ja i7,ja i8,ja i22,ja i23,g1,g2,g3,F,c1.q,c2.q,c3.q,c4.q,C.q,c1.r,c2.r,c3.r,c4.r,C.r,r8,δ,ε,ζ,η,θ]));all_goals clear zz)
     exact KN rfl hr
    ·rw[if_neg (λh=>h.2.elim g2 g3)] at hr;subst g1
     (have zz:=aI @q1 (aI @q2 (aI @vc (aI @lk.plain (aI @lk.cells (aI @c1.r (aI @c2.r (aI @c3.r (aI @c4.r (aI @c5.r C.r)))))))));(repeat'(first|apply jc<;>intro _|simp(disch:=first|exact jT|fail) only[ja i4,ja i6,ja i7,ja i8,ja i12,ja i22,ja i23,g2,g3,jkG,Vw i23,c1.q,c2.q,c3.q,c4.q,c5.q,C.q,q1,q2,vc,lk.plain,lk.cells,c1.r,c2.r,c3.r,c4.r,c5.r,C.r,r8,δ,ε,ζ,η,θ]));all_goals clear zz)
     refine fin _ ⟨1,e,lo,hiv⟩ hr ?_;simp(disch:=omega) only[jH,jz];exact lk
  ·rw[if_neg (λh=>g1 h.1)] at hr
   (have zz:=aI @q1 (aI @q2 (aI @vc (aI @lk.plain (aI @lk.cells (aI @c1.r (aI @c2.r (aI @c3.r (aI @c4.r (aI @c5.r C.r)))))))));(repeat'(first|apply jc<;>intro _|simp(disch:=first|exact jT|fail) only[ja i4,ja i6,ja i7,ja i8,ja i12,ja i22,ja i23,g1,jkG,Vw i23,c1.q,c2.q,c3.q,c4.q,c5.q,C.q,q1,q2,vc,lk.plain,lk.cells,c1.r,c2.r,c3.r,c4.r,c5.r,C.r,r8,δ,ε,ζ,η,θ]));all_goals clear zz)
   refine fin _ ⟨k,e,lo,hiv⟩ hr ?_;simp(disch:=omega) only[jH,jz];exact lk
set_option maxHeartbeats 16000000 in
theorem jp0 (hb:NB base){x:Ex}{ys:List Ex}{vk:AV}{hi p pa pb:Nat}{L:Sl}{s:St}{fm:Bool}{a b:MtT}(S:EX6 x ys vk hi L s)(C:Cl s p [.int .i64 2,.str [],.int .i64 0,.int .i64 0])(hp:hi<=p)(Ca:Cl s pa (mtE a))(Cb:Cl s pb (mtE b))(ha:pa≠p)(hb2:pb≠p)
  (i2:Has L 2 (.bool fm)) (i19:Has L 19 (.ptr pa 0)) (i20:Has L 20 (.ptr pb 0)) (i21:Has L 21 (.bool (decide (a.kind=b.kind) && decide (a.enum=b.enum)))) (i23:Has L 23 (.ptr p 0)) {r:KR (Ex×MtT)}
  (hr:r=WD fm x.op x.num x.name x.line x.col ys a b):xC γ base jaw L s (rxQ r) (rxP r):=by
 have n7:=S.n7;have i4:=S.i4;have c1:=S.c1;have F:=jqV hb x.op a b;have hpn:=C.lt;unfold WD at hr;have D:∀ {L':Sl} {s':St} {ok:Bool} {own:MtT},EX6 x ys vk hi L' s'->Cl s' p (mtE own)->Has L' 22 (.bool ok)->Has L' 23 (.ptr p 0)->ok=rok fm x.op a b->own=Z6 x.op a b->xC γ base Kj L' s' (rxQ r) (rxP r):=by
  intro L' s' ok own S' C' h22 h23 e1 e2;subst e1 e2;exact jpZ hb S' C' om h22 h23 hr
 clear hr;unfold rok Z6 clA clB clC clD at D;unfold mtE at F;rw[(by unfold jaw;simp only[qq];rfl:jaw=_)];generalize hsm:(decide (a.kind=b.kind) && decide (a.enum=b.enum))=same at *;by_cases gA:x.op=5\/x.op=14\/x.op=15\/x.op=16
 ·rcases gA with g|g|g|g
  all_goals
   cases same;all_goals
    rw[g] at F
    (have zz:=aI @ha (aI @hb2 (aI @c1.r (aI @Ca.r (aI @Cb.r C.r))));(repeat'(first|apply jc<;>intro _|simp(disch:=first|exact jT|fail) only[ja i2,ja i4,ja i19,ja i20,ja i21,ja i23,g,F,c1.q,Ca.q,Cb.q,C.q,ha,hb2,c1.r,Ca.r,Cb.r,C.r,r8,δ,ε,ζ,η,θ]));all_goals clear zz)
    refine D (own:=⟨1,[],(WH x.op a b).1,(WH x.op a b).2⟩) ?_ ?_ (Has.here _ _ _) ?_ ?_ ?_
    ·repeat' first|exact S|(refine EX6.push ?_ dc)|(refine EX6.wr ?_ (by assumption))
    ·rw[g];exact((C.wr 0 _).wr 2 _).wr 3 _
    ·simp(disch:=decide) only[jb];exact i23
    ·simp[g]
    ·simp[g]
 ·by_cases gB:x.op=19\/x.op=20\/x.op=21\/x.op=22
  ·rcases gB with g|g|g|g
   all_goals
    cases same;all_goals
     (have zz:=aI @c1.r (aI @Ca.r (aI @Cb.r C.r));(repeat'(first|apply jc<;>intro _|simp(disch:=first|exact jT|fail) only[ja i2,ja i4,ja i19,ja i20,ja i21,ja i23,g,c1.q,Ca.q,Cb.q,C.q,c1.r,Ca.r,Cb.r,C.r,r8,δ,ε,ζ,η,θ]));all_goals clear zz)
     all_goals
      refine D (own:=⟨2,[],0,0⟩) ?_ C (Has.here _ _ _) ?_ ?_ ?_
      ·repeat' first|exact S|(refine EX6.push ?_ dc)
      ·simp(disch:=decide) only[jb];exact i23
      ·simp[g]
      ·simp[g]
  ·by_cases gC:x.op=17\/x.op=18
   ·rcases gC with g|g
    all_goals
     (have zz:=aI @c1.r (aI @Ca.r (aI @Cb.r C.r));(repeat'(first|apply jc<;>intro _|simp(disch:=first|exact jT|fail) only[ja i2,ja i4,ja i19,ja i20,ja i21,ja i23,g,c1.q,Ca.q,Cb.q,C.q,c1.r,Ca.r,Cb.r,C.r,r8,δ,ε,ζ,η,θ]));all_goals clear zz)
     refine D (own:=⟨2,[],0,0⟩) ?_ C (Has.here _ _ _) ?_ ?_ ?_
     ·repeat' first|exact S|(refine EX6.push ?_ dc)
     ·simp(disch:=decide) only[jb];exact i23
     ·simp[g]
     ·simp[g]
   ·by_cases gD:x.op=6\/x.op=27\/x.op=28\/x.op=29\/x.op=30
    ·rcases gD with g|g|g|g|g
     all_goals
      cases same;all_goals
       (have zz:=aI @c1.r (aI @Ca.r (aI @Cb.r C.r));(repeat'(first|apply jc<;>intro _|simp(disch:=first|exact jT|fail) only[ja i2,ja i4,ja i19,ja i20,ja i21,ja i23,g,c1.q,Ca.q,Cb.q,C.q,c1.r,Ca.r,Cb.r,C.r,r8,δ,ε,ζ,η,θ]));all_goals clear zz)
       all_goals
        refine D (own:=⟨2,[],0,0⟩) ?_ C (Has.here _ _ _) ?_ ?_ ?_
        ·repeat' first|exact S|(refine EX6.push ?_ dc)
        ·simp(disch:=decide) only[jb];exact i23
        ·simp[g]
        ·simp[g]
    ·simp only[not_or] at gA gB gC gD;obtain⟨g1,g2,g3,g4⟩:=gA;obtain⟨g5,g6,g7,g8⟩:=gB;obtain⟨g9,g10⟩:=gC;obtain⟨g11,g12,g13,g14,g15⟩:=gD;cases same;all_goals
      (have zz:=aI @c1.r (aI @Ca.r (aI @Cb.r C.r));(repeat'(first|apply jc<;>intro _|simp(disch:=first|exact jT|fail) only[ja i2,ja i4,ja i19,ja i20,ja i21,ja i23,g1,g2,g3,g4,g5,g6,g7,g8,g9,g10,g11,g12,g13,g14,g15,c1.q,Ca.q,Cb.q,C.q,c1.r,Ca.r,Cb.r,C.r,r8,δ,ε,ζ,η,θ]));all_goals clear zz)
      all_goals
       refine D (own:=⟨2,[],0,0⟩) ?_ C (Has.here _ _ _) ?_ ?_ ?_
       ·repeat' first|exact S|(refine EX6.push ?_ dc)
       ·simp(disch:=decide) only[jb];exact i23
       ·simp[*]
       ·simp[*]
end Go.Sy
end
noncomputable section
set_option maxRecDepth 100000
namespace Go.Sy
open Go.Ev Go.Proofs
variable {base:Bs}
set_option maxHeartbeats 8000000 in
theorem jp1 (hb:NB base){x:Ex}{ys:List Ex}{ms:List MtT}{vk:AV}{hi bm:Nat}{L:Sl}{s:St}{fm:Bool}(S:EX6 x ys vk hi L s)(C:Cl s bm (fl mtE ms))(hm:bm<hi)(hn:0<ms.length)(hl:ms.length<=1000000)
  (i2:Has L 2 (.bool fm)) (i13:Has L 13 (.slice bm 0 ms.length ms.length 4 false)) {r:KR (Ex×MtT)}
  (hr:r=WD fm x.op x.num x.name x.line x.col ys (ms.getD 0 mt0) (ms.getD (ms.length - 1) mt0)):xC γ base jax L s (rxQ r) (rxP r):=by
 have q0:rats s.h bm 0 4=mtE ms[0]:=by
  rw[C.ratsP 4 0 (by rw[zy JO];omega)];exact gP (i:=0) JO hn
 have q1:rats s.h bm ((ms.length - 1) * 4) 4=mtE (ms[ms.length - 1]'(om)):=by
  rw[C.ratsP 4 _ (by rw[zy JO];omega)];exact gP JO om
 have q2:qu s.h bm=ms.length * 4:=by rw[C.len,zy JO]
 rw[Qap,Qaj hn,Qap,Qaj (show ms.length - 1<ms.length by omega)] at hr;dsimp only[QaJ] at hr;generalize ms[0]=a at *;generalize ms[ms.length - 1]'(_)=b at *;have nx:=S.nx;have n7:=S.n7;have hbn:=C.lt;have e1:((ms.length:Int) - 1).toNat=ms.length - 1:=om
 obtain⟨t1,h1⟩:∃ t,t=wr (nw s [.int .i64 0,.str [],.int .i64 0,.int .i64 0]) s.nx 0 (mtE a):=⟨_,rfl⟩;obtain⟨t2,h2⟩:∃ t,t=wr (nw t1 [.int .i64 0,.str [],.int .i64 0,.int .i64 0]) (s.nx+1) 0 (mtE b):=⟨_,rfl⟩;obtain⟨t3,h3⟩:∃ t,t=wr (nw t2 [.int .i64 0,.str [],.int .i64 0,.int .i64 0]) (s.nx+1+1) 0 [.int .i64 2,.str [],.int .i64 0,.int .i64 0]:=⟨_,rfl⟩;have n1:t1.nx=s.nx+1:=by rw[h1,jh,jg]
 have n2:t2.nx=s.nx+1+1:=by rw[h2,jh,jg,n1]
 have S1:EX6 x ys vk hi L t1:=by rw[h1];exact(S.nw _).wr nx
 have S2:EX6 x ys vk hi L t2:=by rw[h2];exact(S1.nw _).wr om
 have S3:EX6 x ys vk hi L t3:=by rw[h3];exact(S2.nw _).wr om
 have A1:Cl t1 s.nx (mtE a):=by rw[h1];exact(Cl.new s [.int .i64 0,.str [],.int .i64 0,.int .i64 0]).wr0 rfl
 have A2:Cl t2 s.nx (mtE a):=by rw[h2];exact(A1.nw _).wrO om _ _
 have A3:Cl t3 s.nx (mtE a):=by rw[h3];exact(A2.nw _).wrO om _ _
 have B2:Cl t2 (s.nx+1) (mtE b):=by rw[h2,<-n1];exact(Cl.new t1 [.int .i64 0,.str [],.int .i64 0,.int .i64 0]).wr0 rfl
 have B3:Cl t3 (s.nx+1) (mtE b):=by rw[h3];exact(B2.nw _).wrO om _ _
 have D3:Cl t3 (s.nx+1+1) [.int .i64 2,.str [],.int .i64 0,.int .i64 0]:=by rw[h3,<-n2];exact(Cl.new t2 [.int .i64 0,.str [],.int .i64 0,.int .i64 0]).wr0 rfl
 rw[(by unfold jax;simp only[qq];rfl:jax=_)]
 (have zz:=aI @q0 (aI @q1 @q2);(repeat'(first|apply jc<;>intro _|simp(disch:=first|exact jT|fail) only[ja i13,e1,q0,q1,q2,r8,δ,ε,ζ,η,θ]));all_goals clear zz)
 all_goals
  rw[<-h1,<-h2,<-h3];refine jp0 hb (vk:=vk) (p:=s.nx+1+1) (pa:=s.nx) (pb:=s.nx+1) (fm:=fm) (hi:=hi) (a:=a) (b:=b) (((((S3.push dc).push dc).push dc).push dc).push dc) D3 om A3 B3 om om ?_ ?_ ?_ ?_ ?_ hr;all_goals clear S S1 S2 S3 A1 A2 A3 B2 B3 D3 C hr q0 q1 q2 h1 h2 h3 e1
  all_goals first
   |(simp(disch:=decide) only[jb];assumption)
   |(simp(disch:=decide) only[jb,jf];done)
   |(simp(disch:=decide) only[jb];simp[*];exact Has.here _ _ _)
end Go.Sy
end
noncomputable section
set_option maxRecDepth 100000
namespace Go.Sy
open Go.Ev Go.Proofs
variable {base:Bs}
structure EL (m:ModT)(x:Ex)(fm:Bool)(ys:List Ex)(ms:List MtT)(vk vm wm:AV)(hi:Nat)(L:Sl)(s:St):Prop where
 e:EX6 x ys vk hi L s
 c0:Cl s 0 (mdE m)
 lm:Lv 7 hi s wm ms.length (fl mtE ms) 4
 le:vm=wm\/(wm=.nils/\vm=.slice 6 0 0 0 4 true/\Cl s 6 [])
 df:Df vk wm
 i2:Has L 2 (.bool fm)
 i3:Has L 3 (.ptr 0 0)
 i13:Has L 13 vm
section
variable {m:ModT} {x:Ex} {fm:Bool} {ys:List Ex} {ms:List MtT} {vk vm wm:AV} {hi:Nat} {L:Sl} {s:St}
theorem EL.nw (S:EL m x fm ys ms vk vm wm hi L s)(ds:List AV):EL m x fm ys ms vk vm wm hi L (Go.Sy.nw s ds):=by
 obtain⟨e,c0,lm,le,df,i2,i3,i13⟩:=S;exact⟨e.nw ds,c0.nw _,by rw[jE e.nx];exact lm,le.imp id λ⟨a,b,C⟩=>⟨a,b,C.nw _⟩,df,i2,i3,i13⟩
theorem EL.wr (S:EL m x fm ys ms vk vm wm hi L s){c o:Nat}{ds:List AV}(hc:hi<=c):EL m x fm ys ms vk vm wm hi L (Go.Sy.wr s c o ds):=by
 obtain⟨e,c0,lm,le,df,i2,i3,i13⟩:=S;have:=e.n7;exact⟨e.wr hc,c0.wrO om _ _,by rw[jz (.inr hc)];exact lm,le.imp id λ⟨a,b,C⟩=>⟨a,b,C.wrO om _ _⟩,df,i2,i3,i13⟩
theorem EL.push (S:EL m x fm ys ms vk vm wm hi L s){c:Nat}{v:AV}(h:(c≠4/\c≠6/\c≠7/\c≠8/\c≠12)/\c≠2/\c≠3/\c≠13):EL m x fm ys ms vk vm wm hi ((c,v) :: L) s:=by
 obtain⟨e,c0,lm,le,df,i2,i3,i13⟩:=S;exact⟨e.push h.1,c0,lm,le,df,by rw[jb h.2.1];exact i2,by rw[jb h.2.2.1];exact i3,by rw[jb h.2.2.2];exact i13⟩
theorem EL.kid (S:EL m x fm ys ms vk vm wm hi L s)(y:Ex):EL m x fm (ys ++ [y]) ms (apv 6 vk s) vm wm (s.nx+1) L (Go.Sy.wr (Go.Sy.aps vk s (eE y)) 5 3 [apv 6 vk s]):=by
 obtain⟨⟨n7,nx,c1,c2,c3,c4,c5,lk,i4,i6,i7,i8,i12⟩,c0,lm,le,df,i2,i3,i13⟩:=S;have hn:(Go.Sy.wr (Go.Sy.aps vk s (eE y)) 5 3 [apv 6 vk s]).nx=s.nx+1:=by rw[jh,jm]
 have cq:∀ c ds,Cl s c ds->c<7->c≠5->Cl (Go.Sy.wr (Go.Sy.aps vk s (eE y)) 5 3 [apv 6 vk s]) c ds:=λc ds C h h3=>by
  rw[jB h3,lk.cl s (eE y) ds c (.inl h) om];exact C
 refine⟨⟨om,om,cq _ _ c1 om om,cq _ _ c2 om om,cq _ _ c3 om om,cq _ _ c4 om om,?_,?_,i4,i6,i7,i8,i12⟩,cq _ _ c0 om om,?_,le.imp id λ⟨a,b,C⟩=>⟨a,b,cq _ _ C om om⟩,(Df.put lm nx).1,i2,i3,i13⟩
 ·have:=(cast (lk.cl s (eE y) _ 5 (.inl om) om).symm c5:Cl (Go.Sy.aps vk s (eE y)) 5 _);exact this.wr 3 [apv 6 vk s]
 ·rw[jz (.inl om),φ,Qn,JJ];exact lk.put (zT y) om rfl
 ·rw[jz (.inl om)];exact(lm.apsD df).up om
theorem EL.mt (S:EL m x fm ys ms vk vm wm hi L s)(t:MtT):EL m x fm ys (ms ++ [t]) vk (apv 4 wm s) (apv 4 wm s) (s.nx+1) ((13,apv 4 wm s) :: L) (Go.Sy.aps wm s (mtE t)):=by
 obtain⟨⟨n7,nx,c1,c2,c3,c4,c5,lk,i4,i6,i7,i8,i12⟩,c0,lm,le,df,i2,i3,i13⟩:=S;have hn:(Go.Sy.aps wm s (mtE t)).nx=s.nx+1:=by rw[jm]
 have cq:∀ c ds,Cl s c ds->c<7->Cl (Go.Sy.aps wm s (mtE t)) c ds:=λc ds C h=>by
  rw[lm.cl s (mtE t) ds c (.inl h) om];exact C
 refine⟨⟨om,om,cq _ _ c1 om,cq _ _ c2 om,cq _ _ c3 om,cq _ _ c4 om,cq _ _ c5 om,(lk.apsD (Df.symm df)).up om,?_,?_,?_,?_,?_⟩,cq _ _ c0 om,?_,.inl rfl,(Df.put lk nx).2,?_,?_,by rw[jf];trivial⟩;all_goals first
  |(rw[jb dc];assumption)
  |skip
 rw[φ,Qn,JJ];exact lm.put (JO t) om rfl
theorem EL.lx (S:EL m x fm ys ms vk vm wm hi L s):Lx 6 hi s vm wm ms.length (fl mtE ms) 4:=⟨S.lm.low om,S.le.imp id λ⟨a,b,C⟩=>⟨a,6,b,C,τ _,by have:=S.e.n7;omega⟩⟩
end
def RE (base:Bs)(m:ModT)(x:Ex):Prop:=∀ fm,Tot base 14 [.agg (mdE m),.agg (eE x),.bool fm] (rxV (zq m.vars m.enums fm x))
set_option maxHeartbeats 16000000 in
theorem jp2 (hb:NB base){m:ModT}{x:Ex}{fm:Bool}{vm:AV}{hi:Nat}{L:Sl}{s:St}(ih:∀ k∈x.kids,RE base m k)(hk0:x.kids≠[])(hw:x.kids.length<=1000000)(S:EL m x fm [] [] .nils vm .nils hi L s){r:KR (Ex×MtT)}
  (hr:r=match qM m.vars m.enums (fm && decide (x.op≠17) && decide (x.op≠18)) x.kids with
   |.er a b d=>.er a b d
   |.ok r=>WD fm x.op x.num x.name x.line x.col r.1 (r.2.getD 0 mt0) (r.2.getD (r.2.length - 1) mt0)):xC γ base jay L s (rxQ r) (rxP r):=by
 have c1:=S.e.c1;have i4:=S.e.i4;rw[(by unfold jay;simp only[qq];rfl:jay=_)]
 (have zz:=@c1.r;(repeat'(first|apply jc<;>intro _|simp(disch:=first|exact jT|fail) only[ja i4,c1.q,c1.r,r8,δ,ε,ζ,η,θ]));all_goals clear zz)
 obtain⟨fm2,hf2⟩:∃ b,b=(fm && decide (x.op≠17) && decide (x.op≠18)):=⟨_,rfl⟩;rw[<-hf2] at hr;have h3:(fm=false/\fm2=false/\True)\/(fm=true/\fm2=false/\x.op=17)\/(fm=true/\fm2=decide (¬ x.op=18)/\¬ x.op=17):=by
  rw[hf2];cases fm<;>by_cases h:x.op=17<;>simp[h]
 refine qg x.kids.length (λk L s=>∃ ys ms vk vm wm hi,EL m x fm ys ms vk vm wm hi L s/\qM m.vars m.enums fm2 (x.kids.take k)=.ok (ys,ms)/\Has L 82 (.lst x.kids.length (fl eE x.kids))) (by first|assumption|omega) dc (by simp(disch:=decide) only[jf,jb]) (by simp(disch:=decide) only[jf,jb]) ?_ (λk L s v h=>(by obtain⟨ys,ms,vk,vm,wm,hi,h1,h2,h3⟩:=h;exact⟨ys,ms,vk,vm,wm,hi,h1.push dc,h2,by simp(disch:=decide) only[jb];exact h3⟩)) (λk L s v h=>(by obtain⟨ys,ms,vk,vm,wm,hi,h1,h2,h3⟩:=h;exact⟨ys,ms,vk,vm,wm,hi,h1.push dc,h2,by simp(disch:=decide) only[jb];exact h3⟩)) (λk L s hk hI hi hn=>?_) (λL s hI=>?_)
 ·refine⟨[],[],.nils,vm,.nils,hi,((S.push dc).push dc).push dc,by rw[QaF,qM],?_⟩;simp(disch:=decide) only[jb,jf]
 ·rename_i hi0 _;obtain⟨ys,ms,vk,vm,wm,hb2,S,he,j82⟩:=hI;have n7:=S.e.n7;have nx:=S.e.nx;have c0:=S.c0;have c1:=S.e.c1;have c2:=S.e.c2;have c3:=S.e.c3;have c4:=S.e.c4;have c5:=S.e.c5;have j2:=S.i2;have j3:=S.i3;have j4:=S.e.i4;have j6:=S.e.i6;have j7:=S.e.i7;have j8:=S.e.i8;have j12:=S.e.i12;have j13:=S.i13;have E:=ih x.kids[k] (Qad hk) fm2;have hlen:=WE he;rw[Qan,Qbh om] at hlen;unfold z6 at c2;unfold z4 at c3;cases hx:zq m.vars m.enums fm2 x.kids[k] with
  |er a b d=>
   rw[hx] at E;have E:Tot base 14 [.agg (mdE m),.agg (eE x.kids[k]),.bool fm2] (.tup [.agg (eE (.mk 0 0 [] [] 0 0)),.agg (mtE mt0),.agg [.int .i64 a,.int .i64 b,.int .i64 d]]):=E;have e:qM m.vars m.enums fm2 x.kids=.er a b d:=by
    have:=Ho (x.kids.drop (k+1)) he hx;rwa [Qby,Qbg] at this
   have ha:=WG hx;have N:=jh6 hb a b d;rw[decide_eq_false (λh=>ha h.1)] at N;unfold mdE at E;rw[e] at hr;dsimp only at hr;rcases h3 with ⟨rfl,e2,g⟩|⟨rfl,e2,g⟩|⟨rfl,e2,g⟩
   all_goals
    rw[e2] at E
    (have zz:=aI @c0.r (aI @c1.r (aI @c2.r (aI @c3.r @c4.r)));(repeat'(first|apply jc<;>intro _|simp(disch:=first|exact jT|fail) only[ja j2,ja j3,ja j4,ja j82,ja hi,ja hn,g,E,Yg,Yf,Ye,N,Yx,ja j6,ja j7,ja j8,c0.q,c1.q,c2.q,c3.q,c4.q,c0.r,c1.r,c2.r,c3.r,c4.r,r8,δ,ε,ζ,η,θ]));all_goals clear zz)
    unfold jbz
    (have zz:=aI @c0.r (aI @c1.r (aI @c2.r (aI @c3.r @c4.r)));(repeat'(first|apply jc<;>intro _|simp(disch:=first|exact jT|fail) only[ja j6,ja j7,ja j8,c0.q,c1.q,c2.q,c3.q,c4.q,c0.r,c1.r,c2.r,c3.r,c4.r,r8,δ,ε,ζ,η,θ]));all_goals clear zz)
    exact KN rfl hr
  |ok w=>
   obtain⟨y,t⟩:=w;rw[hx] at E;have E:Tot base 14 [.agg (mdE m),.agg (eE x.kids[k]),.bool fm2] (.tup [.agg (eE y),.agg (mtE t),.agg [.int .i64 0,.int .i64 0,.int .i64 0]]):=E;have he':qM m.vars m.enums fm2 (x.kids.take (k+1))=.ok (ys ++ [y],ms ++ [t]):=by
    rw[yw hk];exact Hn he hx
   have N:=jh6 hb 0 0 0;rw[decide_eq_true ⟨rfl,rfl,rfl⟩] at N;unfold mdE at E;obtain⟨t1,h1⟩:∃ u,u=wr (nw s [.int .i64 0,.int .i64 0,.str [],.nils,.int .i64 0,.int .i64 0]) s.nx 0 (eE x.kids[k]):=⟨_,rfl⟩;obtain⟨t2,h2⟩:∃ u,u=wr (wr (wr (nw (nw (nw t1 [.int .i64 0,.int .i64 0,.str [],.nils,.int .i64 0,.int .i64 0]) [.int .i64 0,.str [],.int .i64 0,.int .i64 0]) [.int .i64 0,.int .i64 0,.int .i64 0]) (s.nx+1) 0 (eE y)) (s.nx+1+1) 0 (mtE t)) (s.nx+1+1+1) 0 [.int .i64 0,.int .i64 0,.int .i64 0]:=⟨_,rfl⟩;have n1:t1.nx=s.nx+1:=by rw[h1,jh,jg]
   have n2:t2.nx=s.nx+1+1+1+1:=by rw[h2,jh,jh,jh,jg,jg,jg,n1]
   have SP:=((((S.push (c:=15) (v:=.ptr s.nx 0) dc).push (c:=16) (v:=.ptr (s.nx+1) 0) dc).push (c:=17) (v:=.ptr (s.nx+1+1) 0) dc).push (c:=18) (v:=.ptr (s.nx+1+1+1) 0) dc).push (c:=108) (v:=.bool false) dc;have S1:=(SP.nw [.int .i64 0,.int .i64 0,.str [],.nils,.int .i64 0,.int .i64 0]).wr (c:=s.nx) (o:=0) (ds:=eE x.kids[k]) nx;rw[<-h1] at S1;have S2:=(((((S1.nw [.int .i64 0,.int .i64 0,.str [],.nils,.int .i64 0,.int .i64 0]).nw [.int .i64 0,.str [],.int .i64 0,.int .i64 0]).nw [.int .i64 0,.int .i64 0,.int .i64 0]).wr (c:=s.nx+1) (o:=0) (ds:=eE y) om).wr (c:=s.nx+1+1) (o:=0) (ds:=mtE t) om).wr (c:=s.nx+1+1+1) (o:=0) (ds:=[.int .i64 0,.int .i64 0,.int .i64 0]) om;rw[<-h2] at S2;have S3:=S2.nw (eE y);have S4:=S3.kid y;have S5:=S4.nw (mtE t);have A1:=λst bv xc xx K h hv=>@J2 7 hb2 ys.length 6 st vk (fl eE ys) K 72 bv xc xx h dc om om hv;have A2:=λbv xc xx K hv=>@jds 6 _ ms.length 4 40 bv xc _ vm wm (fl mtE ms) xx K S5.lx dc om om hv;have S6:=S5.mt t;rw[h2,h1] at A2 S6;have lk:=S.e.lk;rcases h3 with ⟨rfl,e2,g⟩|⟨rfl,e2,g⟩|⟨rfl,e2,g⟩
   all_goals
    rw[e2] at E
    (have zz:=aI @lk.ln (aI @lk.rts (aI @jz (aI @jE (aI @lk (aI @jA (aI @jI (aI @jK (aI @c0.r (aI @c1.r (aI @c2.r (aI @c3.r (aI @c4.r @c5.r))))))))))));(repeat'(first|apply jc<;>intro _|simp(disch:=first|exact jT|fail) only[ja j2,ja j3,ja j4,ja j12,ja j13,ja j82,ja hi,ja hn,g,E,Yg,Yf,Ye,N,A1,A2,lk.at,jA,c0.q,c1.q,c2.q,c3.q,c4.q,c5.q,lk.ln,lk.rts,jz,jE,lk,jA,jI,jK,c0.r,c1.r,c2.r,c3.r,c4.r,c5.r,r8,δ,ε,ζ,η,θ]));all_goals clear zz)
    refine⟨⟨_,_,_,_,_,_,S6,he',?_⟩,?_,?_⟩;all_goals(simp(disch:=decide) only[jb];assumption)
 ·obtain⟨ys,ms,vk,vm,wm,hi,S,he,j82⟩:=hI;rw[Qag] at he;rw[he] at hr;have hlen:=WE he;have hpos:0<x.kids.length:=by
   cases hc:x.kids with
   |nil=>exact absurd hc hk0
   |cons _ _=>simp
  have V:=S.lm;have i13:=S.i13;rcases V with ⟨_,h0,_⟩|⟨b,rfl,h0,_,C,hb1,hb2⟩
  ·omega
  ·rcases S.le with rfl|⟨h,_⟩
   ·exact jp1 hb S.e C hb2 om om S.i2 i13 hr
   ·cases h
theorem jfC (vars:List VarT)(enums:List EnumT)(s:List Nat):∃ op num,(Y1 vars enums s).1=.mk op num [] [] 0 0:=by
 unfold Y1;split
 ·exact⟨_,_,rfl⟩
 ·split<;>exact⟨_,_,rfl⟩
set_option maxHeartbeats 16000000 in
theorem je3 (hb:NB base)(m:ModT)(hv:m.vars.length<=1000000)(he:m.enums.length<=1000000)(hv2:∀ e∈m.enums,e.vals.length<=1000000):∀ x:Ex,kdB x=true->RE base m x:=by
 refine Ex.indk λx ih hx=>?_;intro fm;refine hb.tot ?_ (by simp[pa,pc,Q7,qS]) rfl;obtain⟨r,hr⟩:∃ r,r=zq m.vars m.enums fm x:=⟨_,rfl⟩;have hd:=hr;rw[jkO] at hd;rw[jio] at hx;simp only[Qaa,Qav,decide_eq_true_eq,Qai] at hx;rw[<-hr];have N:=jqh hb m hv he hv2 x.name;have F:=jeI hb;refine jF jsJ (by rfl) (hb.pur 14 1 dc) ?_;simp only[jbz,ju,κ,μ,ν,ξ];rw[(by unfold jjE;simp only[qq];rfl:jjE=_)];by_cases g1:x.op=1
 ·rw[if_pos g1] at hd
  (have zz:=@ya;(repeat'(first|apply jc<;>intro _|simp(disch:=first|exact jT|fail) only[g1,sm2,ya,r8,δ,ε,ζ,η,θ]));all_goals clear zz)
  exact jaN (FzsD.pc (qS x)) rfl hd
 ·by_cases g2:x.op=2
  ·rw[if_neg g1,if_pos g2] at hd;repeat'(first|apply jc<;>intro _|simp(disch:=first|exact dzG|fail) only[g1,g2,r8,δ,ε,ζ,η,θ])
   exact jaN (FzsD.pc (qS x)) rfl hd
  ·by_cases g3:x.op=3
   ·rw[if_neg g1,if_neg g2,if_pos g3] at hd;unfold jb1 at hd;obtain⟨op',num',hl⟩:=jfC m.vars m.enums x.name;generalize Y1 m.vars m.enums x.name=nm at N hd hl;obtain⟨y,⟨tk,te,tl,th⟩,q⟩:=nm;dsimp only at hl;subst hl;dsimp only at hd;have eL:eE (.mk op' num' [] [] 0 0)=[.int .i64 op',.int .i64 num',.str [],.lst 0 [],.int .i64 0,.int .i64 0]:=rfl;unfold rnV at N;dsimp only at N;rw[eL] at N;unfold mtE at N;cases q with
    |false=>
     rw[if_pos rfl] at hd;repeat'(first|apply jc<;>intro _|simp(disch:=first|exact dzG|fail) only[g1,g2,g3,N,Yg,Yf,Ye,F,r8,δ,ε,ζ,η,θ])
     exact KN rfl hd
    |true=>
     rw[if_neg dc] at hd;repeat'(first|apply jc<;>intro _|simp(disch:=first|exact dzG|fail) only[g1,g2,g3,N,Yg,Yf,Ye,F,jkG,r8,δ,ε,ζ,η,θ])
     exact jaN (y:=.mk op' num' [] [] x.line x.col) (m:=⟨tk,te,tl,th⟩) (FzsD.pc rfl) rfl hd
   ·rw[if_neg g1,if_neg g2,if_neg g3] at hd;have hx3:x.kids≠[]:=hx.1.1.resolve_left (λh=>h.elim g1 λh=>h.elim g2 g3);have e:∃ L s,EL m x fm [] [] .nils (.slice 6 0 0 0 4 true) .nils 7 L s/\L=[(13,.slice 6 0 0 0 4 true),(12,.ptr 5 0),(42,.bool (decide False)),(36,.bool (decide False)),(26,.bool (decide False)),(8,.ptr 4 0),(7,.ptr 3 0),(6,.ptr 2 0),(4,.ptr 1 0),(3,.ptr 0 0),(0,.agg (mdE m)),(1,.agg (eE x)),(2,.bool fm)]/\s=nw (wr (nw (nw (nw (nw (nw (nw st0 (mdE m)) (eE x)) [.int .i64 0,.int .i64 0,.str [],.nils,.int .i64 0,.int .i64 0]) [.int .i64 0,.str [],.int .i64 0,.int .i64 0]) [.int .i64 0,.int .i64 0,.int .i64 0]) [.int .i64 0,.int .i64 0,.str [],.nils,.int .i64 0,.int .i64 0]) 5 0 [.int .i64 x.op,.int .i64 x.num,.str x.name,.nils,.int .i64 x.line,.int .i64 x.col]) []:=by
     refine⟨_,_,⟨⟨dc,by(first|omega|(simp only[jg,jh,jt,jm,jl];first|done|omega)),by(first|exact cyG|fail),by unfold z6;(first|exact cyG|fail),by unfold z4;(first|exact cyG|fail),by(first|exact cyG|fail),by(first|exact cyG|fail),Lv.nil,?_,?_,?_,?_,?_⟩,by(first|exact cyG|fail),Lv.nil,.inr ⟨rfl,rfl,?_⟩,?_,?_,?_,?_⟩,rfl,rfl⟩;all_goals first
      |(simp(disch:=decide) only[jb,jf];done)
      |trivial
      |exact Cl.new (wr (nw (nw (nw (nw (nw (nw st0 (mdE m)) (eE x)) [.int .i64 0,.int .i64 0,.str [],.nils,.int .i64 0,.int .i64 0]) [.int .i64 0,.str [],.int .i64 0,.int .i64 0]) [.int .i64 0,.int .i64 0,.int .i64 0]) [.int .i64 0,.int .i64 0,.str [],.nils,.int .i64 0,.int .i64 0]) 5 0 _) []
    obtain⟨L,s,E,hL,hs⟩:=e;repeat'(first|apply jc<;>intro _|simp(disch:=first|exact dzG|fail) only[g1,g2,g3,r8,δ,ε,ζ,η,θ])
    rw[<-hL,<-hs];exact jp2 hb (λk hk=>ih k hk (hx.2 k hk)) hx3 (by have:=hx.1.2;omega) E hd
mutual
def tmB:Ex->Bool
 |.mk op _ _ ks _ _=>zn op ||Wv ks
def Wv:List Ex->Bool
 |[]=>false
 |x :: xs=>tmB x ||Wv xs
end
structure RvX (vars:List VarT)(s:List Int)(x y:Ex)(t:MtT):Prop where
 non:tmB x=true->qe s y=none
 som:tmB x=false->∃ n,qe s y=some n/\JR s y=n/\(t.kind=2->zY n)
 nb:WS vars.length y=true
 sz:szE y<=szE x
theorem Hk {op:Int}{a b:MtT}(h:(Z6 op a b).kind=2):clA op=false:=by
 unfold Z6 at h;cases hc:clA op with
 |false=>rfl
 |true=>rw[hc,if_pos rfl] at h;cases h
theorem UH {fm:Bool}{op num:Int}{name:List Nat}{l c:Int}{ys:List Ex}{a b:MtT}{y:Ex}{t:MtT}(h:WD fm op num name l c ys a b=.ok (y,t)):y=.mk op num name ys l c/\t=Z6 op a b/\rok fm op a b=true:=by
 unfold WD at h;split at h
 ·cases h
 ·rename_i h1;split at h
  ·cases h
  ·cases h;exact⟨rfl,rfl,by cases hr:rok fm op a b<;>simp_all⟩
theorem Gy {s:List Int}{op num:Int}{name:List Nat}{l c:Int}{y:Ex}:qe s (.mk op num name [y] l c)=match qe s y with|none=>none|some n=>opV s op num [n]:=by
 rw[qe,qm,qm];cases qe s y<;>rfl
theorem UA {s:List Int}{op num:Int}{name:List Nat}{l c:Int}{y z:Ex}:qe s (.mk op num name [y,z] l c)=match qe s y with|none=>none|some a=>(match qe s z with|none=>none|some b=>vv op a b):=by
 rw[qe,qm,qm,qm];cases qe s y with
 |none=>rfl
 |some a=>
  cases qe s z with
  |none=>rfl
  |some b=>simp[opV]
theorem jp4 {s:List Int}{op num:Int}{name:List Nat}{l c:Int}{y:Ex}(h:op≠4):JR s (.mk op num name [y] l c)=QE op (JR s y) (JR s y):=by
 rw[JR,if_neg h,if_neg (by simp)];rfl
theorem jp3 {s:List Int}{op num:Int}{name:List Nat}{l c:Int}{y z:Ex}(h:op≠4):JR s (.mk op num name [y,z] l c)=QE op (JR s y) (JR s z):=by
 rw[JR,if_neg h,if_neg (by simp)];rfl
theorem jfK {s:List Int}{op num n:Int}:opV s op num [n]=if op=5 then some (wq (-n)) else if op=6 then some (wq (1 - n)) else none:=by
 simp[opV]
set_option maxHeartbeats 2000000 in
theorem Hp {vars:List VarT}{enums:List EnumT}(hv:YG vars){s:List Int}(hs:JH vars s=true):∀ (x:Ex) (fm:Bool) (y:Ex) (t:MtT),wkB x=true->zq vars enums fm x=.ok (y,t)->RvX vars s x y t:=by
 refine Ex.indk λx ih=>?_;intro fm y t hx h;obtain⟨op,num,name,ks,l,c⟩:=x;have hx0:=hx;rw[wkB] at hx0;simp only[Qaa,decide_eq_true_eq] at hx0;obtain⟨⟨hk,hleaf⟩,hks⟩:=hx0;have nk:(op=1\/op=2\/op=3\/op=4)->ks=[]:=λho=>by
  unfold zx at hk;rw[if_pos om] at hk;exact QaN om
 rw[zq] at h;by_cases g1:op=1
 ·rw[if_pos g1] at h;cases h;have e:=nk (.inl g1);subst e g1;refine⟨λh=>by simp[tmB,Wv,zn] at h,λ_=>⟨num,by simp[qe,qm,opV],by simp[JR],λh=>by simp at h⟩,by simp[WS,Y4],τ _⟩
 rw[if_neg g1] at h;by_cases g2:op=2
 ·rw[if_pos g2] at h;cases h;have e:=nk (.inr (.inl g2));subst e g2;refine⟨λh=>by simp[tmB,Wv,zn] at h,λ_=>⟨num,by simp[qe,qm,opV],by simp[JR],λ_=>?_⟩,by simp[WS,Y4],τ _⟩;simp at hleaf;unfold zY;omega
 rw[if_neg g2] at h;by_cases g3:op=3
 ·rw[if_pos g3] at h;have e:=nk (.inr (.inr (.inl g3)));subst e g3;have htm:tmB (.mk 3 num name [] l c)=false:=by simp[tmB,Wv,zn]
  have hsz:∀ o n,szE (.mk o n [] [] l c)<=szE (.mk 3 num name [] l c):=λo n=>by rw[zZ,zZ];simp[Ex.name,Ex.kids]
  unfold jb1 Y1 at h;by_cases h2:0<=jV vars name
  ·simp only[if_pos h2] at h;rw[if_neg (by simp)] at h;cases h;have hlt:jV vars name<(vars.length:Int):=Zb;have hlt2:(jV vars name).toNat<vars.length:=om
   obtain⟨r1,r2⟩:=kQ hs;have r2:=r2 _ hlt2;refine⟨(λh=>by rw[htm] at h;cases h),λ_=>⟨s.getD (jV vars name).toNat 0,?_,by simp[JR,Ex.op,Ex.num],λhk2=>?_⟩,?_,hsz _ _⟩
   ·have hlt3:jV vars name<(s.length:Int):=by rw[r1];exact hlt
    simp only[qe,qm,opV,Ex.op,Ex.num];rw[if_neg (by simp),if_pos ⟨by simp,by simp,h2,hlt3⟩]
   ·have hm:vars.getD (jV vars name).toNat ⟨[],0,[],0,0,false,0⟩∈vars:=by
     rw[Qap,Qaj hlt2];exact Qad hlt2
    have:=hv _ hm hk2;unfold zY;omega
   ·rw[kV];simp[Ex.op,Ex.num,Ex.kids,Y4];exact⟨decide_eq_false om,decide_eq_false om⟩
  ·simp only[if_neg h2] at h;by_cases h4:(yv enums name).2<0
   ·simp only[if_pos h4] at h;simp at h
   ·simp only[if_neg h4] at h;rw[if_neg (by simp)] at h;cases h;refine⟨(λh=>by rw[htm] at h;cases h),λ_=>⟨(yv enums name).2,by simp[qe,qm,opV,Ex.op,Ex.num],by simp[JR,Ex.op,Ex.num],λh=>by simp at h⟩,by simp[WS,Y4,Ex.op],hsz _ _⟩
 rw[if_neg g3] at h;have hk4:zx op=if op=4 then 0 else zx op:=by
  split
  ·rename_i e;subst e;rfl
  ·rfl
 cases ks with
 |nil=>
  exfalso;have h4:op=4:=by
   unfold zx at hk;simp only[χ] at hk;repeat' split at hk
   all_goals omega
  subst h4;simp only[qM] at h;obtain⟨_,_,h3⟩:=UH h;simp[rok,clA,clB,clC,clD,mt0] at h3
 |cons k1 ks=>
  have w1:wkB k1=true:=by rw[Zn,Qaa] at hks;exact hks.1
  cases ks with
  |nil=>
   have h13:5<=op/\op<=13:=by
    unfold zx at hk;simp only[υ,χ] at hk;repeat' split at hk
    all_goals omega
   simp only[qM] at h;cases hr1:zq vars enums (fm && decide (op≠17) && decide (op≠18)) k1 with
   |er a b d=>rw[hr1] at h;cases h
   |ok w1'=>
    obtain⟨y1,t1⟩:=w1';rw[hr1] at h;obtain⟨rfl,rfl,h3⟩:=UH h;have I:=ih k1 (by simp[Ex.kids]) _ y1 t1 w1 hr1;clear h
    replace h3:rok fm op t1 t1=true:=h3
    show RvX vars s (.mk op num name [k1] l c) (.mk op num name [y1] l c) (Z6 op t1 t1);have hn:=I.nb;have hz:=I.sz;have tm:tmB (.mk op num name [k1] l c)=(zn op ||tmB k1):=by simp[tmB,Wv]
    refine⟨λh=>?_,λh=>?_,?_,?_⟩
    ·rw[tm,Qav] at h;rw[Gy];cases hs1:qe s y1 with
     |none=>rfl
     |some n=>
      rcases h with h|h
      ·dsimp only;rw[jfK,if_neg (by rintro rfl;cases h),if_neg (by rintro rfl;cases h)]
      ·rw[I.non h] at hs1;cases hs1
    ·rw[tm,Qbj] at h;obtain⟨n,e1,e2,e3⟩:=I.som h.2;have hop:op=5\/op=6:=by
      have:=h.1;unfold zn at this;simp at this;omega
     rw[Gy,e1,jp4 om,e2];dsimp only;rw[jfK];rcases hop with rfl|rfl
     ·exact⟨_,if_pos rfl,by simp[QE],λh=>by have:=Hk h;cases this⟩
     ·have hb:zY n:=e3 (by simp[rok,clA,clB,clC,clD] at h3;exact h3);rw[if_neg dc,if_pos rfl];refine⟨_,rfl,?_,λ_=>?_⟩
      ·rcases hb with rfl|rfl<;>decide
      ·rcases hb with rfl|rfl
       ·exact .inr jtu
       ·exact .inl jtt
    ·rw[kV];simp[Ex.op,Ex.kids,Y4,hn,g3];exact .inl (decide_eq_false om)
    ·rw[zZ,zZ];simp[Ex.name,Ex.kids,yz];exact hz
  |cons k2 ks=>
   have h14:14<=op/\op<=30/\ks=[]:=by
    unfold zx at hk;simp only[υ] at hk;repeat' split at hk
    all_goals first|omega|exact⟨om,om,QaN om⟩
   obtain⟨ho1,ho2,rfl⟩:=h14;have w2:wkB k2=true:=by rw[Zn,Qaa,Zn,Qaa] at hks;exact hks.2.1
   simp only[qM] at h;cases hr1:zq vars enums (fm && decide (op≠17) && decide (op≠18)) k1 with
   |er a b d=>rw[hr1] at h;cases h
   |ok w1'=>
    obtain⟨y1,t1⟩:=w1';rw[hr1] at h;cases hr2:zq vars enums (fm && decide (op≠17) && decide (op≠18)) k2 with
    |er a b d=>rw[hr2] at h;cases h
    |ok w2'=>
     obtain⟨y2,t2⟩:=w2';rw[hr2] at h;obtain⟨rfl,rfl,h3⟩:=UH h;have I:=ih k1 (by simp[Ex.kids]) _ y1 t1 w1 hr1;have J:=ih k2 (by simp[Ex.kids]) _ y2 t2 w2 hr2;clear h
     replace h3:rok fm op t1 t2=true:=h3
     show RvX vars s (.mk op num name [k1,k2] l c) (.mk op num name [y1,y2] l c) (Z6 op t1 t2);have hn:=I.nb;have hz:=I.sz;have hn2:=J.nb;have hz2:=J.sz;have tm:tmB (.mk op num name [k1,k2] l c)=(zn op ||(tmB k1 ||tmB k2)):=by simp[tmB,Wv]
     refine⟨λh=>?_,λh=>?_,?_,?_⟩
     ·rw[tm,Qav,Qav] at h;rw[UA];cases hs1:qe s y1 with
      |none=>rfl
      |some a=>
       cases hs2:qe s y2 with
       |none=>rfl
       |some b=>
        rcases h with h|h|h
        ·dsimp only;unfold zn at h;simp at h;unfold vv;simp only[if_neg (show ¬ op=14 by omega),if_neg (show ¬ op=15 by omega),if_neg (show ¬ op=16 by omega),if_neg (show ¬ (op=17\/op=30) by omega),if_neg (show ¬ op=18 by omega),if_neg (show ¬ op=19 by omega),if_neg (show ¬ (op=20\/op=29) by omega),if_neg (show ¬ op=21 by omega),if_neg (show ¬ op=22 by omega),if_neg (show ¬ op=27 by omega),if_neg (show ¬ op=28 by omega)]
        ·rw[I.non h] at hs1;cases hs1
        ·rw[J.non h] at hs2;cases hs2
     ·rw[tm,Qbj,Qbj] at h;obtain⟨a,e1,e2,e3⟩:=I.som h.2.1;obtain⟨b,f1,f2,f3⟩:=J.som h.2.2;rw[UA,e1,f1,jp3 om,e2,f2];dsimp only;have hop:¬ (23<=op/\op<=26):=by
       have:=h.1;unfold zn at this;simp at this;omega
      have hw:(qJ op).1=2->zY a/\zY b:=λhw=>by
       unfold qJ at hw;repeat' split at hw
       all_goals first|(exfalso;revert hw;decide)|skip
       rename_i q1 q2 q3;unfold rok at h3;rw[show clA op=false from decide_eq_false q1,show clB op=false from decide_eq_false q2,show clC op=false from decide_eq_false q3] at h3;have h4:(t1.kind=t2.kind/\t1.enum=t2.enum)/\t1.kind=2:=by
        cases hD:clD op<;>rw[hD] at h3<;>simp at h3
        ·exact⟨h3.1,h3.2.1⟩
        ·exact h3
       exact⟨e3 h4.2,f3 (by rw[<-h4.1.1];exact h4.2)⟩
      have h2:(Z6 op t1 t2).kind=2->(qJ op).2=2:=λhk2=>by
       have:=Hk hk2;unfold clA at this;have q1:=of_decide_eq_false this;unfold qJ;rw[if_neg q1];repeat' split
       all_goals rfl
      cases ht:vv op a b with
      |none=>
       exfalso;have hop2:op=14\/op=15\/op=16\/op=17\/op=18\/op=19\/op=20\/op=21\/op=22\/op=27\/op=28\/op=29\/op=30:=om
       rcases hop2 with h|h|h|h|h|h|h|h|h|h|h|h|h<;>(subst h;simp[vv] at ht)
      |some n=>
       have:=jd1 ht hw;exact⟨n,rfl,this.1,λhk2=>this.2 (h2 hk2)⟩
     ·rw[kV];simp[Ex.op,Ex.kids,Y4,hn,hn2,g3];exact .inl (decide_eq_false om)
     ·rw[zZ,zZ];simp[Ex.name,Ex.kids,yz];omega
theorem jb3 {vars:List VarT}{enums:List EnumT}:∀ (x y:Ex) (t:MtT),zq vars enums false x=.ok (y,t)->wkB x=true->tmB x=false:=by
 refine Ex.indk λx ih=>?_;intro y t h hx;obtain⟨op,num,name,ks,l,c⟩:=x;rw[wkB] at hx;simp only[Qaa,decide_eq_true_eq] at hx;obtain⟨⟨hk,_⟩,hks⟩:=hx;rw[zq] at h;have nk:(op=1\/op=2\/op=3)->tmB (.mk op num name ks l c)=false:=λho=>by
  unfold zx at hk;rw[if_pos om] at hk;have e:=QaN (show ks.length=0 by omega);subst e;rcases ho with rfl|rfl|rfl<;>rfl
 split at h
 ·rename_i g;exact nk (.inl g)
 split at h
 ·rename_i g;exact nk (.inr (.inl g))
 split at h
 ·rename_i g;exact nk (.inr (.inr g))
 rename_i g1 g2 g3;rw[Bool.false_and,Bool.false_and] at h;split at h
 ·cases h
 ·rename_i r hr;obtain⟨_,_,h3⟩:=UH h;have ht:zn op=false:=by
   cases ht:zn op with
   |false=>rfl
   |true=>
    unfold zn at ht;simp at ht;have q1:clA op=false:=decide_eq_false om;have q2:clB op=false:=decide_eq_false om;have q3:clC op=false:=decide_eq_false om;have q4:clD op=false:=decide_eq_false om;simp[rok,q1,q2,q3,q4] at h3
  rw[tmB,ht,Bool.false_or];have all:∀ (xs:List Ex) (q:List Ex×List MtT),(∀ k∈xs,k∈ks)->Zn xs=true->qM vars enums false xs=.ok q->Wv xs=false:=by
   intro xs;induction xs with
   |nil=>intro _ _ _ _;rfl
   |cons z zs ihz=>
    intro q hm hw hq;rw[Zn,Qaa] at hw;rw[qM] at hq;split at hq
    ·cases hq
    ·rename_i y1 hy1;split at hq
     ·cases hq
     ·rename_i r1 hr1;rw[Wv,ih z (hm z (by simp)) y1.1 y1.2 hy1 hw.1,ihz _ (λk hk=>hm k (by simp[hk])) hw.2 hr1];rfl
  exact all ks r (λk hk=>hk) hks hr
theorem HZ {op:Int}:∀ {xs:List Ex} {k:Ex},k∈xs->uL op k=true->Qb op xs=true
 |x :: xs,k,h,hq=>by
  rw[Qb];rcases QaW.1 h with rfl|h
  ·rw[hq];rfl
  ·rw[HZ h hq,Bool.or_true]
theorem Gs:∀ (d:Nat) (x:Ex),yF d x=true->uL 4 x=false->kdB x=true
 |0,_,h,_=>by cases h
 |d+1,.mk op num name ks l c,h,h4=>by
  rw[vB] at h;simp only[Qaa,decide_eq_true_eq] at h;obtain⟨⟨⟨⟨h1,h2⟩,h3⟩,_⟩,h5⟩:=h;have h1:(1:Int)<=op:=h1;have h2:op<31:=h2;have h3:(ks.length:Int)=if 5<=op/\op<=13 then 1 else if 14<=op/\op<31 then 2 else 0:=h3
  rw[uL,Qbj,decide_eq_false_iff_not] at h4;rw[jio];simp only[Qaa,Qav,decide_eq_true_eq,Qai];refine⟨⟨?_,?_⟩,λk hk=>Gs d k (Qai.1 h5 k hk) ?_⟩
  ·by_cases g:op=1\/op=2\/op=3
   ·exact .inl g
   ·refine .inr λe=>?_;have e:ks=[]:=e;subst e;have h4:=h4.1;repeat' split at h3
    all_goals simp at h3
    omega
  ·show ks.length<=2;repeat' split at h3
   all_goals omega
  ·have:=h4.2;cases hq:uL 4 k with
   |false=>rfl
   |true=>
    have:Qb 4 ks=true:=HZ hk hq;rw[h4.2] at this;cases this
theorem bEq (a b:Bool)(st:St)(K:AV->St->Prop):jk (QK γ .eql 4 false (.bool a) (.bool b) st) K=K (.bool (a == b)) st:=by
 have h:QK γ .eql 4 false (.bool a) (.bool b) st=.ok (.bool (a == b)) st:=by cases a<;>cases b<;>kernel_rfl
 rw[h];rfl
theorem bNe (a b:Bool)(st:St)(K:AV->St->Prop):jk (QK γ .neq 4 false (.bool a) (.bool b) st) K=K (.bool (a != b)) st:=by
 have h:QK γ .neq 4 false (.bool a) (.bool b) st=.ok (.bool (a != b)) st:=by cases a<;>cases b<;>kernel_rfl
 rw[h];rfl
end Go.Sy
end
