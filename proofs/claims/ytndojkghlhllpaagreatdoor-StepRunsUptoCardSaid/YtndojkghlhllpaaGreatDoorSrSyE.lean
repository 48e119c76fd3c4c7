/-
  Contracts: the code lowered, what it does told by rules, and the contracts of the functions that the law reaches.
-/
import Derived.Test.YtndojkghlhllpaaGreatDoorSrSyD
import Derived.Test.YtndojkghlhllpaaGreatDoorProg
import Derived.KernelRfl
set_option linter.unusedVariables false
set_option linter.unusedSimpArgs false
open Nat renaming reduceAdd → γ, reduceSub → δ, reduceMul → ζ, reduceBEq → θ, le_refl → τ, le_trans → Qab, zero_le → Qae, zero_add → Qak, le_max_left → Qar, le_max_right → Qas, lt_or_ge → Qau, not_lt_zero → Qaw, lt_of_lt_of_le → Qax, mul_le_mul_right → Qaz, add_mul → QaH, sub_zero → QaL, zero_mul → QaN, succ_pos → QaR, succ_mul → QaT, le_of_eq → QaU, lt_irrefl → Qbb, mul_one → Qbg, ne_of_lt → Qbk, add_assoc → Qbl, lt_succ_self → Qbo, add_zero → Qbq, mod_eq_of_lt → Qbt, one_mul → Qbv, add_comm → Qbw, succ_lt_succ → QbA, min_eq_left → QbD, le_of_lt → QbK, lt_trichotomy → Qcf, le_succ_of_le → Qcn, beq → Qcr, succ → Qcs, ble → Qct, add → Qcu, mul → Qcv, sub → Qcw
open Go.Proofs.Tryz renaming prog → ε
open Int renaming reduceToNat → η, natCast_zero → φ, zero_add → χ, ofNat → Qay, eq_ofNat_of_zero_le → Qbx, natCast_nonneg → QbS, toNat_natCast → QbZ
open List renaming map_cons → κ, map_nil → μ, getD_cons_zero → ν, getD_cons_succ → ξ, length_cons → υ, length_append → ψ, length_nil → ω, getElem_mem → Qac, getD → Qad, take_length → Qaf, cons_append → Qag, range' → Qah, getElem?_eq_getElem → Qai, all_eq_true → Qaj, nil_append → Qal, getD_eq_getElem?_getD → Qam, range → Qan, length_map → Qap, cons → Qaq, length_take → Qat, mem_append → Qav, length_drop → QaD, all_cons → QaF, take_zero → QaG, append_assoc → QaI, mem_map → QaJ, mem_cons → QaS, eq_nil_of_length_eq_zero → QaV, append_nil → QaW, all_append → QaX, map_congr_left → QaY, drop_zero → Qba, length_set → Qbc, map_map → Qbd, map_append → Qbf, mem_singleton → Qbh, ext_getElem → Qbi, range'_succ → Qbj, foldl_append → Qbm, mem_range → Qbn, take_append_drop → Qbp, drop_drop → Qbr, mem_iff_getElem → Qbs, getElem_cons_zero → Qby, length_pos_iff → QbB, getElem?_take → QbC, getElem?_map → QbH, map_toArray → QbI, getElem_cons_succ → QbL, getElem_cons_drop → QbM, drop_length → QbN, getElem?_drop → QbO, mem_of_mem_take → QbP, take_take → QbQ, foldr_cons → QbT, take_add_one → QbU, mem_cons_of_mem → QbW, any_eq_false → QbX, length_eq_zero_iff → QbY, flatMap_cons → Qcb, getElem?_append_left → Qcc, getElem?_append_right → Qcd, mem_append_left → Qch, countP_singleton → Qci, take_succ_cons → Qcj, drop_eq_getElem_cons → Qck, take_of_length_le → Qcl
open Bool renaming and_eq_true → Qaa, eq_iff_iff → QaA, or_eq_true → QaE, not_eq_true' → QaO, false_eq_true → QaP, true_and → QaQ, true_eq_false → Qbz, or_eq_false_iff → QbF, not_true → QbG, and_eq_false_iff → QbR, eq_false_iff → Qcm
open Array renaming length_toList → Qao, getElem?_eq_some_iff → QaB, replicate → QaK, toList_map → Qbu, getElem?_toList → QbJ, getD_eq_getD_getElem? → QbV, toList_append → Qce, mem_toList_iff → Qcg, getElem?_eq_getElem → Qco, getElem?_setIfInBounds_ne → Qcp
open Option renaming map_some → QaC, getD_some → QaM, bind_some → QaZ, map_none → Qbe, map_eq_some_iff → QbE, isSome_iff_exists → Qcq
open Function renaming comp_def → Qca
noncomputable section
set_option maxRecDepth 100000
namespace Go.Sy
open Go.Ev Go.Proofs
variable {base:Bs}
structure Kq (p mb lo:Nat)(s s':St):Prop where
 nx:s.nx<=s'.nx
 fr:s'.fr=s.fr
 get:∀ b,b<lo->b≠p->b≠mb->jy s'.h b=jy s.h b
section
variable {p mb lo:Nat} {s t u:St}
theorem Kq.refl:Kq p mb lo s s:=⟨τ _,rfl,λ_ _ _ _=>rfl⟩
theorem Kq.trans (h:Kq p mb lo s t)(k:Kq p mb lo t u):Kq p mb lo s u:=⟨Qab h.nx k.nx,k.fr.trans h.fr,λb h1 h2 h3=>(k.get b h1 h2 h3).trans (h.get b h1 h2 h3)⟩
theorem Kq.nw (h:Kq p mb lo s t)(hl:lo<=t.nx)(ds:List AV):Kq p mb lo s (Go.Sy.nw t ds):=⟨Qcn h.nx,h.fr,λb h1 h2 h3=>(JF om).trans (h.get b h1 h2 h3)⟩
theorem Kq.wr (h:Kq p mb lo s t){c:Nat}(hc:c=p\/lo<=c)(o:Nat)(vs:List AV):Kq p mb lo s (Go.Sy.wr t c o vs):=⟨h.nx,h.fr,λb h1 h2 h3=>(Jo om).trans (h.get b h1 h2 h3)⟩
theorem Kq.kl (h:Kq p mb lo s t){c:Nat}(hc:lo<=c):Kq p mb lo s (Go.Sy.kl c t):=⟨h.nx,h.fr,λb h1 h2 h3=>(vF om).trans (h.get b h1 h2 h3)⟩
theorem Kq.mp (h:Kq p mb lo s t)(es:List (AV×AV)):Kq p mb lo s (Go.Sy.mp t mb es):=⟨h.nx,h.fr,λb h1 h2 h3=>by rw[gt,if_neg h3];exact h.get b h1 h2 h3⟩
theorem Kq.aps (h:Kq p mb lo s t){hi n z:Nat}{v:AV}{ds:List AV}{u:St}(V:Lv lo hi u v n ds z)(hl:lo<=t.nx)(news:List AV):Kq p mb lo s (Go.Sy.aps v t news):=⟨by rw[jr];exact Qcn h.nx,by rw[Zc];exact h.fr,λb h1 h2 h3=>(V.get t news b (.inl h1) om).trans (h.get b h1 h2 h3)⟩
theorem Kq.keep (h:Kq p mb lo s t)(k:Keep p t u)(hl:lo<=t.nx):Kq p mb lo s u:=⟨Qab h.nx k.nx,k.fr.trans h.fr,λb h1 h2 h3=>(k.get b om h2).trans (h.get b h1 h2 h3)⟩
theorem Kq.cl (h:Kq p mb lo s t){b:Nat}{cs:List AV}(C:Cl s b cs)(h1:b<lo)(h2:b≠p)(h3:b≠mb):Cl t b cs:=C.keep h.nx (h.get b h1 h2 h3)
theorem Kq.bk (h:Kq p mb lo s.bare t):Kq p mb lo s (bk s t):=⟨h.nx,rfl,h.get⟩
end
theorem Mp.nw {s:St}{b:Nat}{ts:List (List Nat)}(h:Mp s b ts)(ds:List AV):Mp (Go.Sy.nw s ds) b ts:=h.keep (Nat.le_succ _) (JF (by have:=h.lt;omega))
theorem Mp.wr {s:St}{b:Nat}{ts:List (List Nat)}(h:Mp s b ts){c:Nat}(hc:b≠c)(o:Nat)(ds:List AV):Mp (Go.Sy.wr s c o ds) b ts:=h.keep (τ _) (Jo hc)
theorem W5 {s:St}{b c:Nat}{es:List (AV×AV)}{cs:List AV}(h:c≠b):Cl (mp s b es) c cs=Cl s c cs:=propext ⟨λC=>C.keep (QaU (jfA s b es)) (by rw[gt,if_neg h]),λC=>C.keep (τ _) (by rw[gt,if_neg h])⟩
structure MS (p mb lo hi:Nat)(m:ModT)(ts:List (List Nat))(v1 v2 v3:AV)(s:St):Prop where
 cp:Cl s p [v1,v2,v3,.map mb,.bool false]
 mp:Mp s mb ts
 l1:Lv lo hi s v1 m.vars.length (fl vaE m.vars) 7
 l2:Lv lo hi s v2 m.enums.length (fl enE m.enums) 4
 l3:Lv lo hi s v3 m.moves.length (fl moE m.moves) 7
 d12:Df v1 v2
 d13:Df v1 v3
 d23:Df v2 v3
 hp:p<lo
 hm:mb<lo
 pm:p≠mb
 lo:lo<=hi
 hi:hi<=s.nx
def MX (p mb lo:Nat)(m:ModT)(ts:List (List Nat))(s:St):Prop:=∃ v1 v2 v3,MS p mb lo s.nx m ts v1 v2 v3 s
section
variable {p mb lo hi:Nat} {m:ModT} {ts us:List (List Nat)} {v1 v2 v3:AV} {s t:St}
theorem Lv.mp {n z:Nat}{v:AV}{cs:List AV}{es:List (AV×AV)}(h:Lv lo hi s v n cs z)(hm:mb<lo):Lv lo hi (Go.Sy.mp s mb es) v n cs z:=h.imp id λ⟨c,h1,h2,h3,h4,h5,h6⟩=>⟨c,h1,h2,h3,by rw[W5 om];exact h4,h5,h6⟩
theorem MS.nw (S:MS p mb lo hi m ts v1 v2 v3 s)(ds:List AV):MS p mb lo hi m ts v1 v2 v3 (Go.Sy.nw s ds):=by
 obtain⟨C,M,l1,l2,l3,d12,d13,d23,hp,hm,pm,h1,h2⟩:=S;exact⟨ckX,M.nw ds,ckX,ckX,ckX,d12,d13,d23,hp,hm,pm,h1,by rw[ji];omega⟩
theorem MS.wr (S:MS p mb lo hi m ts v1 v2 v3 s){c:Nat}(hc:hi<=c)(o:Nat)(ds:List AV):MS p mb lo hi m ts v1 v2 v3 (Go.Sy.wr s c o ds):=by
 obtain⟨C,M,l1,l2,l3,d12,d13,d23,hp,hm,pm,h1,h2⟩:=S;exact⟨ckX,M.wr om o ds,ckX,ckX,ckX,d12,d13,d23,hp,hm,pm,h1,by rw[jo];omega⟩
theorem MS.take (S:MS p mb lo hi m ts v1 v2 v3 s)(us:List (List Nat)):MS p mb lo hi m us v1 v2 v3 (Go.Sy.mp s mb (mpl us)):=by
 obtain⟨C,M,l1,l2,l3,d12,d13,d23,hp,hm,pm,h1,h2⟩:=S;exact⟨by rw[W5 pm];exact C,M.put,l1.mp hm,l2.mp hm,l3.mp hm,d12,d13,d23,hp,hm,pm,h1,h2⟩
theorem MS.keep (S:MS p mb lo hi m ts v1 v2 v3 s)(k:Keep p s t)(C':Cl t p [v1,v2,v3,.map mb,.bool false]):MS p mb lo hi m ts v1 v2 v3 t:=by
 obtain⟨C,M,l1,l2,l3,d12,d13,d23,hp,hm,pm,h1,h2⟩:=S;exact⟨C',M.keep k.nx (k.get mb M.lt om),k.lv l1 (.inl hp),k.lv l2 (.inl hp),k.lv l3 (.inl hp),d12,d13,d23,hp,hm,pm,h1,Qab h2 k.nx⟩
theorem MS.up (S:MS p mb lo hi m ts v1 v2 v3 s){hi':Nat}(h:hi<=hi')(h2:hi'<=s.nx):MS p mb lo hi' m ts v1 v2 v3 s:=by
 obtain⟨C,M,l1,l2,l3,d12,d13,d23,hp,hm,pm,h1,h3⟩:=S;exact⟨C,M,l1.up h,l2.up h,l3.up h,d12,d13,d23,hp,hm,pm,Qab h1 h,h2⟩
theorem MS.bare (S:MS p mb lo hi m ts v1 v2 v3 s):MS p mb lo hi m ts v1 v2 v3 s.bare:=by
 obtain⟨C,M,l1,l2,l3,d12,d13,d23,hp,hm,pm,h1,h2⟩:=S;exact⟨C.bar,⟨M.lt,M.get⟩,by rw[jH];exact l1,by rw[jH];exact l2,by rw[jH];exact l3,d12,d13,d23,hp,hm,pm,h1,h2⟩
theorem MS.ofbk {u:St}(S:MS p mb lo hi m ts v1 v2 v3 s):MS p mb lo hi m ts v1 v2 v3 (bk u s):=by
 obtain⟨C,M,l1,l2,l3,d12,d13,d23,hp,hm,pm,h1,h2⟩:=S;have e:∀ b cs,Cl s b cs->Cl (bk u s) b cs:=λb cs h=>⟨h.lt,h.row,h.len,h.cell⟩;have el:∀ v n cs z,Lv lo hi s v n cs z->Lv lo hi (bk u s) v n cs z:=λv n cs z h=>h.imp id λ⟨c,h1,h2,h3,h4,h5,h6⟩=>⟨c,h1,h2,h3,e _ _ h4,h5,h6⟩;exact⟨e _ _ C,⟨M.lt,M.get⟩,el _ _ _ _ l1,el _ _ _ _ l2,el _ _ _ _ l3,d12,d13,d23,hp,hm,pm,h1,h2⟩
theorem MS.enum (S:MS p mb lo hi m ts v1 v2 v3 s)(e:EnumT):MS p mb lo (s.nx+1) { m with enums:=m.enums ++ [e] } ts v1 (apv 4 v2 s) v3 (Go.Sy.wr (Go.Sy.aps v2 s (enE e)) p 1 [apv 4 v2 s]):=by
 obtain⟨C,M,l1,l2,l3,d12,d13,d23,hp,hm,pm,h1,h2⟩:=S;have h4:=C.lt;have hn:(Go.Sy.wr (Go.Sy.aps v2 s (enE e)) p 1 [apv 4 v2 s]).nx=s.nx+1:=by rw[jo,jr]
 refine⟨?_,?_,?_,?_,?_,(Df.put l1 h2).2,d13,(Df.put l3 h2).1,hp,hm,pm,om,by rw[hn];exact τ _⟩
 ·exact(cast (l2.cl s (enE e) _ p (.inl hp) h4).symm C:Cl (Go.Sy.aps v2 s (enE e)) p _).wr 1 [apv 4 v2 s]
 ·exact M.keep (by rw[hn];omega) (by rw[Jo (λh=>pm h.symm)];exact l2.get s (enE e) mb (.inl hm) M.lt)
 ·rw[jA (.inl hp)];exact(l1.apsD (Df.symm d12)).up om
 ·rw[jA (.inl hp),ψ,QX,JZ];exact l2.put (Qd e) om rfl
 ·rw[jA (.inl hp)];exact(l3.apsD d23).up om
end
def KM (p mb lo:Nat)(st:St)(r:KR (ModT×List (List Nat)))(K Kp:AV->St->Prop):Prop:=match r with
 |.ok y=>∀ s',Kq p mb lo st s'->MX p mb lo y.1 y.2 s'->K (.tup []) s'
 |.er c l k=>∀ s',Kq p mb lo st s'->Kp (kf c l k) s'
def Xx (ts:List (List Nat))(nm:List Nat)(l c:Int):KR (List (List Nat)):=if nm∈ts then .er 162 l c else .ok (ts ++ [nm])
def zy (l c:Int):List (List Nat)->List (List Nat)->KR (List (List Nat))
 |ts,[]=>.ok ts
 |ts,n :: ns=>match Xx ts n l c with
  |.er a b d=>.er a b d
  |.ok ts=>zy l c ts ns
def wJ (m:ModT)(ts:List (List Nat))(e:EnumT):KR (ModT×List (List Nat)):=match zy e.line e.col ts (e.name :: e.vals) with
 |.er a b d=>.er a b d
 |.ok ts=>.ok ({ m with enums:=m.enums ++ [e] },ts)
theorem Wr {l c:Int}:∀ {xs ys:List (List Nat)} {ts:List (List Nat)},zy l c ts (xs ++ ys)=match zy l c ts xs with | .er a b d=>.er a b d | .ok us=>zy l c us ys
 |[],ys,ts=>rfl
 |x :: xs,ys,ts=>by
  simp only[Qag,zy];cases Xx ts x l c with
  |er a b d=>rfl
  |ok us=>exact Wr
set_option maxHeartbeats 4000000 in
theorem jrn (hb:NB base)(hcl:∀ vs:List (List Nat),0<vs.length->vs.length<=1000000->Tot base 91 [.lst vs.length (vs.map .str)] (.lst vs.length (vs.map .str))){p mb lo:Nat}{m:ModT}{ts:List (List Nat)}{st:St}(e:EnumT)(hv:0<e.vals.length)(hv2:e.vals.length<=1000000)(hE:m.enums.length<=1000000)(H:MX p mb lo m ts st)(K Kp:AV->St->Prop)(hK:KM p mb lo st (wJ m ts e) K Kp):XB ε base 68 [.ptr p 0,.agg (enE e)] st K Kp:=by
 obtain⟨v1,v2,v3,S⟩:=H;obtain⟨C,M,l1,l2,l3,d12,d13,d23,hp,hm,pm,lo0,hi0⟩:=id S;refine Jf x61 (by rfl) (hb.at0 68 dc dc _ _) ?_;simp only[y61,jt,κ,μ,ν,ξ];rw[(by unfold z61;simp only[qq];rfl:z61=_)];have q0:Kq p mb lo st.bare st.bare:=Kq.refl;have hnx:st.bare.nx=st.nx:=rfl;have S0:=S.bare.nw (enE e);have q1:=q0.nw lo0 (enE e);have Cb:Cl (Go.Sy.nw st.bare (enE e)) st.nx (enE e):=Cl.new st.bare (enE e);unfold wJ at hK;repeat'(first|apply jc<;>intro _|simp(disch:=first|exact dzG|fail) only[r8,γ,δ,ζ,η,θ])
 refine Kt hb S0.cp S0.mp _ _ _ _ _ ?_;by_cases h:e.name∈ts
 ·rw[if_pos h];have e1:zy e.line e.col ts (e.name :: e.vals)=.er 162 e.line e.col:=by simp only[zy,Xx,if_pos h]
  rw[e1] at hK;exact hK _ q1.bk
 ·rw[if_neg h];have e1:zy e.line e.col ts (e.name :: e.vals)=zy e.line e.col (ts ++ [e.name]) e.vals:=by simp only[zy,Xx,if_neg h]
  rw[e1] at hK
  replace S0:=S0.take (ts ++ [e.name])
  replace q1:=q1.mp (mpl (ts ++ [e.name]))
  have Cb:Cl (Go.Sy.mp (Go.Sy.nw st.bare (enE e)) mb (mpl (ts ++ [e.name]))) st.nx (enE e):=by rw[W5 om];exact Cb
  have hn1:(Go.Sy.mp (Go.Sy.nw st.bare (enE e)) mb (mpl (ts ++ [e.name]))).nx=st.nx+1:=rfl;generalize Go.Sy.mp (Go.Sy.nw st.bare (enE e)) mb (mpl (ts ++ [e.name]))=s1 at *
  (have zz:=@Cb.r;(repeat'(first|apply jc<;>intro _|simp(disch:=first|exact jY|fail) only[Cb.q,Cb.r,r8,γ,δ,ζ,η,θ]));all_goals clear zz)
  refine jZ e.vals.length (λk L s=>∃ us,zy e.line e.col (ts ++ [e.name]) (e.vals.take k)=.ok us/\MS p mb lo st.nx m us v1 v2 v3 s/\Kq p mb lo st.bare s/\st.nx+1<=s.nx/\Cl s st.nx (enE e)/\Has L 0 (.ptr p 0)/\Has L 3 (.ptr st.nx 0)/\Has L 15 (.lst e.vals.length (e.vals.map .str))) (by first|assumption|omega) dc (by simp(disch:=decide) only[jf,jb]) (by simp(disch:=decide) only[jf,jb]) ?_ (λk L s v h=>(by obtain⟨us,h1,h2,h3,h4,h5,h6,h7,h8⟩:=h;refine⟨us,h1,h2,h3,h4,h5,?_,?_,?_⟩<;>simp(disch:=decide) only[jb]<;>assumption)) (λk L s v h=>(by obtain⟨us,h1,h2,h3,h4,h5,h6,h7,h8⟩:=h;refine⟨us,h1,h2,h3,h4,h5,?_,?_,?_⟩<;>simp(disch:=decide) only[jb]<;>assumption)) (λk L s hk hI hi hn=>?_) (λL s hI=>?_)
  ·refine⟨_,by rw[QaG,zy],S0,q1,om,Cb,?_,?_,?_⟩<;>simp(disch:=decide) only[jb,jf]
  ·obtain⟨us,h1,S1,q1,hnn,Cb,i0,i3,i15⟩:=hI;have tk:e.vals.take (k+1)=e.vals.take k ++ [e.vals[k]]:=yI hk
   (have zz:=@Cb.r;(repeat'(first|apply jc<;>intro _|simp(disch:=first|exact jY|fail) only[ja i0,ja i3,ja i15,ja hi,ja hn,jgO hk,Cb.q,Cb.r,r8,γ,δ,ζ,η,θ]));all_goals clear zz)
   refine Kt hb S1.cp S1.mp _ _ _ _ _ ?_;by_cases h:e.vals[k]∈us
   ·rw[if_pos h];have e2:zy e.line e.col (ts ++ [e.name]) e.vals=.er 162 e.line e.col:=by
     have e3:e.vals=e.vals.take k ++ (e.vals[k] :: e.vals.drop (k+1)):=by rw[QbM,Qbp]
     rw[e3,Wr,h1];simp only[zy,Xx,if_pos h]
    rw[e2] at hK;exact hK _ q1.bk
   ·rw[if_neg h];have e2:zy e.line e.col (ts ++ [e.name]) (e.vals.take (k+1))=.ok (us ++ [e.vals[k]]):=by
     rw[tk,Wr,h1];simp only[zy,Xx,if_neg h]
    repeat'(first|apply jc<;>intro _|simp(disch:=first|exact dzG|fail) only[r8,γ,δ,ζ,η,θ])
    refine⟨⟨_,e2,S1.take _,q1.mp _,by rw[jfA];exact hnn,by rw[W5 om];exact Cb,?_,?_,?_⟩,?_,?_⟩<;>simp(disch:=decide) only[jb]<;>assumption
  ·obtain⟨us,h1,S1,q1,hnn,Cb,i0,i3,i15⟩:=hI;rw[Qaf] at h1;rw[h1] at hK;have T:=λ(h:0<e.vals.length)=>hcl e.vals h hv2;have Cp:=S1.cp;have V2:=S1.l2;have ve2:=V2.eqs;have Ap:=λst' bv xc xx K h hv=>@JS lo st.nx m.enums.length 4 st' v2 (fl enE m.enums) K 56 bv xc xx h dc om om hv;have hqp:st.nx≠p:=om
   have S2:=(S1.nw (enE e)).enum e;have S2:=(S2.up (by(first|omega|(simp only[ji,jo,ju,jr,jq];first|done|omega))) (τ _)).ofbk (u:=st);have q2:=(((q1.nw om (enE e)).aps V2 (by(first|omega|(simp only[ji,jo,ju,jr,jq];first|done|omega))) (enE e)).wr (.inl rfl) 1 [apv 4 v2 (Go.Sy.nw s (enE e))]).bk;have g0:rat s.h st.nx 0=.str e.name:=(Cb.cell 0 (by rw[Qd];decide)).trans (by rw[W3];rfl);have g2:rat s.h st.nx 2=.int .i64 e.line:=(Cb.cell 2 (by rw[Qd];decide)).trans (by rw[W3];rfl);have g3:rat s.h st.nx 3=.int .i64 e.col:=(Cb.cell 3 (by rw[Qd];decide)).trans (by rw[W3];rfl);have gp:rat s.h p 1=v2:=Cp.cell 1 (by simp only[υ,ω];omega);have ln:qv s.h st.nx=4:=by rw[Cb.len,Qd]
   (have zz:=aI V2.ln (aI V2.rts (aI @jA (aI @jF (aI @jJ (aI @V2 (aI @jC (aI @jI (aI @jL (aI @Cb.r @Cp.r)))))))));(repeat'(first|apply jc<;>intro _|simp(disch:=first|exact jY|fail) only[ja i0,ja i3,T hv,Ap,Gg,sm9,Gf,sm3,ve2,V2.at,jC,Cb.q,Cp.q,V2.ln,V2.rts,jA,jF,jJ,V2,jC,jI,jL,Cb.r,Cp.r,r8,γ,δ,ζ,η,θ]));all_goals clear zz)
   have a9:=(sm9 om g0 rfl).mpr trivial;have a2:=(sm3 om g2 rfl).mpr trivial;have a3:=(sm3 om g3 rfl).mpr trivial;have a23:=(Gg (by rw[Cp.len];simp only[υ,ω];omega) gp ve2).mpr trivial;repeat' apply aI
   all_goals first|exact a9|exact a23|exact a2|exact a3|exact hK _ q2 ⟨_,_,_,S2⟩
mutual
def J0:Ex->Option Ex
 |.mk op num name ks l c=>if op=4 then some (.mk op num name ks l c) else zY ks
def zY:List Ex->Option Ex
 |[]=>none
 |x :: xs=>match J0 x with
  |some y=>some y
  |none=>zY xs
end
theorem ug (x:Ex):J0 x=if x.op=4 then some x else zY x.kids:=by cases x;rw[J0];rfl
theorem uH:∀ {xs ys:List Ex},zY (xs ++ ys)=match zY xs with|some y=>some y|none=>zY ys
 |[],ys=>rfl
 |x :: xs,ys=>by
  simp only[Qag,zY];cases J0 x with
  |some y=>rfl
  |none=>exact uH
def Ju (x:Ex):Ex×Bool:=match J0 x with
 |some y=>(y,true)
 |none=>(x,false)
theorem G0.exb {s:St}{a:List AV}{b:Bool}{u:AV}(h:u=.tup [.agg a,.bool b])(ha:a.all pc=true):G0 u (.tup [.agg a,.bool b]) s:=by
 subst h;exact FzD.tup (.cons (.agg (.pc ha)) (.cons (.pc rfl) .nil))
set_option maxHeartbeats 4000000 in
theorem joe (hb:NB base):∀ x:Ex,wo x=true->Tot base 95 [.agg (eE x)] (.tup [.agg (eE (Ju x).1),.bool (Ju x).2]):=by
 refine Ex.indk λx ih hw=>?_;have hw':x.kids.length<=1000000/\YV x.kids=true:=by cases x;rw[wo,Qaa,decide_eq_true_eq] at hw;exact hw
 refine hb.tot ?_ (by first|rfl|simp[pa,pc,qZ,Xb,J1,JG,YW,ww,Za,zC,ZR]) rfl;refine jE jt8 (by rfl) (hb.pur 95 1 dc) ?_;simp only[jpN,jt,κ,μ,ν,ξ];rw[(by unfold jko;simp only[qq];rfl:jko=_)];repeat'(first|apply jc<;>intro _|simp(disch:=first|exact dzG|fail) only[r8,γ,δ,ζ,η,θ])
 ·rename_i h;have e:Ju x=(x,true):=by unfold Ju;rw[ug,if_pos h]
  rw[e];exact G0.exb rfl (qZ x)
 rename_i h;have e0:J0 x=zY x.kids:=by rw[ug,if_neg h]
 refine jZ x.kids.length (λk L s=>zY (x.kids.take k)=none/\2<=s.nx/\Cl s 0 (eE x)/\Cl s 1 z6/\Has L 1 (.ptr 0 0)/\Has L 2 (.ptr 1 0)/\Has L 13 (.lst x.kids.length (fl eE x.kids))) (by first|assumption|omega) dc (by simp(disch:=decide) only[jf,jb]) (by simp(disch:=decide) only[jf,jb]) ?_ (λk L s v h=>(by obtain⟨h1,h2,h3,h4,h5,h6,h7⟩:=h;refine⟨h1,h2,h3,h4,?_,?_,?_⟩<;>simp(disch:=decide) only[jb]<;>assumption)) (λk L s v h=>(by obtain⟨h1,h2,h3,h4,h5,h6,h7⟩:=h;refine⟨h1,h2,h3,h4,?_,?_,?_⟩<;>simp(disch:=decide) only[jb]<;>assumption)) (λk L s hk hI hi hn=>?_) (λL s hI=>?_)
 ·refine⟨by rw[QaG,zY],by(first|omega|(simp only[ji,jo,ju,jr,jq];first|done|omega)),?_,Cl.new _ _,?_,?_,?_⟩
  ·have n0:=Cl.new st0 (eE x);exact n0.nw _
  all_goals simp(disch:=decide) only[jb,jf]
 ·obtain⟨h1,h2,C0,C1,i1,i2,i13⟩:=hI;have E:=ih x.kids[k] (Qac hk) (Vi hk hw'.2);have tk:x.kids.take (k+1)=x.kids.take k ++ [x.kids[k]]:=yI hk;cases hf:J0 x.kids[k] with
  |some y=>
   have e:Ju x=(y,true):=by
    unfold Ju;have e3:x.kids=x.kids.take k ++ (x.kids[k] :: x.kids.drop (k+1)):=by rw[QbM,Qbp]
    rw[e0,e3,uH,h1];simp only[zY,hf]
   have e2:Ju x.kids[k]=(y,true):=by unfold Ju;rw[hf]
   rw[e2] at E;unfold z6 at C1
   (have zz:=aI C0.r C1.r;(repeat'(first|apply jc<;>intro _|simp(disch:=first|exact jY|fail) only[ja i1,ja i2,ja i13,ja hi,ja hn,E,C0.q,C1.q,C0.r,C1.r,r8,γ,δ,ζ,η,θ]));all_goals clear zz)
   rw[e];exact G0.exb rfl (qZ y)
  |none=>
   have e2:Ju x.kids[k]=(x.kids[k],false):=by unfold Ju;rw[hf]
   rw[e2] at E
   (have zz:=aI C0.r C1.r;(repeat'(first|apply jc<;>intro _|simp(disch:=first|exact jY|fail) only[ja i1,ja i2,ja i13,ja hi,ja hn,E,C0.q,C1.q,C0.r,C1.r,r8,γ,δ,ζ,η,θ]));all_goals clear zz)
   refine⟨⟨?_,by(first|omega|(simp only[ji,jo,ju,jr,jq];first|done|omega)),ckX,ckX,?_,?_,?_⟩,?_,?_⟩
   ·rw[tk,uH,h1];simp only[zY,hf]
   all_goals(simp(disch:=decide) only[jb];assumption)
 ·obtain⟨h1,h2,C0,C1,i1,i2,i13⟩:=hI;rw[Qaf] at h1;have e:Ju x=(x,false):=by unfold Ju;rw[e0,h1]
  unfold z6 at C1
  (have zz:=aI C0.r C1.r;(repeat'(first|apply jc<;>intro _|simp(disch:=first|exact jY|fail) only[ja i1,ja i2,C0.q,C1.q,C0.r,C1.r,r8,γ,δ,ζ,η,θ]));all_goals clear zz)
  rw[e,<-qJ];exact G0.exb rfl (qZ x)
section
variable {st:St} {K:AV->St->Prop}
theorem jg9 (k:IntKind)(a b:Int):jp (Js .add (.int k a) (.int k b) st) K=K (.int k (qN k (a+b))) st:=by
 cases k<;>rfl
theorem jgN (k:IntKind)(a b:Int):jp (Js .sub (.int k a) (.int k b) st) K=K (.int k (qN k (a - b))) st:=by
 cases k<;>rfl
theorem jgW (k:IntKind)(a b:Int):jp (Js .mul (.int k a) (.int k b) st) K=K (.int k (qN k (a * b))) st:=by
 cases k<;>rfl
theorem jp2 (k:IntKind)(a:Int):jp (unV .neg (.int k a) st) K=K (.int k (qN k (-a))) st:=by
 have e:k.wrap (0 - a)=qN k (-a):=by rw[<-JI,Int.zero_sub]
 simp only[unV,Yh,O,e,jp]
theorem jg7 (k j:IntKind)(a:Int):jp (jry k (.int j a) st) K=K (.int k (qN k a)) st:=by
 cases k<;>cases j<;>rfl
end
def Ka (b:Bool):Int:=if b then 1 else 0
def jgf (op num a b:Int):Int:=
 if op=5 then qN .i64 (-a) else if op=6 then qN .i64 (1 - a) else if op=14 then qN .i64 (a * b) else if op=15 then qN .i64 (a+b) else if op=16 then qN .i64 (a - b)
 else if op=17\/op=30 then Ka (decide (a=b)) else if op=18 then Ka (decide (a≠b)) else if op=19 then Ka (decide (a<b)) else if op=20\/op=29 then Ka (decide (a<=b))
 else if op=21 then Ka (decide (b<a)) else if op=22 then Ka (decide (b<=a)) else if op=27 then qN .i64 (a * b) else if op=28 then max a b else num
mutual
def Jv:Ex->Int
 |.mk op num _ ks _ _=>jgf op num ((Qs ks).getD 0 0) ((Qs ks).getD 1 0)
def Qs:List Ex->List Int
 |[]=>[]
 |x :: xs=>Jv x :: Qs xs
end
mutual
def Qa:Ex->Bool
 |.mk _ _ _ ks _ _=>decide (ks.length<=2) && JV ks
def JV:List Ex->Bool
 |[]=>true
 |x :: xs=>Qa x && JV xs
end
theorem jiX (x:Ex):Jv x=jgf x.op x.num ((Qs x.kids).getD 0 0) ((Qs x.kids).getD 1 0):=by cases x;rw[Jv];rfl
theorem GZ:∀ {xs:List Ex} {k:Nat} (h:k<xs.length),JV xs=true->Qa xs[k]=true
 |x :: xs,0,_,h=>by rw[JV,Qaa] at h;exact h.1
 |x :: xs,k+1,hk,h=>by rw[JV,Qaa] at h;exact GZ (xs:=xs) (k:=k) (by simpa using hk) h.2
theorem gA:∀ {xs:List Ex} {k:Nat} (h:k<xs.length),zY xs=none->J0 xs[k]=none
 |x :: xs,0,_,h=>by
  rw[zY] at h;cases hx:J0 x with
  |none=>exact hx
  |some y=>rw[hx] at h;cases h
 |x :: xs,k+1,hk,h=>by
  rw[zY] at h;cases hx:J0 x with
  |none=>rw[hx] at h;exact gA (xs:=xs) (k:=k) (by simpa using hk) h
  |some y=>rw[hx] at h;cases h
def Kd (ks:List Ex)(k:Nat):List AV:=[.int .i64 ((Qs (ks.take k)).getD 0 0),.int .i64 ((Qs (ks.take k)).getD 1 0)]
theorem jc9 (ks:List Ex)(k:Nat):(Kd ks k).length=2:=nr rfl
theorem jos {ks:List Ex}{k:Nat}(hk:k<ks.length)(h2:ks.length<=2):upd (Kd ks k) k [.int .i64 (Jv ks[k])]=Kd ks (k+1):=by
 match ks,k with
 |[a],0=>rfl
 |[a,b],0=>rfl
 |[a,b],1=>rfl
 |[a],k+1=>simp at hk
 |[a,b],k+2=>exact absurd hk (by simp)
 |a :: b :: c :: l,_=>simp at h2
theorem jsW (hb:NB base)(q:Bool):Tot base 124 [.bool q] (.int .i64 (Ka q)):=by
 refine hb.tot ?_ rfl rfl;refine jE jtM (by rfl) (hb.pur 124 1 dc) ?_;simp only[jpr,jt,κ,μ,ν,ξ];rw[(by unfold jj2;simp only[qq];rfl:jj2=_)];repeat'(first|apply jc<;>intro _|simp(disch:=first|exact dzG|fail) only[r8,γ,δ,ζ,η,θ])
 ·rename_i h;subst h;exact G0.v rfl rfl
 ·rename_i h;have h:q=false:=by simpa using h
  subst h;exact G0.v rfl rfl
set_option maxHeartbeats 4000000 in
theorem jgh (hb:NB base):∀ x:Ex,Qa x=true->J0 x=none->Tot base 96 [.agg (eE x)] (.int .i64 (Jv x)):=by
 refine Ex.indk λx ih ht hf=>?_;have ht':x.kids.length<=2/\JV x.kids=true:=by cases x;rw[Qa,Qaa,decide_eq_true_eq] at ht;exact ht
 have hop:x.op≠4:=λh=>by rw[ug,if_pos h] at hf;cases hf
 rw[ug,if_neg hop] at hf;refine hb.tot ?_ (by first|rfl|simp[pa,pc,qZ,Xb,J1,JG,YW,ww,Za,zC,ZR]) rfl;refine jE jt7 (by rfl) (hb.pur 96 1 dc) ?_;simp only[jpM,jt,κ,μ,ν,ξ];rw[(by unfold jkn;simp only[qq];rfl:jkn=_)];repeat'(first|apply jc<;>intro _|simp(disch:=first|exact dzG|fail) only[r8,γ,δ,ζ,η,θ])
 refine jZ x.kids.length (λk L s=>2<=s.nx/\Cl s 0 (eE x)/\Cl s 1 (Kd x.kids k)/\Has L 1 (.ptr 0 0)/\Has L 3 (.ptr 1 0)/\Has L 8 (.lst x.kids.length (fl eE x.kids))) (by first|assumption|omega) dc (by simp(disch:=decide) only[jf,jb]) (by simp(disch:=decide) only[jf,jb]) ?_ (λk L s v h=>(by obtain⟨h2,h3,h4,h5,h6,h7⟩:=h;refine⟨h2,h3,h4,?_,?_,?_⟩<;>simp(disch:=decide) only[jb]<;>assumption)) (λk L s v h=>(by obtain⟨h2,h3,h4,h5,h6,h7⟩:=h;refine⟨h2,h3,h4,?_,?_,?_⟩<;>simp(disch:=decide) only[jb]<;>assumption)) (λk L s hk hI hi hn=>?_) (λL s hI=>?_)
 ·refine⟨by(first|omega|(simp only[ji,jo,ju,jr,jq];first|done|omega)),?_,Cl.new _ _,?_,?_,?_⟩
  ·have n0:=Cl.new st0 (eE x);exact n0.nw _
  all_goals simp(disch:=decide) only[jb,jf]
 ·obtain⟨h2,C0,C1,i1,i3,i8⟩:=hI;have E:=ih x.kids[k] (Qac hk) (GZ hk ht'.2) (gA hk hf);have ap:=jos hk ht'.1;have hk2:k<2:=om
  (have zz:=aI @jc9 (aI C0.r C1.r);(repeat'(first|apply jc<;>intro _|simp(disch:=first|exact jY|fail) only[ja i1,ja i3,ja i8,ja hi,ja hn,E,jc9,C0.q,C1.q,jc9,C0.r,C1.r,r8,γ,δ,ζ,η,θ]));all_goals clear zz)
  refine⟨⟨by(first|omega|(simp only[ji,jo,ju,jr,jq];first|done|omega)),ckX,Cl.cv (Cl.wr (?_:Cl _ 1 (Kd x.kids k)) k _) ap,?_,?_,?_⟩,?_,?_⟩
  ·exact ckX
  all_goals(simp(disch:=decide) only[jb];assumption)
 ·obtain⟨h2,C0,C1,i1,i3,i8⟩:=hI;have hc:=jiX x;have ea:Kd x.kids x.kids.length=[.int .i64 ((Qs x.kids).getD 0 0),.int .i64 ((Qs x.kids).getD 1 0)]:=by unfold Kd;rw[Qaf]
  rw[ea] at C1;generalize (Qs x.kids).getD 0 0=a at *;generalize (Qs x.kids).getD 1 0=b at *;rw[hc];have B:=jsW hb
  (have zz:=aI C0.r C1.r;(repeat'(first|apply jc<;>intro _|simp(disch:=first|exact jY|fail) only[ja i1,ja i3,ja i8,B,jp2,jgN,jgW,jg9,C0.q,C1.q,C0.r,C1.r,r8,γ,δ,ζ,η,θ]));all_goals clear zz)
  all_goals(refine G0.v (congrArg _ ?_) rfl;unfold jgf;simp_all)
def stW (n:Int)(v:VarT):Int:=qN .u64 (n * qN .u64 (qN .u64 (qN .u64 v.hi - qN .u64 v.lo)+1))
def Qj (vars:List VarT):Int:=qN .i64 (vars.foldl stW 1)
set_option maxHeartbeats 4000000 in
theorem jbJ (hb:NB base)(vars:List VarT)(hl:vars.length<=1000000)(n2 n3:Nat)(c2 c3:List AV):PL ε base 36 [.agg [.lst vars.length (fl vaE vars),.lst n2 c2,.lst n3 c3]] (.ok (.int .i64 (Qj vars))):=by
 refine zg x33 (by rfl) (hb.pur 36 5 dc) rfl ?_;simp only[y33,jt,κ,μ,ν,ξ];rw[(by unfold z33;simp only[qq];rfl:z33=_)];repeat'(first|apply jc<;>intro _|simp(disch:=first|exact dzG|fail) only[r8,γ,δ,ζ,η,θ])
 refine jZ vars.length (λk L s=>1<=s.nx/\Has L 3 (.int .u64 ((vars.take k).foldl stW 1))/\Has L 7 (.lst vars.length (fl vaE vars))) (by first|assumption|omega) dc (by simp(disch:=decide) only[jf,jb]) (by simp(disch:=decide) only[jf,jb]) ?_ (λk L s v h=>(by obtain⟨h1,h2,h3⟩:=h;refine⟨h1,?_,?_⟩<;>simp(disch:=decide) only[jb]<;>assumption)) (λk L s v h=>(by obtain⟨h1,h2,h3⟩:=h;refine⟨h1,?_,?_⟩<;>simp(disch:=decide) only[jb]<;>assumption)) (λk L s hk hI hi hn=>?_) (λL s hI=>?_)
 ·refine⟨by(first|omega|(simp only[ji,jo,ju,jr,jq];first|done|omega)),?_,?_⟩<;>simp(disch:=decide) only[jb,jf,QaG,List.foldl_nil]
 ·obtain⟨h1,i3,i7⟩:=hI;have tk:vars.take (k+1)=vars.take k ++ [vars[k]]:=yI hk;have A1:=λa b st K=>@jg9 st K .u64 a b;have A2:=λa b st K=>@jgN st K .u64 a b;repeat'(first|apply jc<;>intro _|simp(disch:=first|exact dzG|fail) only[ja i3,ja i7,ja hi,ja hn,jg7,jgW,A1,A2,r8,γ,δ,ζ,η,θ])
  refine⟨⟨by(first|omega|(simp only[ji,jo,ju,jr,jq];first|done|omega)),?_,?_⟩,?_,?_⟩
  ·rw[tk,Qbm];exact⟨rfl,rfl⟩
  all_goals(simp(disch:=decide) only[jb];assumption)
 ·obtain⟨h1,i3,i7⟩:=hI;rw[Qaf] at i3;repeat'(first|apply jc<;>intro _|simp(disch:=first|exact dzG|fail) only[ja i3,jg7,r8,γ,δ,ζ,η,θ])
  exact G0.v rfl rfl
def JA (vars:List VarT)(enums:List EnumT):VarT->List Ex->KR VarT
 |v,[]=>.ok v
 |v,x :: xs=>match yC vars enums false x v.kind v.enum with
  |.er a b c=>.er a b c
  |.ok y=>match J0 y with
   |some z=>.er 161 z.line z.col
   |none=>if Jv y<v.lo\/v.hi<Jv y then .er 164 x.line x.col else JA vars enums { v with beg:=true,first:=Jv y } xs
theorem Kb {vars:List VarT}{enums:List EnumT}:∀ {xs ys:List Ex} {v:VarT},JA vars enums v (xs ++ ys)=match JA vars enums v xs with | .er a b c=>.er a b c | .ok u=>JA vars enums u ys
 |[],ys,v=>rfl
 |x :: xs,ys,v=>by
  simp only[Qag,JA];cases yC vars enums false x v.kind v.enum with
  |er a b c=>rfl
  |ok y=>
   dsimp only;cases J0 y with
   |some z=>rfl
   |none=>
    dsimp only;split
    ·rfl
    ·exact Kb
def en0:EnumT:=⟨[],[],0,0⟩
def Jy (enums:List EnumT)(nm:List Nat):Int:=fi (λx=>decide (x.name=nm)) enums
def uc (enums:List EnumT)(d:DeclT):KR VarT:=
 if d.ty=[98,111,111,108] then .ok ⟨d.name,2,[],0,1,false,0⟩
 else if 0<=Jy enums d.ty then .ok ⟨d.name,3,d.ty,0,((enums.getD (Jy enums d.ty).toNat en0).vals.length:Int) - 1,false,0⟩
 else if d.ty≠[] then .er 161 d.line d.col
 else if d.hi<d.lo then .er 164 d.line d.col
 else if 1024<=d.hi - d.lo then .er 165 d.line d.col
 else .ok ⟨d.name,1,[],d.lo,d.hi,false,0⟩
def kN (m:ModT)(ts:List (List Nat))(d:DeclT)(v:VarT):KR (ModT×List (List Nat)):=
 if 281474976710656<Qj (m.vars ++ [v]) then .er 165 d.line d.col else .ok ({ m with vars:=m.vars ++ [v] },ts)
def wR (m:ModT)(ts:List (List Nat))(d:DeclT)(v:VarT):KR (ModT×List (List Nat)):=match JA m.vars m.enums v d.begins with
 |.er a b c=>.er a b c
 |.ok v=>kN m ts d v
def XV (m:ModT)(ts:List (List Nat))(d:DeclT):KR (ModT×List (List Nat)):=match Xx ts d.name d.line d.col with
 |.er a b c=>.er a b c
 |.ok ts=>match uc m.enums d with
  |.er a b c=>.er a b c
  |.ok v=>wR m ts d v
section
variable {p mb lo hi:Nat} {m:ModT} {ts us:List (List Nat)} {v1 v2 v3:AV} {s t:St}
theorem MS.ck (S:MS p mb lo hi m ts v1 v2 v3 s):Ck p v1 v2 v3 (.map mb) m.vars m.enums false s:=by
 obtain⟨C,M,l1,l2,l3,d12,d13,d23,hp,hm,pm,h1,h2⟩:=S;refine⟨C,l1.lr,l2.lr,?_,?_⟩
 ·intro b k z x e;rcases l1 with ⟨h,_⟩|⟨c,h,h2,_⟩
  ·rw[h] at e;cases e
  ·rw[h] at e;cases e;omega
 ·intro b k z x e;rcases l2 with ⟨h,_⟩|⟨c,h,h2,_⟩
  ·rw[h] at e;cases e
  ·rw[h] at e;cases e;omega
theorem MS.var (S:MS p mb lo hi m ts v1 v2 v3 s)(e:VarT):MS p mb lo (s.nx+1) { m with vars:=m.vars ++ [e] } ts (apv 7 v1 s) v2 v3 (Go.Sy.wr (Go.Sy.aps v1 s (vaE e)) p 0 [apv 7 v1 s]):=by
 obtain⟨C,M,l1,l2,l3,d12,d13,d23,hp,hm,pm,h1,h2⟩:=S;have h4:=C.lt;have hn:(Go.Sy.wr (Go.Sy.aps v1 s (vaE e)) p 0 [apv 7 v1 s]).nx=s.nx+1:=by rw[jo,jr]
 refine⟨?_,?_,?_,?_,?_,(Df.put l2 h2).1,(Df.put l3 h2).1,d23,hp,hm,pm,om,by rw[hn];exact τ _⟩
 ·exact(cast (l1.cl s (vaE e) _ p (.inl hp) h4).symm C:Cl (Go.Sy.aps v1 s (vaE e)) p _).wr 0 [apv 7 v1 s]
 ·exact M.keep (by rw[hn];omega) (by rw[Jo (λh=>pm h.symm)];exact l1.get s (vaE e) mb (.inl hm) M.lt)
 ·rw[jA (.inl hp),ψ,QX,JZ];exact l1.put (Xv e) om rfl
 ·rw[jA (.inl hp)];exact(l2.apsD d12).up om
 ·rw[jA (.inl hp)];exact(l3.apsD d13).up om
end
def va0:List AV:=[.str [],.int .i64 0,.str [],.int .i64 0,.int .i64 0,.bool false,.int .i64 0]
def dQ (st:St)(K:AV->St->Prop):Out->Prop:=Xp ε y62.res λv s=>K v (back st s)
def dP (st:St)(Kp:AV->St->Prop):AV->Sl->St->Prop:=λv _ s=>Kp v (bk st s)
structure DS (p mb lo q:Nat)(m:ModT)(ts:List (List Nat))(v1 v2 v3:AV)(d:DeclT)(v:VarT)(st:St)(L:Sl)(s:St):Prop where
 S:MS p mb lo q m ts v1 v2 v3 s
 k:Kq p mb lo st.bare s
 nx:q+2<=s.nx
 c3:Cl s q (qk d)
 c4:Cl s (q+1) (vaE v)
 i0:Has L 0 (.ptr p 0)
 i3:Has L 3 (.ptr q 0)
 i4:Has L 4 (.ptr (q+1) 0)
theorem jkJ (hb:NB base)(vars:List VarT)(hl:vars.length<=1000000){st:St}{v1 v2 v3:AV}{n2 n3:Nat}{c2 c3:List AV}(h1:Lr st v1 vars.length (fl vaE vars))(h2:Lr st v2 n2 c2)(h3:Lr st v3 n3 c3)(p2:c2.all pc=true)(p3:c3.all pc=true)(K Kp:AV->St->Prop) :
  XB ε base 36 [.agg [v1,v2,v3]] st K Kp=K (.int .i64 (Qj vars)) st:=by
 refine(jbJ hb vars hl n2 n3 c2 c3).xb (qK (jh8 (jfO (h1.fz (d:=6) (yZ YW vars)) (jfO (h2.fz (d:=6) p2) (jfO (h3.fz (d:=6) p3) jsP)))) zJ) (λst=>hb.no 36 dc _ _) K Kp
set_option maxHeartbeats 4000000 in
theorem jrv (hb:NB base){p mb lo q:Nat}{m:ModT}{ts:List (List Nat)}{v1 v2 v3:AV}{d:DeclT}{v:VarT}{st:St}{L:Sl}{s:St}(D:DS p mb lo q m ts v1 v2 v3 d v st L s)(hV:m.vars.length<=900000)(K Kp:AV->St->Prop)(hK:KM p mb lo st (kN m ts d v) K Kp):xC ε base jeZ L s (dQ st K) (dP st Kp):=by
 obtain⟨S,k,nx,C3,C4,i0,i3,i4⟩:=D;obtain⟨C,M,l1,l2,l3,d12,d13,d23,hp,hm,pm,lo0,hi0⟩:=id S;have ve1:=l1.eqs;have Ap:=λst' bv xc xx K h hv=>@JS lo q m.vars.length 7 st' v1 (fl vaE m.vars) K 72 bv xc xx h dc om om hv;have hqp:q≠p:=om
 have hqp1:q+1≠p:=om
 have S3:=(S.nw (vaE v)).var v;have q2:=(((k.nw om (vaE v)).aps l1 (by(first|omega|(simp only[ji,jo,ju,jr,jq];first|done|omega))) (vaE v)).wr (.inl rfl) 0 [apv 7 v1 (Go.Sy.nw s (vaE v))]).bk;have S33:=λK Kp=>jkJ hb (m.vars ++ [v]) (by simp;omega) S3.l1.lr S3.l2.lr S3.l3.lr (yZ J1 _) (yZ Za _) K Kp;have S2:=(S3.up (by(first|omega|(simp only[ji,jo,ju,jr,jq];first|done|omega))) (τ _)).ofbk (u:=st);have gp:rat s.h p 0=v1:=C.cell 0 (by simp only[υ,ω];omega);clear S3;simp only[Wo] at S33;unfold dQ dP y62;rw[(by unfold jeZ;simp only[qq];rfl:jeZ=_)];unfold kN at hK;by_cases hs:281474976710656<Qj (m.vars ++ [v])
 ·rw[if_pos hs] at hK
  (have zz:=aI @l1.ln (aI @l1.rts (aI @jA (aI @jF (aI @jJ (aI @l1 (aI @jC (aI @jI (aI @jL (aI C3.r (aI C4.r C.r))))))))));(repeat'(first|apply jc<;>intro _|simp(disch:=first|exact jY|fail) only[ja i0,ja i3,ja i4,Ap,l1.at,S33,hs,zZ hb,jC,C3.q,C4.q,C.q,l1.ln,l1.rts,jA,jF,jJ,l1,jC,jI,jL,C3.r,C4.r,C.r,r8,γ,δ,ζ,η,θ]));all_goals clear zz)
  exact hK _ q2
 ·rw[if_neg hs] at hK
  (have zz:=aI @l1.ln (aI @l1.rts (aI @jA (aI @jF (aI @jJ (aI @l1 (aI @jC (aI @jI (aI @jL (aI C3.r (aI C4.r C.r))))))))));(repeat'(first|apply jc<;>intro _|simp(disch:=first|exact jY|fail) only[ja i0,ja i3,ja i4,Ap,l1.at,S33,hs,jC,C3.q,C4.q,C.q,l1.ln,l1.rts,jA,jF,jJ,l1,jC,jI,jL,C3.r,C4.r,C.r,r8,γ,δ,ζ,η,θ]));all_goals clear zz)
  exact hK _ q2 ⟨_,_,_,S2⟩
mutual
theorem gi {vars:List VarT}{enums:List EnumT}:∀ (fm:Bool) (x y:Ex) (m:MtT),Qa x=true->ya vars enums fm x=.ok (y,m)->Qa y=true
 |fm,.mk op num name ks l c,y,m,ht,h=>by
  rw[ya] at h;split at h
  ·cases h;exact ht
  ·split at h
   ·cases h;exact ht
   ·split at h
    ·unfold zh at h;split at h
     ·cases h;rfl
     ·split at h
      ·cases h
      ·cases h;rfl
    ·split at h
     ·cases h
     ·rename_i r hr;rw[Qa,Qaa,decide_eq_true_eq] at ht;have h2:=ku _ _ r.1 r.2 ht.2 hr;have h3:r.1.length=ks.length:=(Jc hr).1;unfold X5 at h;have e:∀ o n nm l c,Qa (.mk o n nm r.1 l c)=true:=λo n nm l c=>by rw[Qa,Qaa,decide_eq_true_eq];exact⟨om,h2⟩
      split at h
      ·cases h
      ·split at h
       ·cases h;exact e _ _ _ _ _
       ·split at h
        ·cases h
        ·cases h;exact e _ _ _ _ _
theorem ku {vars:List VarT}{enums:List EnumT}:∀ (fm:Bool) (xs ys:List Ex) (ms:List MtT),JV xs=true->qd vars enums fm xs=.ok (ys,ms)->JV ys=true
 |fm,[],ys,ms,_,h=>by rw[qd] at h;cases h;rfl
 |fm,x :: xs,ys,ms,ht,h=>by
  rw[JV,Qaa] at ht;rw[qd] at h;cases hx:ya vars enums fm x with
  |er a b d=>rw[hx] at h;cases h
  |ok y=>
   rw[hx] at h;cases hr:qd vars enums fm xs with
   |er a b d=>rw[hr] at h;cases h
   |ok r=>
    rw[hr] at h;cases h;rw[JV,Qaa];exact⟨gi fm x y.1 y.2 ht.1 hx,ku fm xs r.1 r.2 ht.2 hr⟩
end
theorem jdl {vars:List VarT}{enums:List EnumT}{fm:Bool}{x y:Ex}{w:Int}{en:List Nat}(ht:Qa x=true)(h:yC vars enums fm x w en=.ok y):Qa y=true:=by
 unfold yC at h;split at h
 ·cases h
 ·rename_i r hr;split at h
  ·cases h
  ·cases h;exact gi fm x r.1 r.2 ht hr
mutual
theorem YI:∀ x:Ex,Qa x=true->wo x=true
 |.mk op num name ks l c,h=>by
  rw[Qa,Qaa,decide_eq_true_eq] at h;rw[wo,Qaa,decide_eq_true_eq];exact⟨om,Ko ks h.2⟩
theorem Ko:∀ xs:List Ex,JV xs=true->YV xs=true
 |[],_=>rfl
 |x :: xs,h=>by
  rw[JV,Qaa] at h;rw[YV,Qaa];exact⟨YI x h.1,Ko xs h.2⟩
end
def OkE (x:Ex):Prop:=Qa x=true/\ZQ x=true
section
variable {p mb lo q:Nat} {m:ModT} {ts:List (List Nat)} {v1 v2 v3:AV} {d:DeclT} {v:VarT} {st:St} {L:Sl} {s:St}
theorem DS.push (D:DS p mb lo q m ts v1 v2 v3 d v st L s){c:Nat}{w:AV}(h:c≠0/\c≠3/\c≠4):DS p mb lo q m ts v1 v2 v3 d v st ((c,w) :: L) s:=by
 obtain⟨S,k,nx,c3,c4,i0,i3,i4⟩:=D;exact⟨S,k,nx,c3,c4,by rw[jb h.1];exact i0,by rw[jb h.2.1];exact i3,by rw[jb h.2.2];exact i4⟩
end
set_option maxHeartbeats 4000000 in
theorem jrw (hb:NB base){p mb lo q:Nat}{m:ModT}{ts:List (List Nat)}{v1 v2 v3:AV}{d:DeclT}{v:VarT}{st:St}{L:Sl}{s:St}(D:DS p mb lo q m ts v1 v2 v3 d v st L s)(V:VarsOK m.vars m.enums)(hV:m.vars.length<=900000)(hx:∀ x∈d.begins,OkE x)(hbl:d.begins.length<=1000000)(K Kp:AV->St->Prop)(hK:KM p mb lo st (wR m ts d v) K Kp):xC ε base jbj L s (dQ st K) (dP st Kp):=by
 have i0:=D.i0;have i3:=D.i3;have i4:=D.i4;have C3:=D.c3;have C4:=D.c4;rw[(by unfold jbj;simp only[qq];rfl:jbj=_)]
 (have zz:=aI C3.r C4.r;(repeat'(first|apply jc<;>intro _|simp(disch:=first|exact jY|fail) only[ja i0,ja i3,ja i4,C3.q,C4.q,C3.r,C4.r,r8,γ,δ,ζ,η,θ]));all_goals clear zz)
 refine jZ d.begins.length (λk L s=>(∃ u,JA m.vars m.enums v (d.begins.take k)=.ok u/\DS p mb lo q m ts v1 v2 v3 d u st L s)/\Has L 93 (.lst d.begins.length (fl eE d.begins))) (by first|assumption|omega) dc (by simp(disch:=decide) only[jf,jb]) (by simp(disch:=decide) only[jf,jb]) ?_ (λk L s v h=>(by obtain⟨⟨u,h1,h2⟩,h3⟩:=h;refine⟨⟨u,h1,h2.push dc⟩,?_⟩;simp(disch:=decide) only[jb];assumption)) (λk L s v h=>(by obtain⟨⟨u,h1,h2⟩,h3⟩:=h;refine⟨⟨u,h1,h2.push dc⟩,?_⟩;simp(disch:=decide) only[jb];assumption)) (λk L s hk hI hi hn=>?_) (λL s hI=>?_)
 ·refine⟨⟨v,by rw[QaG,JA],((D.push dc).push dc).push dc⟩,?_⟩;simp(disch:=decide) only[jb,jf]
 ·obtain⟨⟨u,h1,D⟩,i93⟩:=hI;obtain⟨S,k0,nx,C3,C4,i0,i3,i4⟩:=D;have tk:d.begins.take (k+1)=d.begins.take k ++ [d.begins[k]]:=yI hk;obtain⟨x1,x2⟩:=hx _ (Qac hk);have hqm:q≠p/\q+1≠p:=by have:=S.hp;have:=S.lo;omega
  have hqn:=S.hi;have hlq:=S.lo;have z6l:(eE d.begins[k]).length=([.int .i64 0,.int .i64 0,.str [],.nils,.int .i64 0,.int .i64 0]:List AV).length:=by rw[zK];rfl
  have S1:=(S.nw [.int .i64 0,.int .i64 0,.str [],.nils,.int .i64 0,.int .i64 0]).wr hqn 0 (eE d.begins[k]);have k1:=(k0.nw om [.int .i64 0,.int .i64 0,.str [],.nils,.int .i64 0,.int .i64 0]).wr (c:=s.nx) (.inr om) 0 (eE d.begins[k]);have C7:=(Cl.new s [.int .i64 0,.int .i64 0,.str [],.nils,.int .i64 0,.int .i64 0]).wr0 z6l;have D3:Cl (Go.Sy.wr (Go.Sy.nw s [.int .i64 0,.int .i64 0,.str [],.nils,.int .i64 0,.int .i64 0]) s.nx 0 (eE d.begins[k])) q (qk d):=ckX
  have D4:Cl (Go.Sy.wr (Go.Sy.nw s [.int .i64 0,.int .i64 0,.str [],.nils,.int .i64 0,.int .i64 0]) s.nx 0 (eE d.begins[k])) (q+1) (vaE u):=ckX
  (have zz:=aI C3.r C4.r;(repeat'(first|apply jc<;>intro _|simp(disch:=first|exact jY|fail) only[ja i0,ja i3,ja i4,ja i93,ja hi,ja hn,C3.q,C4.q,C3.r,C4.r,r8,γ,δ,ζ,η,θ]));all_goals clear zz)
  have hn1:(Go.Sy.wr (Go.Sy.nw s [.int .i64 0,.int .i64 0,.str [],.nils,.int .i64 0,.int .i64 0]) s.nx 0 (eE d.begins[k])).nx=s.nx+1:=rfl;generalize Go.Sy.wr (Go.Sy.nw s [.int .i64 0,.int .i64 0,.str [],.nils,.int .i64 0,.int .i64 0]) s.nx 0 (eE d.begins[k])=t1 at *;refine Ux hb V _ x2 (YI _ x1) u.kind u.enum S1.ck _ _ ?_;have e3:d.begins=d.begins.take k ++ (d.begins[k] :: d.begins.drop (k+1)):=by rw[QbM,Qbp]
  have bk1:JA m.vars m.enums v d.begins=JA m.vars m.enums u (d.begins[k] :: d.begins.drop (k+1)):=by
   have e:=congrArg (JA m.vars m.enums v) e3;rw[Kb,h1] at e;exact e
  have bk2:JA m.vars m.enums v (d.begins.take (k+1))=JA m.vars m.enums u [d.begins[k]]:=by
   rw[tk,Kb,h1]
  unfold wR at hK;rw[bk1,JA] at hK;rw[JA] at bk2;cases hr:yC m.vars m.enums false d.begins[k] u.kind u.enum with
  |er a b c=>
   rw[hr] at hK;intro s' k2;exact hK _ (k1.keep k2 om).bk
  |ok y=>
   have y1:=jdl x1 hr;have y2:=YI _ y1;rw[hr] at hK bk2;dsimp only at hK bk2;intro s' k2 C2;have hs':=k2.nx;have k3:=k1.keep k2 om;have S3:=S1.keep k2 C2;have E3:=k2.cl D3 hqm.1;have E4:=k2.cl D4 hqm.2;have E7:=k2.cl C7 (by have:=S.cp.lt;omega);have F:=joe hb y y2;clear S1 k1 k2 C2 C7 D3 D4 C3 C4 S k0;cases hf:J0 y with
   |some z=>
    rw[show Ju y=(z,true) by unfold Ju;rw[hf]] at F;rw[hf] at hK
    (have zz:=aI E3.r (aI E4.r E7.r);(repeat'(first|apply jc<;>intro _|simp(disch:=first|exact jY|fail) only[ja i0,ja i3,ja i4,F,zZ hb,E3.q,E4.q,E7.q,E3.r,E4.r,E7.r,r8,γ,δ,ζ,η,θ]));all_goals clear zz)
    exact hK _ (((((k3.nw om _).wr (c:=s'.nx) (.inr om) 0 _).nw (by(first|omega|(simp only[ji,jo,ju,jr,jq];first|done|omega))) _).wr (.inr (by(first|omega|(simp only[ji,jo,ju,jr,jq];first|done|omega)))) 0 _)).bk
   |none=>
    rw[show Ju y=(y,false) by unfold Ju;rw[hf]] at F;rw[hf] at hK bk2;dsimp only at hK bk2;have G:=jgh hb y y1 hf;by_cases hc:Jv y<u.lo\/u.hi<Jv y
    ·rw[if_pos hc] at hK
     (have zz:=aI E3.r (aI E4.r E7.r);(repeat'(first|apply jc<;>intro _|simp(disch:=first|exact jY|fail) only[ja i0,ja i3,ja i4,F,G,zZ hb,E3.q,E4.q,E7.q,E3.r,E4.r,E7.r,r8,γ,δ,ζ,η,θ]));all_goals clear zz)
     all_goals exact hK _ ((((((k3.nw om _).wr (c:=s'.nx) (.inr om) 0 _).nw (by(first|omega|(simp only[ji,jo,ju,jr,jq];first|done|omega))) _).wr (.inr (by(first|omega|(simp only[ji,jo,ju,jr,jq];first|done|omega)))) 0 _).wr (c:=q+1) (.inr om) 5 _).wr (c:=q+1) (.inr om) 6 _).bk
    ·rw[if_neg hc] at bk2;have hc1:¬ Jv y<u.lo:=λh=>hc (.inl h);have hc2:¬ u.hi<Jv y:=λh=>hc (.inr h)
     (have zz:=aI E3.r (aI E4.r E7.r);(repeat'(first|apply jc<;>intro _|simp(disch:=first|exact jY|fail) only[ja i0,ja i3,ja i4,ja hi,F,G,hc1,hc2,E3.q,E4.q,E7.q,E3.r,E4.r,E7.r,r8,γ,δ,ζ,η,θ]));all_goals clear zz)
     have S5:=((((((S3.nw [.int .i64 0,.int .i64 0,.str [],.nils,.int .i64 0,.int .i64 0]).wr (c:=s'.nx) om 0 (eE y)).nw [.int .i64 0,.int .i64 0,.str [],.nils,.int .i64 0,.int .i64 0]).wr (c:=s'.nx+1) om 0 (eE y)).wr (c:=q+1) om 5 [.bool true]).wr (c:=q+1) om 6 [.int .i64 (Jv y)]);have k5:=((((((k3.nw om [.int .i64 0,.int .i64 0,.str [],.nils,.int .i64 0,.int .i64 0]).wr (c:=s'.nx) (.inr om) 0 (eE y)).nw (by(first|omega|(simp only[ji,jo,ju,jr,jq];first|done|omega))) [.int .i64 0,.int .i64 0,.str [],.nils,.int .i64 0,.int .i64 0]).wr (c:=s'.nx+1) (.inr om) 0 (eE y)).wr (c:=q+1) (.inr om) 5 [.bool true]).wr (c:=q+1) (.inr om) 6 [.int .i64 (Jv y)]);refine⟨⟨⟨{ u with beg:=true,first:=Jv y },?_,S5,k5,by(first|omega|(simp only[ji,jo,ju,jr,jq];first|done|omega)),?_,Cl.wr (Cl.wr (?_:Cl _ (q+1) (vaE u)) 5 [.bool true]) 6 [.int .i64 (Jv y)],?_,?_,?_⟩,?_⟩,?_,?_⟩
     ·rw[bk2];rfl
     ·exact ckX
     ·exact ckX
     all_goals(simp(disch:=decide) only[jb];assumption)
 ·obtain⟨⟨u,h1,D⟩,i93⟩:=hI;rw[Qaf] at h1;unfold wR at hK;rw[h1] at hK;repeat'(first|apply jc<;>intro _|simp(disch:=first|exact dzG|fail) only[r8,γ,δ,ζ,η,θ])
  exact jrv hb D hV K Kp hK
theorem jfV (hb:NB base)(enums:List EnumT)(hl:enums.length<=1000000)(d:DeclT){v2:AV}(st:St){q:Nat}(h:Lr st v2 enums.length (fl enE enums))(C:Cl st q (qk d))(K Kp:AV->St->Prop) :
  XB ε base 92 [v2,.fn 93 [.ptr q 0]] st K Kp=K (.int .i64 (Jy enums d.ty)) st:=by
 refine(jfU hb enums (by unfold BIG;omega) d).xb (qK (h.lend (yZ J1 enums)) (qK ?_ zJ)) (λst=>hb.no 92 dc _ _) K Kp;show(Qo st.h [.ptr q 0]).map (AV.fn 93)=_;have:ZS st.h (.ptr q 0)=some (.lptr (qk d) 0):=vC C (Qq (WV 8 rfl) rfl (Qq (WV 8 rfl) rfl (Qq (WV 8 rfl) rfl (Qq (WV 8 rfl) rfl (Qq (WV 8 rfl) rfl (Qq (WV 8 rfl) rfl (Qq (WV 8 rfl) rfl GA)))))));simp only[Qo,this];rfl
set_option maxHeartbeats 4000000 in
theorem jru (hb:NB base){p mb lo:Nat}{m:ModT}{ts:List (List Nat)}{st:St}(d:DeclT)(V:VarsOK m.vars m.enums)(hV:m.vars.length<=900000)(hx:∀ x∈d.begins,OkE x)(hbl:d.begins.length<=1000000)(hlo : -100000000<=d.lo/\d.lo<=100000000)(hhi : -100000000<=d.hi/\d.hi<=100000000)(H:MX p mb lo m ts st)(K Kp:AV->St->Prop)(hK:KM p mb lo st (XV m ts d) K Kp):XB ε base 69 [.ptr p 0,.agg (qk d)] st K Kp:=by
 obtain⟨v1,v2,v3,S⟩:=H;obtain⟨C,M,l1,l2,l3,d12,d13,d23,hp,hm,pm,lo0,hi0⟩:=id S;refine Jf x62 (by rfl) (hb.at0 69 dc dc _ _) ?_;simp only[y62,jt,κ,μ,ν,ξ];rw[(by unfold z62;simp only[qq];rfl:z62=_)];have hnx:st.bare.nx=st.nx:=rfl;have S0:=S.bare.nw (qk d);have q1:=(Kq.refl:Kq p mb lo st.bare st.bare).nw (Qab lo0 hi0) (qk d);have Cb:Cl (Go.Sy.nw st.bare (qk d)) st.nx (qk d):=Cl.new st.bare (qk d);unfold XV Xx at hK;repeat'(first|apply jc<;>intro _|simp(disch:=first|exact dzG|fail) only[r8,γ,δ,ζ,η,θ])
 refine Kt hb S0.cp S0.mp _ _ _ _ _ ?_;by_cases h:d.name∈ts
 ·rw[if_pos h] at hK ⊢;exact hK _ q1.bk
 ·rw[if_neg h] at hK ⊢
  replace S0:=S0.take (ts ++ [d.name])
  replace q1:=q1.mp (mpl (ts ++ [d.name]))
  have Cb:Cl (Go.Sy.mp (Go.Sy.nw st.bare (qk d)) mb (mpl (ts ++ [d.name]))) st.nx (qk d):=by rw[W5 om];exact Cb
  have hn1:(Go.Sy.mp (Go.Sy.nw st.bare (qk d)) mb (mpl (ts ++ [d.name]))).nx=st.nx+1:=rfl;generalize Go.Sy.mp (Go.Sy.nw st.bare (qk d)) mb (mpl (ts ++ [d.name]))=s1 at *;dsimp only at hK;have Cv:=(Cl.new s1 va0).wr0 (c':=vaE ⟨d.name,1,[],d.lo,d.hi,false,0⟩) rfl;have S1:=(S0.nw va0).wr (c:=s1.nx) om 0 (vaE ⟨d.name,1,[],d.lo,d.hi,false,0⟩);have q2:=(q1.nw om va0).wr (c:=s1.nx) (.inr om) 0 (vaE ⟨d.name,1,[],d.lo,d.hi,false,0⟩);have Cd:Cl (Go.Sy.wr (Go.Sy.nw s1 va0) s1.nx 0 (vaE ⟨d.name,1,[],d.lo,d.hi,false,0⟩)) st.nx (qk d):=ckX
  have FE:=λK Kp=>jfV hb m.enums V.len2 d _ S1.l2.lr Cd K Kp;have C0:=S0.cp;have C1:=S1.cp;have hmp:st.nx≠p/\st.nx+1≠p:=om
  simp only[Wo,hn1] at FE;simp only[hn1] at S1 q2 Cv Cd C1;unfold va0 at *;have mk:∀ (v:VarT) (L:Sl) (s:St),MS p mb lo st.nx m (ts ++ [d.name]) v1 v2 v3 s->Kq p mb lo st.bare s->st.nx+2<=s.nx->Cl s st.nx (qk d)->Cl s (st.nx+1) (vaE v)->Has L 0 (.ptr p 0)->Has L 3 (.ptr st.nx 0)->Has L 4 (.ptr (st.nx+1) 0)->KM p mb lo st (wR m (ts ++ [d.name]) d v) K Kp->xC ε base jbj L s (dQ st K) (dP st Kp):=λv L s a1 a2 a3 a4 a5 a6 a7 a8 hK=>jrw hb ⟨a1,a2,a3,a4,a5,a6,a7,a8⟩ V hV hx hbl K Kp hK;unfold uc at hK;by_cases h1:d.ty=[98,111,111,108]
  ·rw[if_pos h1] at hK;have S2:=(((S1.wr (c:=st.nx+1) om 1 [.int .i64 2]).wr (c:=st.nx+1) om 3 [.int .i64 0]).wr (c:=st.nx+1) om 4 [.int .i64 1]);have q3:=(((q2.wr (c:=st.nx+1) (.inr om) 1 [.int .i64 2]).wr (c:=st.nx+1) (.inr om) 3 [.int .i64 0]).wr (c:=st.nx+1) (.inr om) 4 [.int .i64 1])
   (have zz:=aI @hn1 (aI @Cb.r C0.r);(repeat'(first|apply jc<;>intro _|simp(disch:=first|exact jY|fail) only[FE,h1,hn1,Cb.q,C0.q,hn1,Cb.r,C0.r,r8,γ,δ,ζ,η,θ]));all_goals clear zz)
   refine mk ⟨d.name,2,[],0,1,false,0⟩ _ _ S2 q3 (by(first|omega|(simp only[ji,jo,ju,jr,jq];first|done|omega))) (ckX) ?_ ?_ ?_ ?_ hK
   ·exact((Cv.wr 1 [.int .i64 2]).wr 3 [.int .i64 0]).wr 4 [.int .i64 1]
   all_goals simp(disch:=decide) only[jb,jf]
  rw[if_neg h1] at hK;by_cases h2:0<=Jy m.enums d.ty
  ·rw[if_pos h2] at hK;have hlt:Jy m.enums d.ty<(m.enums.length:Int):=Zf;have hi2:(Jy m.enums d.ty).toNat<m.enums.length:=om
   have eg:m.enums.getD (Jy m.enums d.ty).toNat en0=m.enums[(Jy m.enums d.ty).toNat]:=by simp[Qad,hi2]
   rw[eg] at hK;have Lw:=S0.l2;rcases id Lw with ⟨_,e0,_⟩|⟨b,rfl,b1,b2,Ce,b5,b6⟩
   ·omega
   have gl:qv s1.h b=m.enums.length * 4:=by rw[Ce.len,Jh Qd]
   have ge:rat s1.h b ((Jy m.enums d.ty).toNat * 4+1)=.lst m.enums[(Jy m.enums d.ty).toNat].vals.length (m.enums[(Jy m.enums d.ty).toNat].vals.map .str):=by
    rw[Ce.cell _ (by rw[Jh Qd];omega),vH Qd hi2 dc];rfl
   have hbp:b≠p/\b≠st.nx/\b≠st.nx+1/\b<s1.nx:=om
   have gp:rat s1.h p 1=.slice b 0 m.enums.length m.enums.length 4 false:=C0.cell 1 (by simp only[υ,ω];omega);have gd:rat s1.h st.nx 1=.str d.ty:=(Cb.cell 1 (by rw[Q1];decide)).trans (by rw[Wd];rfl);have hvl:=V.vals _ (Qac hi2)
   (have zz:=aI @hn1 (aI @gl (aI @ge (aI @Cb.r C0.r)));(repeat'(first|apply jc<;>intro _|simp(disch:=first|exact jY|fail) only[FE,h1,h2,hn1,ge,sm9,Gg,Gf,Cb.q,C0.q,hn1,gl,ge,Cb.r,C0.r,r8,γ,δ,ζ,η,θ]));all_goals clear zz)
   refine⟨?_,?_,?_,?_⟩;rotate_right
   ·have S2:=((((S1.wr (c:=st.nx+1) om 1 [.int .i64 3]).wr (c:=st.nx+1) om 2 [.str d.ty]).wr (c:=st.nx+1) om 3 [.int .i64 0]).wr (c:=st.nx+1) om 4 [.int .i64 ((m.enums[(Jy m.enums d.ty).toNat].vals.length:Int) - 1)]);have q3:=((((q2.wr (c:=st.nx+1) (.inr om) 1 [.int .i64 3]).wr (c:=st.nx+1) (.inr om) 2 [.str d.ty]).wr (c:=st.nx+1) (.inr om) 3 [.int .i64 0]).wr (c:=st.nx+1) (.inr om) 4 [.int .i64 ((m.enums[(Jy m.enums d.ty).toNat].vals.length:Int) - 1)]);refine mk ⟨d.name,3,d.ty,0,(m.enums[(Jy m.enums d.ty).toNat].vals.length:Int) - 1,false,0⟩ _ _ S2 q3 (by(first|omega|(simp only[ji,jo,ju,jr,jq];first|done|omega))) (ckX) ?_ ?_ ?_ ?_ hK
    ·exact(((Cv.wr 1 [.int .i64 3]).wr 2 [.str d.ty]).wr 3 [.int .i64 0]).wr 4 [.int .i64 ((m.enums[(Jy m.enums d.ty).toNat].vals.length:Int) - 1)]
    all_goals simp(disch:=decide) only[jb,jf]
   all_goals
    repeat' apply aI
    all_goals first
     |exact(Gf (by simp(disch:=omega) only[Xj,XM,gl];omega) (by simp(disch:=omega) only[Z6,vQ,ge]) rfl).mpr trivial
     |exact(Gg (by simp(disch:=omega) only[Xj,XM,C0.len,υ,ω];omega) (by simp(disch:=omega) only[Z6,vQ,gp]) rfl).mpr trivial
     |exact(sm9 (by simp(disch:=omega) only[Xj,XM,Cb.len,Q1];omega) (by simp(disch:=omega) only[Z6,vQ,gd]) rfl).mpr trivial
  rw[if_neg h2] at hK;by_cases h3:d.ty≠[]
  ·rw[if_pos h3] at hK
   (have zz:=aI @hn1 (aI @Cb.r C0.r);(repeat'(first|apply jc<;>intro _|simp(disch:=first|exact jY|fail) only[FE,h1,h2,h3,hn1,zZ hb,Cb.q,C0.q,hn1,Cb.r,C0.r,r8,γ,δ,ζ,η,θ]));all_goals clear zz)
   exact hK _ q2.bk
  rw[if_neg h3] at hK;have h3:(d.ty=[])=True:=eq_true (by simpa using h3);by_cases h4:d.hi<d.lo
  ·rw[if_pos h4] at hK
   (have zz:=aI @hn1 (aI @Cb.r C0.r);(repeat'(first|apply jc<;>intro _|simp(disch:=first|exact jY|fail) only[FE,h1,h2,h3,h4,hn1,zZ hb,Cb.q,C0.q,hn1,Cb.r,C0.r,r8,γ,δ,ζ,η,θ]));all_goals clear zz)
   exact hK _ q2.bk
  rw[if_neg h4] at hK;by_cases h5:1024<=d.hi - d.lo
  ·rw[if_pos h5] at hK
   (have zz:=aI @hn1 (aI @Cb.r C0.r);(repeat'(first|apply jc<;>intro _|simp(disch:=first|exact jY|fail) only[FE,h1,h2,h3,h4,h5,hn1,zZ hb,Cb.q,C0.q,hn1,Cb.r,C0.r,r8,γ,δ,ζ,η,θ]));all_goals clear zz)
   exact hK _ q2.bk
  rw[if_neg h5] at hK
  (have zz:=aI @hn1 (aI @Cb.r C0.r);(repeat'(first|apply jc<;>intro _|simp(disch:=first|exact jY|fail) only[FE,h1,h2,h3,h4,h5,hn1,Cb.q,C0.q,hn1,Cb.r,C0.r,r8,γ,δ,ζ,η,θ]));all_goals clear zz)
  refine mk _ _ _ S1 q2 (by(first|omega|(simp only[ji,jo,ju,jr,jq];first|done|omega))) (ckX) Cv ?_ ?_ ?_ hK;all_goals simp(disch:=decide) only[jb,jf]
theorem VW {s:St}:∀ {cs:List AV},cs.all pc=true->lall AV.cell cs=true->Ys (fz 9 s.h) cs=cs
 |[],_,_=>GA
 |v :: l,hp,hc=>by
  rw[QaF,Qaa] at hp;have h1:v.cell=true/\lall AV.cell l=true:=by
   have:cond v.cell (lall AV.cell l) false=true:=hc;cases h:v.cell with
   |true=>rw[h] at this;exact⟨rfl,this⟩
   |false=>rw[h] at this;cases this
  exact Qq (WV 8 hp.1) h1.1 (VW hp.2 h1.2)
theorem jsb {α:Type}{enc:α->List AV}{z:Nat}(hz:∀ x,(enc x).length=z){xs:List α}{k:IntKind}{i:Nat}(hi:i<=xs.length){st:St}{K:AV->St->Prop}:jp (uD z (.lst xs.length (fl enc xs)) none (some (.int k (i:Int))) st) K=K (.lst i (fl enc (xs.take i))) st:=by
 have e1:Qct (Qcv i z) (jP (fl enc xs))=true:=by
  rw[jN,Jh hz];exact qG (Qaz z hi)
 simp only[uD,optA,Gq,qG hi,qG (Qae i),e1,cond_true,jp,qY,zc];have e2:(fl enc xs).drop (Qcv 0 z)=fl enc xs:=by rw[show Qcv 0 z=0 from QaN z];rfl
 have e3:Qcv (Qcw i 0) z=i * z:=rfl;rw[e2,e3,jer hz];rfl
theorem jod (hb:NB base)(xs:List AsT)(hl:xs.length<=1000000)(a:AsT)(st:St){q:Nat}(C:Cl st q (asE a))(n:Nat)(hn:n=xs.length)(K Kp:AV->St->Prop) :
  XB ε base 98 [.lst n (fl asE xs),.fn 99 [.ptr q 0]] st K Kp=K (.bool (decide (0<=fi (λx=>decide (x.name=a.name)) xs))) st:=by
 subst hn;refine(joc hb xs (by unfold BIG;omega) a).xb (zU rfl (qK ?_ zJ)) (λst=>hb.no 98 dc _ _) K Kp;show(Qo st.h [.ptr q 0]).map (AV.fn 99)=_;have:ZS st.h (.ptr q 0)=some (.lptr (asE a) 0):=vC C (VW (Xb a) (gR a));simp only[Qo,this];rfl
theorem jfd (hb:NB base){p:Nat}{v1 v2 v3 mm:AV}{vars:List VarT}{enums:List EnumT}{fm:Bool}{st:St}(C:Ck p v1 v2 v3 mm vars enums fm st)(hl:vars.length<=1000000)(s:List Nat)(K Kp:AV->St->Prop) :
  XB ε base 97 [.ptr p 0,.str s] st K Kp=K (.int .i64 (qa vars s)) st:=by
 obtain⟨r,hr⟩:=C.lend;exact(Kl hb vars (by unfold BIG;omega) s _).xb (qK hr (zU rfl zJ)) (λst=>hb.no 97 dc _ _) K Kp
def mvc:List MoveT->List AV->List AV
 |m :: ms,u :: us=>(eE m.when ++ [u]) ++ mvc ms us
 |_,_=>[]
theorem jec:∀ {ms:List MoveT} {us:List AV} {m:MoveT} {u:AV},us.length=ms.length->mvc (ms ++ [m]) (us ++ [u])=mvc ms us ++ (eE m.when ++ [u])
 |[],[],m,u,_=>by simp[mvc]
 |m' :: ms,u' :: us,m,u,h=>by
  show(eE m'.when ++ [u']) ++ mvc (ms ++ [m]) (us ++ [u])=((eE m'.when ++ [u']) ++ mvc ms us) ++ (eE m.when ++ [u]);rw[jec (by simpa using h)];simp only[QaI]
 |[],u' :: us,m,u,h=>by simp at h
 |m' :: ms,[],m,u,h=>by simp at h
def UU (lo hi:Nat)(s:St)(v3:AV):List MoveT->List AV->Prop
 |[],[]=>True
 |m :: ms,u :: us=>(Lv lo hi s u m.acts.length (fl seE m.acts) 7/\Df v3 u)/\UU lo hi s v3 ms us
 |_,_=>False
theorem UU.imp {lo hi lo' hi':Nat}{s s':St}{v3 v3':AV}(f:∀ u n cs,Lv lo hi s u n cs 7/\Df v3 u->Lv lo' hi' s' u n cs 7/\Df v3' u):∀ {ms:List MoveT} {us:List AV},UU lo hi s v3 ms us->UU lo' hi' s' v3' ms us
 |[],[],_=>trivial
 |m :: ms,u :: us,h=>⟨f _ _ _ h.1,UU.imp f h.2⟩
theorem UU.len {lo hi:Nat}{s:St}{v3:AV}:∀ {ms:List MoveT} {us:List AV},UU lo hi s v3 ms us->us.length=ms.length
 |[],[],_=>rfl
 |m :: ms,u :: us,h=>by simp[UU.len h.2]
theorem UU.app {lo hi:Nat}{s:St}{v3:AV}{m:MoveT}{u:AV}(hu:Lv lo hi s u m.acts.length (fl seE m.acts) 7/\Df v3 u):∀ {ms:List MoveT} {us:List AV},UU lo hi s v3 ms us->UU lo hi s v3 (ms ++ [m]) (us ++ [u])
 |[],[],_=>⟨hu,trivial⟩
 |m' :: ms,u' :: us,h=>⟨h.1,UU.app hu h.2⟩
structure MR (p mb lo hi:Nat)(m:ModT)(ts:List (List Nat))(v1 v2 v3:AV)(us:List AV)(s:St):Prop where
 cp:Cl s p [v1,v2,v3,.map mb,.bool false]
 mp:Mp s mb ts
 l1:Lv lo hi s v1 m.vars.length (fl vaE m.vars) 7
 l2:Lv lo hi s v2 m.enums.length (fl enE m.enums) 4
 l3:Lv lo hi s v3 m.moves.length (mvc m.moves us) 7
 uu:UU lo hi s v3 m.moves us
 d13:Df v3 v1
 d23:Df v3 v2
 hp:p<lo
 hm:mb<lo
 pm:p≠mb
 lo:lo<=hi
 hi:hi<=s.nx
def MZ (p mb lo:Nat)(m:ModT)(ts:List (List Nat))(s:St):Prop:=∃ v1 v2 v3 us,MR p mb lo s.nx m ts v1 v2 v3 us s
theorem Df.symm2 {v w:AV}(h:Df v w):Df w v:=by
 unfold Df at *;cases v<;>cases w<;>first|trivial|exact λe=>h e.symm
section
variable {p mb lo hi:Nat} {m:ModT} {ts us:List (List Nat)} {v1 v2 v3:AV} {ws:List AV} {s t:St}
theorem MS.mr (S:MS p mb lo hi m ts v1 v2 v3 s)(h:m.moves=[]):MR p mb lo hi m ts v1 v2 v3 [] s:=by
 obtain⟨C,M,l1,l2,l3,d12,d13,d23,hp,hm,pm,h1,h2⟩:=S;refine⟨C,M,l1,l2,?_,?_,Df.symm2 d13,Df.symm2 d23,hp,hm,pm,h1,h2⟩
 ·rw[h] at l3 ⊢;exact l3
 ·rw[h];trivial
theorem MR.ck (S:MR p mb lo hi m ts v1 v2 v3 ws s):Ck p v1 v2 v3 (.map mb) m.vars m.enums false s:=by
 obtain⟨C,M,l1,l2,l3,uu,d13,d23,hp,hm,pm,h1,h2⟩:=S;refine⟨C,l1.lr,l2.lr,?_,?_⟩
 ·intro b k z x e;rcases l1 with ⟨h,_⟩|⟨c,h,h2,_⟩
  ·rw[h] at e;cases e
  ·rw[h] at e;cases e;omega
 ·intro b k z x e;rcases l2 with ⟨h,_⟩|⟨c,h,h2,_⟩
  ·rw[h] at e;cases e
  ·rw[h] at e;cases e;omega
theorem MR.imp (S:MR p mb lo hi m ts v1 v2 v3 ws s){hi':Nat}(C:Cl t p [v1,v2,v3,.map mb,.bool false])(M:Mp t mb us)(f:∀ v n cs z,Lv lo hi s v n cs z->Lv lo hi' t v n cs z)(h1:hi<=hi')(h2:hi'<=t.nx):MR p mb lo hi' m us v1 v2 v3 ws t:=
 ⟨C,M,f _ _ _ _ S.l1,f _ _ _ _ S.l2,f _ _ _ _ S.l3,S.uu.imp λu n cs h=>⟨f _ _ _ _ h.1,h.2⟩,S.d13,S.d23,S.hp,S.hm,S.pm,Qab S.lo h1,h2⟩
theorem MR.nw (S:MR p mb lo hi m ts v1 v2 v3 ws s)(ds:List AV):MR p mb lo hi m ts v1 v2 v3 ws (Go.Sy.nw s ds):=by
 have C:=S.cp;have h1:=S.hp;have h2:=S.hi;have h3:=S.lo;exact S.imp (ckX) (S.mp.nw ds) (λv n cs z h=>ckX) (τ _) (by rw[ji];omega)
theorem MR.wr (S:MR p mb lo hi m ts v1 v2 v3 ws s){c:Nat}(hc:hi<=c)(o:Nat)(ds:List AV):MR p mb lo hi m ts v1 v2 v3 ws (Go.Sy.wr s c o ds):=by
 have C:=S.cp;have h1:=S.hp;have h2:=S.hi;have h3:=S.lo;have h4:=S.hm;exact S.imp (ckX) (S.mp.wr om o ds) (λv n cs z h=>ckX) (τ _) (by rw[jo];omega)
theorem MR.take (S:MR p mb lo hi m ts v1 v2 v3 ws s)(us:List (List Nat)):MR p mb lo hi m us v1 v2 v3 ws (Go.Sy.mp s mb (mpl us)):=
 S.imp (by rw[W5 S.pm];exact S.cp) S.mp.put (λv n cs z h=>h.mp S.hm) (τ _) S.hi
theorem MR.keep (S:MR p mb lo hi m ts v1 v2 v3 ws s)(k:Keep p s t)(C':Cl t p [v1,v2,v3,.map mb,.bool false]):MR p mb lo hi m ts v1 v2 v3 ws t:=
 S.imp C' (S.mp.keep k.nx (k.get mb S.mp.lt (λe=>S.pm e.symm))) (λv n cs z h=>k.lv h (.inl S.hp)) (τ _) (Qab S.hi k.nx)
theorem MR.up (S:MR p mb lo hi m ts v1 v2 v3 ws s){hi':Nat}(h:hi<=hi')(h2:hi'<=s.nx):MR p mb lo hi' m ts v1 v2 v3 ws s:=
 S.imp S.cp S.mp (λv n cs z k=>k.up h) h h2
theorem MR.bare (S:MR p mb lo hi m ts v1 v2 v3 ws s):MR p mb lo hi m ts v1 v2 v3 ws s.bare:=
 S.imp S.cp.bar ⟨S.mp.lt,S.mp.get⟩ (λv n cs z h=>by rw[jH];exact h) (τ _) S.hi
theorem MR.ofbk {u:St}(S:MR p mb lo hi m ts v1 v2 v3 ws s):MR p mb lo hi m ts v1 v2 v3 ws (bk u s):=by
 have e:∀ b cs,Cl s b cs->Cl (bk u s) b cs:=λb cs h=>⟨h.lt,h.row,h.len,h.cell⟩;exact S.imp (e _ _ S.cp) ⟨S.mp.lt,S.mp.get⟩ (λv n cs z h=>h.imp id λ⟨c,h1,h2,h3,h4,h5,h6⟩=>⟨c,h1,h2,h3,e _ _ h4,h5,h6⟩) (τ _) S.hi
theorem MR.aps (S:MR p mb lo hi m ts v1 v2 v3 ws s){lo' hi' n' z':Nat}{v':AV}{cs':List AV}(V:Lv lo' hi' s v' n' cs' z')(h:hi<=lo')(ds:List AV):MR p mb lo hi m ts v1 v2 v3 ws (Go.Sy.aps v' s ds):=by
 have h0:=S.hp;have h1:=S.hm;have h2:=S.lo;have h3:=S.hi;exact S.imp (S.cp.aps V (.inl om)) (S.mp.keep (by rw[jr];omega) (V.get s ds mb (.inl om) S.mp.lt)) (λv n cs z k=>k.aps V (.inl h)) (τ _) (by rw[jr];omega)
theorem Lv.low {lo lo' hi n z:Nat}{s:St}{v:AV}{cs:List AV}(h:Lv lo' hi s v n cs z)(h2:lo<=lo'):Lv lo hi s v n cs z:=h.imp id λ⟨c,h1,h3,h4,h5,h6,h7⟩=>⟨c,h1,h3,h4,h5,om,h7⟩
theorem MR.move (S:MR p mb lo hi m ts v1 v2 v3 ws s)(e:MoveT){u:AV}{z:Nat}(V:Lv z s.nx s u e.acts.length (fl seE e.acts) 7)(hz:hi<=z):MR p mb lo (s.nx+1) { m with moves:=m.moves ++ [e] } ts v1 v2 (apv 7 v3 s) (ws ++ [u]) (Go.Sy.wr (Go.Sy.aps v3 s (eE e.when ++ [u])) p 2 [apv 7 v3 s]):=by
 obtain⟨C,M,l1,l2,l3,uu,d13,d23,hp,hm,pm,h1,h2⟩:=S;have h4:=C.lt;have hn:(Go.Sy.wr (Go.Sy.aps v3 s (eE e.when ++ [u])) p 2 [apv 7 v3 s]).nx=s.nx+1:=by rw[jo,jr]
 refine⟨?_,?_,?_,?_,?_,?_,(Df.put l1 h2).1,(Df.put l2 h2).1,hp,hm,pm,om,by rw[hn];exact τ _⟩
 ·exact(cast (l3.cl s (eE e.when ++ [u]) _ p (.inl hp) h4).symm C:Cl (Go.Sy.aps v3 s (eE e.when ++ [u])) p _).wr 2 [apv 7 v3 s]
 ·exact M.keep (by rw[hn];omega) (by rw[Jo (λh=>pm h.symm)];exact l3.get s (eE e.when ++ [u]) mb (.inl hm) M.lt)
 ·rw[jA (.inl hp)];exact(l1.apsD d13).up om
 ·rw[jA (.inl hp)];exact(l2.apsD d23).up om
 ·rw[jA (.inl hp),ψ,jec uu.len];exact l3.put (by rw[ψ,zK];rfl) om rfl
 ·refine UU.app ?_ (uu.imp λu n cs h=>?_)
  ·rw[jA (.inl hp)];refine⟨((V.aps l3 (.inr hz)).up om).low om,?_⟩;have V':Lv lo s.nx s u e.acts.length (fl seE e.acts) 7:=V.low om;exact(Df.put V' (τ _)).1
  ·rw[jA (.inl hp)];exact⟨(h.1.apsD h.2).up om,(Df.put h.1 h2).1⟩
end
def vz:VarT:=⟨[],0,[],0,0,false,0⟩
def QI (vars:List VarT)(enums:List EnumT):List SetT->List AsT->List AsT->KR (List SetT)
 |acc,done,[]=>.ok acc
 |acc,done,a :: rest=>if qa vars a.name<0 then .er 161 a.line a.col
  else if 0<=fi (λx=>decide (x.name=a.name)) done then .er 162 a.line a.col
  else match yC vars enums false a.to (vars.getD (qa vars a.name).toNat vz).kind (vars.getD (qa vars a.name).toNat vz).enum with
   |.er x y z=>.er x y z
   |.ok y=>QI vars enums (acc ++ [⟨qa vars a.name,y⟩]) (done ++ [a]) rest
def XE (m:ModT)(ts:List (List Nat))(r:RuleT):KR (ModT×List (List Nat)):=match yC m.vars m.enums false r.when 2 [] with
 |.er a b c=>.er a b c
 |.ok w=>match QI m.vars m.enums [] [] r.acts with
  |.er a b c=>.er a b c
  |.ok ss=>.ok ({ m with moves:=m.moves ++ [⟨w,ss⟩] },ts)
def KZ (p mb lo:Nat)(st:St)(r:KR (ModT×List (List Nat)))(K Kp:AV->St->Prop):Prop:=match r with
 |.ok y=>∀ s',Kq p mb lo st s'->MZ p mb lo y.1 y.2 s'->K (.tup []) s'
 |.er c l k=>∀ s',Kq p mb lo st s'->Kp (kf c l k) s'
def moL (w:Ex)(vl:AV):List AV:=[.int .i64 w.op,.int .i64 w.num,.str w.name,.lst w.kids.length (fl eE w.kids),.int .i64 w.line,.int .i64 w.col,vl]
theorem jqN (w:Ex)(vl:AV):eE w ++ [vl]=moL w vl:=by rw[qJ];rfl
def rQ (st:St)(K:AV->St->Prop):Out->Prop:=Xp ε y64.res λv s=>K v (back st s)
structure RS (p mb lo q z:Nat)(m:ModT)(ts:List (List Nat))(v1 v2 v3:AV)(ws:List AV)(r:RuleT)(w:Ex)(acc:List SetT)(vl:AV)(st:St)(L:Sl)(s:St):Prop where
 S:MR p mb lo q m ts v1 v2 v3 ws s
 k:Kq p mb lo st.bare s
 qz:q<z
 nx:z+1<=s.nx
 c3:Cl s q (ruE r)
 c4:Cl s z (moL w vl)
 lv:Lv (z+1) s.nx s vl acc.length (fl seE acc) 7
 i0:Has L 0 (.ptr p 0)
 i3:Has L 3 (.ptr q 0)
 i4:Has L 4 (.ptr z 0)
theorem RS.push {p mb lo q z:Nat}{m:ModT}{ts:List (List Nat)}{v1 v2 v3:AV}{ws:List AV}{r:RuleT}{w:Ex}{acc:List SetT}{vl:AV}{st:St}{L:Sl}{s:St}(D:RS p mb lo q z m ts v1 v2 v3 ws r w acc vl st L s){c:Nat}{v:AV}(h:c≠0/\c≠3/\c≠4):RS p mb lo q z m ts v1 v2 v3 ws r w acc vl st ((c,v) :: L) s:=by
 obtain⟨S,k,qz,nx,c3,c4,lv,i0,i3,i4⟩:=D;exact⟨S,k,qz,nx,c3,c4,lv,by rw[jb h.1];exact i0,by rw[jb h.2.1];exact i3,by rw[jb h.2.2];exact i4⟩
theorem r13:type_of%(aI @je (aI @jh (aI @jX (aI @jg (aI @jd (aI @jj (aI @jk (aI @jm (aI @jn (aI @jl @rzZ)))))))))):=aI @je (aI @jh (aI @jX (aI @jg (aI @jd (aI @jj (aI @jk (aI @jm (aI @jn (aI @jl @rzZ)))))))))
set_option maxHeartbeats 4000000 in
theorem jqx (hb:NB base){p mb lo q z:Nat}{m:ModT}{ts:List (List Nat)}{v1 v2 v3:AV}{ws:List AV}{r:RuleT}{w:Ex}{acc:List SetT}{vl:AV}{st:St}{L:Sl}{s:St}(D:RS p mb lo q z m ts v1 v2 v3 ws r w acc vl st L s)(hM:m.moves.length<=1000000)(K Kp:AV->St->Prop)
  (hK:KZ p mb lo st (.ok ({ m with moves:=m.moves ++ [⟨w,acc⟩] },ts)) K Kp):xC ε base jeX L s (rQ st K) (dP st Kp):=by
 obtain⟨S,k,qz,nx,C3,C4,lv,i0,i3,i4⟩:=D;have C:=S.cp;have l3:=S.l3;have hp:=S.hp;have hlo:=S.lo;have hhi:=S.hi;have ve3:=l3.eqs;have vc:∀ l,lall AV.cell (vl :: l)=lall AV.cell l:=λl=>by show cond vl.cell _ false=_;rw[lv.cell];rfl
 have Ap:=λst' bv xc xx K h hv=>@JS lo q m.moves.length 7 st' v3 (mvc m.moves ws) K 96 bv xc xx h dc om om hv;have hqp:q≠p/\z≠p:=om
 have lv2:Lv (z+1) (Go.Sy.nw s (moL w vl)).nx (Go.Sy.nw s (moL w vl)) vl acc.length (fl seE acc) 7:=by
  refine Lv.up (hi:=s.nx) ?_ (by(first|omega|(simp only[ji,jo,ju,jr,jq];first|done|omega)))
  exact ckX
 have S3:=(S.nw (moL w vl)).move ⟨w,acc⟩ (u:=vl) lv2 om;rw[jqN] at S3;have q2:=(((k.nw om (moL w vl)).aps l3 (by(first|omega|(simp only[ji,jo,ju,jr,jq];first|done|omega))) (moL w vl)).wr (.inl rfl) 2 [apv 7 v3 (Go.Sy.nw s (moL w vl))]).bk;have S2:=(S3.up (by(first|omega|(simp only[ji,jo,ju,jr,jq];first|done|omega))) (τ _)).ofbk (u:=st);have gp:rat s.h p 2=v3:=C.cell 2 (by simp only[υ,ω];omega);clear S3 lv2;unfold moL at *;unfold rQ dP y64;rw[(by unfold jeX;simp only[qq];rfl:jeX=_)]
 (have zz:=aI @vc (aI @l3.ln (aI @l3.rts (aI @jA (aI @jF (aI @jJ (aI @l3 (aI @jC (aI @jI (aI @jL (aI C3.r (aI C4.r C.r)))))))))));(repeat'(first|apply jc<;>intro _|simp(disch:=first|exact jY|fail) only[ja i0,ja i3,ja i4,Ap,l3.at,jC,C3.q,C4.q,C.q,vc,l3.ln,l3.rts,jA,jF,jJ,l3,jC,jI,jL,C3.r,C4.r,C.r,r13,γ,δ,ζ,η,θ]));all_goals clear zz)
 exact hK _ q2 ⟨_,_,_,_,S2⟩
theorem jso:Go.Ev.isAgg ε 67=some false:=by kernel_rfl
theorem jsn:Go.Ev.sizeOf ε 67=some 1:=by kernel_rfl
theorem jqp {b o:Nat}{v:AV}{h:T AO}(ho:o<qv h b)(hv:rat h b o=v)(hc:eqs v=true):(j9 ε 67 (.ptr b o) v h=true)=True:=eq_true (Qk jso jsn ho hv hc)
def zA9:List AV:=[.str [],.int .i64 0,.int .i64 0,.str [],.nils,.int .i64 0,.int .i64 0,.int .i64 0,.int .i64 0]
theorem jbO {vars:List VarT}{enums:List EnumT}{acc:List SetT}{xs:List AsT}{k:Nat}(hk:k<xs.length):QI vars enums acc (xs.take k) (xs.drop k)=if qa vars xs[k].name<0 then .er 161 xs[k].line xs[k].col
  else if 0<=fi (λx=>decide (x.name=xs[k].name)) (xs.take k) then .er 162 xs[k].line xs[k].col
  else match yC vars enums false xs[k].to (vars.getD (qa vars xs[k].name).toNat vz).kind (vars.getD (qa vars xs[k].name).toNat vz).enum with
   |.er x y z=>.er x y z
   |.ok y=>QI vars enums (acc ++ [⟨qa vars xs[k].name,y⟩]) (xs.take (k+1)) (xs.drop (k+1)):=by
 have e:xs.drop k=xs[k] :: xs.drop (k+1):=(QbM hk).symm;rw[e,QI,<-yI hk]<;>rfl
set_option maxHeartbeats 8000000 in
theorem jqy (hb:NB base){p mb lo q z:Nat}{m:ModT}{ts:List (List Nat)}{v1 v2 v3:AV}{ws:List AV}{r:RuleT}{w:Ex}{st:St}{L:Sl}{s:St}(D:RS p mb lo q z m ts v1 v2 v3 ws r w [] .nils st L s)(V:VarsOK m.vars m.enums)(hx:∀ a∈r.acts,OkE a.to)(hbl:r.acts.length<=1000000)(hM:m.moves.length<=1000000)(K Kp:AV->St->Prop)
  (hK:KZ p mb lo st (match QI m.vars m.enums [] [] r.acts with | .er a b c=>.er a b c | .ok ss=>.ok ({ m with moves:=m.moves ++ [⟨w,ss⟩] },ts)) K Kp):xC ε base jeY L s (rQ st K) (dP st Kp):=by
 have i0:=D.i0;have i3:=D.i3;have i4:=D.i4;have C3:=D.c3;rw[(by unfold jeY;simp only[qq];rfl:jeY=_)]
 (have zz:=C3.r;(repeat'(first|apply jc<;>intro _|simp(disch:=first|exact jY|fail) only[ja i0,ja i3,ja i4,C3.q,C3.r,r13,γ,δ,ζ,η,θ]));all_goals clear zz)
 refine jZ r.acts.length (λk L s=>(∃ acc vl,acc.length=k/\QI m.vars m.enums [] [] r.acts=QI m.vars m.enums acc (r.acts.take k) (r.acts.drop k)/\RS p mb lo q z m ts v1 v2 v3 ws r w acc vl st L s)/\Has L 14 (.lst r.acts.length (fl asE r.acts))) (by first|assumption|omega) dc (by simp(disch:=decide) only[jf,jb]) (by simp(disch:=decide) only[jf,jb]) ?_ (λk L s v h=>(by obtain⟨⟨acc,vl,h0,h1,h2⟩,h3⟩:=h;refine⟨⟨acc,vl,h0,h1,h2.push dc⟩,?_⟩;simp(disch:=decide) only[jb];assumption)) (λk L s v h=>(by obtain⟨⟨acc,vl,h0,h1,h2⟩,h3⟩:=h;refine⟨⟨acc,vl,h0,h1,h2.push dc⟩,?_⟩;simp(disch:=decide) only[jb];assumption)) (λk L s hk hI hi hn=>?_) (λL s hI=>?_)
 ·refine⟨⟨[],.nils,rfl,rfl,((D.push dc).push dc).push dc⟩,?_⟩;simp(disch:=decide) only[jb,jf]
 ·obtain⟨⟨acc,vl,hacc,h1,D⟩,i14⟩:=hI;obtain⟨S,k0,qz,nx,C3,C4,lv,i0,i3,i4⟩:=D;obtain⟨x1,x2⟩:=hx _ (Qac hk);have hlo:=S.lo;have hhi:=S.hi;have hp:=S.hp;have hqm:q≠p/\z≠p:=om
  have zl9:(asE r.acts[k]).length=zA9.length:=by rw[ZW];rfl
  have S1:=(S.nw zA9).wr (c:=s.nx) om 0 (asE r.acts[k]);have k1:=(k0.nw om zA9).wr (c:=s.nx) (.inr om) 0 (asE r.acts[k]);have C6:=(Cl.new s zA9).wr0 zl9;have D3:Cl (Go.Sy.wr (Go.Sy.nw s zA9) s.nx 0 (asE r.acts[k])) q (ruE r):=ckX
  have D4:Cl (Go.Sy.wr (Go.Sy.nw s zA9) s.nx 0 (asE r.acts[k])) z (moL w vl):=ckX
  have lv1:Lv (z+1) s.nx (Go.Sy.wr (Go.Sy.nw s zA9) s.nx 0 (asE r.acts[k])) vl acc.length (fl seE acc) 7:=ckX
  have hn1:(Go.Sy.wr (Go.Sy.nw s zA9) s.nx 0 (asE r.acts[k])).nx=s.nx+1:=rfl;have VC:=λnm K Kp=>jfd hb S1.ck V.len nm K Kp;have HA:=λK Kp=>jod hb (r.acts.take k) (by rw[Qat];omega) r.acts[k] _ C6 k (by rw[Qat];omega) K Kp;have SL:=λst K=>@jsb _ asE 9 ZW r.acts .i64 k (QbK hk) st K;rw[h1,jbO hk] at hK;unfold zA9 at *
  (have zz:=aI C3.r C4.r;(repeat'(first|apply jc<;>intro _|simp(disch:=first|exact jY|fail) only[ja i0,ja i3,ja i4,ja i14,ja hi,ja hn,C3.q,C4.q,C3.r,C4.r,r13,γ,δ,ζ,η,θ]));all_goals clear zz)
  generalize Go.Sy.wr (Go.Sy.nw s [.str [],.int .i64 0,.int .i64 0,.str [],.nils,.int .i64 0,.int .i64 0,.int .i64 0,.int .i64 0]) s.nx 0 (asE r.acts[k])=t1 at *;have C1:=S1.cp;by_cases c1:qa m.vars r.acts[k].name<0
  ·rw[if_pos c1] at hK
   (have zz:=aI D3.r (aI D4.r C6.r);(repeat'(first|apply jc<;>intro _|simp(disch:=first|exact jY|fail) only[ja i0,ja i3,ja i4,VC,c1,zZ hb,D3.q,D4.q,C6.q,D3.r,D4.r,C6.r,r13,γ,δ,ζ,η,θ]));all_goals clear zz)
   exact hK _ k1.bk
  rw[if_neg c1] at hK;by_cases c2:0<=fi (λx=>decide (x.name=r.acts[k].name)) (r.acts.take k)
  ·rw[if_pos c2] at hK
   (have zz:=aI D3.r (aI D4.r C6.r);(repeat'(first|apply jc<;>intro _|simp(disch:=first|exact jY|fail) only[ja i0,ja i3,ja i4,VC,c1,HA,SL,c2,zZ hb,D3.q,D4.q,C6.q,D3.r,D4.r,C6.r,r13,γ,δ,ζ,η,θ]));all_goals clear zz)
   exact hK _ k1.bk
  rw[if_neg c2] at hK;have hlt:qa m.vars r.acts[k].name<(m.vars.length:Int):=Zf;have hi2:(qa m.vars r.acts[k].name).toNat<m.vars.length:=om
  have eg:m.vars.getD (qa m.vars r.acts[k].name).toNat vz=m.vars[(qa m.vars r.acts[k].name).toNat]:=by simp[Qad,hi2]
  rw[eg] at hK;have Lw:=S1.l1;rcases id Lw with ⟨_,e0,_⟩|⟨b,rfl,b1,b2,Ce,b5,b6⟩
  ·omega
  have gl:qv t1.h b=m.vars.length * 7:=by rw[Ce.len,Jh Xv]
  have ge1:rat t1.h b ((qa m.vars r.acts[k].name).toNat * 7+1)=.int .i64 m.vars[(qa m.vars r.acts[k].name).toNat].kind:=by
   rw[Ce.cell _ (by rw[Jh Xv];omega),vH Xv hi2 dc];rfl
  have ge2:rat t1.h b ((qa m.vars r.acts[k].name).toNat * 7+2)=.str m.vars[(qa m.vars r.acts[k].name).toNat].enum:=by
   rw[Ce.cell _ (by rw[Jh Xv];omega),vH Xv hi2 dc];rfl
  have gp:rat t1.h p 0=.slice b 0 m.vars.length m.vars.length 7 false:=C1.cell 0 (by simp only[υ,ω];omega);unfold moL at D4 C4
  (have zz:=aI @gl (aI @ge1 (aI @ge2 (aI C1.r (aI D3.r (aI D4.r C6.r)))));(repeat'(first|apply jc<;>intro _|simp(disch:=first|exact jY|fail) only[ja i0,ja i3,ja i4,VC,c1,HA,SL,c2,ge1,ge2,YH,Vh,Vg (base:=base),C1.q,D3.q,D4.q,C6.q,gl,ge1,ge2,C1.r,D3.r,D4.r,C6.r,r13,γ,δ,ζ,η,θ]));all_goals clear zz)
  rw[<-qJ];refine Ux hb V _ x2 (YI _ x1) _ _ S1.ck _ _ ?_;cases hr:yC m.vars m.enums false r.acts[k].to m.vars[(qa m.vars r.acts[k].name).toNat].kind m.vars[(qa m.vars r.acts[k].name).toNat].enum with
  |er a b c=>
   rw[hr] at hK;intro s' k2;repeat'(first|apply jc<;>intro _|simp(disch:=first|exact dzG|fail) only[YH,Vh,Vg (base:=base),r13,γ,δ,ζ,η,θ])
   exact hK _ (k1.keep k2 om).bk
  |ok y=>
   rw[hr] at hK;dsimp only at hK;intro s' k2 C2;have hs':=k2.nx;have k3:=k1.keep k2 om;have S3:=S1.keep k2 C2;have E3:=k2.cl D3 hqm.1;have E4:=k2.cl D4 hqm.2;have lv2:=k2.lv lv1 (.inl om);have ve:=lv2.eqs;have gz:rat s'.h z 6=vl:=E4.cell 6 (by simp only[υ,ω];omega);have Ap:=λst' bv xc xx K h hv=>@JS (z+1) s.nx acc.length 7 st' vl (fl seE acc) K 80 bv xc xx h dc om om hv;have a59:j9 ε 67 (.ptr z 6) vl t1.h=true:=(jqp (by rw[D4.len];simp only[υ,ω];omega) (D4.cell 6 (by simp only[υ,ω];omega)) ve).mpr trivial;clear S1 k1 k2 C2 C6 D3 D4 C3 C4 S k0 VC HA SL ge1 ge2 gl gp Ce Lw C1 lv lv1;have hzp:p≠z:=λe=>hqm.2 e.symm;have lv3:Lv (z+1) (Go.Sy.nw s' (seE ⟨qa m.vars r.acts[k].name,y⟩)).nx (Go.Sy.nw s' (seE ⟨qa m.vars r.acts[k].name,y⟩)) vl acc.length (fl seE acc) 7:=by
    refine Lv.up (hi:=s.nx) ?_ (by(first|omega|(simp only[ji,jo,ju,jr,jq];first|done|omega)))
    exact ckX
   have S4:=((S3.nw (seE ⟨qa m.vars r.acts[k].name,y⟩)).aps lv3 om (seE ⟨qa m.vars r.acts[k].name,y⟩)).wr (c:=z) om 6 [apv 7 vl (Go.Sy.nw s' (seE ⟨qa m.vars r.acts[k].name,y⟩))];have k4:=((k3.nw om (seE ⟨qa m.vars r.acts[k].name,y⟩)).aps (lv3.low (lo:=lo) om) (by(first|omega|(simp only[ji,jo,ju,jr,jq];first|done|omega))) (seE ⟨qa m.vars r.acts[k].name,y⟩)).wr (c:=z) (.inr om) 6 [apv 7 vl (Go.Sy.nw s' (seE ⟨qa m.vars r.acts[k].name,y⟩))];have hlz:z+1<=s'.nx:=om
   (have zz:=aI @lv2.ln (aI @lv2.rts (aI @jA (aI @jF (aI @jJ (aI @lv2 (aI @jC (aI @jI (aI @jL (aI @ve (aI E3.r E4.r))))))))));(repeat'(first|apply jc<;>intro _|simp(disch:=first|exact jY|fail) only[ja i0,ja i3,ja i4,Ap,lv2.at,jqp,ve,jC,E3.q,E4.q,lv2.ln,lv2.rts,jA,jF,jJ,lv2,jC,jI,jL,ve,E3.r,E4.r,r13,γ,δ,ζ,η,θ]));all_goals clear zz)
   refine⟨a59,⟨⟨acc ++ [⟨qa m.vars r.acts[k].name,y⟩],_,?_,h1.trans ?_,S4,k4,qz,?_,?_,Cl.wr (?_:Cl _ z (moL w vl)) 6 [apv 7 vl (Go.Sy.nw s' (seE ⟨qa m.vars r.acts[k].name,y⟩))],?_,?_,?_,?_⟩,?_⟩,?_,?_⟩
   ·rw[ψ,hacc];rfl
   ·rw[jbO hk,if_neg c1,if_neg c2,eg,hr]
   ·rw[jo,jr,ji];omega
   ·have:=(E3.nw (seE ⟨qa m.vars r.acts[k].name,y⟩)).aps lv3 (.inl om) (news:=seE ⟨qa m.vars r.acts[k].name,y⟩)
    exact ckX
   ·exact(E4.nw (seE ⟨qa m.vars r.acts[k].name,y⟩)).aps lv3 (.inl om)
   ·rw[jA (.inl om),ψ,QX,JZ];exact lv3.put (Qb _) (by(first|omega|(simp only[ji,jo,ju,jr,jq];first|done|omega))) (by(first|omega|(simp only[ji,jo,ju,jr,jq];first|done|omega)))
   all_goals(simp(disch:=decide) only[jb];assumption)
 ·obtain⟨⟨acc,vl,hacc,h1,D⟩,i14⟩:=hI;rw[Qaf,QbN,QI] at h1;rw[h1] at hK;repeat'(first|apply jc<;>intro _|simp(disch:=first|exact dzG|fail) only[r13,γ,δ,ζ,η,θ])
  exact jqx hb D hM K Kp hK
def z7:List AV:=[.int .i64 0,.int .i64 0,.str [],.nils,.int .i64 0,.int .i64 0,.nils]
set_option maxHeartbeats 4000000 in
theorem jqw (hb:NB base){p mb lo:Nat}{m:ModT}{ts:List (List Nat)}{st:St}(r:RuleT)(V:VarsOK m.vars m.enums)(hw:OkE r.when)(hx:∀ a∈r.acts,OkE a.to)(hbl:r.acts.length<=1000000)(hM:m.moves.length<=1000000)(H:MZ p mb lo m ts st)(K Kp:AV->St->Prop)(hK:KZ p mb lo st (XE m ts r) K Kp):XB ε base 71 [.ptr p 0,.agg (ruE r)] st K Kp:=by
 obtain⟨v1,v2,v3,ws,S⟩:=H;have hp:=S.hp;have hlo:=S.lo;have hhi:=S.hi;refine Jf x64 (by rfl) (hb.at0 71 dc dc _ _) ?_;simp only[y64,jt,κ,μ,ν,ξ];rw[(by unfold z64;simp only[qq];rfl:z64=_)];have hnx:st.bare.nx=st.nx:=rfl;have S0:=S.bare.nw (ruE r);have q1:=(Kq.refl:Kq p mb lo st.bare st.bare).nw om (ruE r);have Cb:Cl (Go.Sy.nw st.bare (ruE r)) st.nx (ruE r):=Cl.new st.bare (ruE r);unfold XE at hK
 (have zz:=@Cb.r;(repeat'(first|apply jc<;>intro _|simp(disch:=first|exact jY|fail) only[Cb.q,Cb.r,r13,γ,δ,ζ,η,θ]));all_goals clear zz)
 rw[<-qJ];have hn0:(Go.Sy.nw st.bare (ruE r)).nx=st.nx+1:=rfl;refine Ux hb V _ hw.2 (YI _ hw.1) _ _ S0.ck _ _ ?_;cases hr:yC m.vars m.enums false r.when 2 [] with
 |er a b c=>
  rw[hr] at hK;intro s' k2;exact hK _ (q1.keep k2 om).bk
 |ok y=>
  rw[hr] at hK;dsimp only at hK;intro s' k2 C2;have hs':=k2.nx;have k3:=q1.keep k2 om;have S3:=S0.keep k2 C2;have E3:=k2.cl Cb om;rw[qJ];have S4:=(S3.nw z7).wr (c:=s'.nx) om 0 (moL y .nils);have k4:=(k3.nw om z7).wr (c:=s'.nx) (.inr om) 0 (moL y .nils);have C4:=(Cl.new s' z7).wr0 (c':=moL y .nils) rfl;unfold z7 moL at *;repeat'(first|apply jc<;>intro _|simp(disch:=first|exact dzG|fail) only[r13,γ,δ,ζ,η,θ])
  refine jqy hb ⟨S4,k4,?_,by(first|omega|(simp only[ji,jo,ju,jr,jq];first|done|omega)),ckX,C4,Lv.nil,?_,?_,?_⟩ V hx hbl hM K Kp hK
  ·omega
  all_goals simp(disch:=decide) only[jb,jf]
def fcl (c l k:Int):List AV:=[.int .i64 c,.int .i64 l,.int .i64 k]
theorem jsZ (c l k:Int)(st:St)(K:AV->St->Prop):jp (gQ ε 45 (kf c l k) st) K=K (.tup [.agg (fcl c l k),.bool true]) st:=by
 have:gQ ε 45 (kf c l k) st=.ok (.tup [.agg (fcl c l k),.bool true]) st:=by kernel_rfl
 rw[this];rfl
theorem jri (c l k:Int)(st:St)(K:AV->St->Prop):jp (QO ε .eql 20 true (kf c l k) .nilif st) K=K (.bool false) st:=by
 have:QO ε .eql 20 true (kf c l k) .nilif st=.ok (.bool false) st:=by kernel_rfl
 rw[this];rfl
theorem gK {fb:Nat}(st:St)(K:Md->St->Prop):DX ε base 67 [.ptr fb 0] .calm st.bare K=K .calm st.bare:=by
 refine ja8 (λK hK=>?_) K;refine uj jpR (by rfl) rfl ?_;simp only[gX,jt,κ,μ,ν,X4,YA];rw[(by unfold Wg;simp only[qq];rfl:Wg=_)];repeat'(first|apply jc<;>intro _|simp(disch:=first|exact dzG|fail) only[jiK,Wi,r13,γ,δ,ζ,η,θ])
 exact hK
theorem jaI {fb:Nat}(c l k:Int)(st:St)(h:qv st.h fb=3)(hn:fb<st.nx)(K:Md->St->Prop) :
  DX ε base 67 [.ptr fb 0] (.pan (kf c l k)) st.bare K=K .done (wr (wr (nw st.bare [.int .i64 0,.int .i64 0,.int .i64 0]) st.nx 0 (fcl c l k)) fb 0 (fcl c l k)):=by
 have C:Cl st.bare fb (rats st.h fb 0 3):=(Cl.of_rats hn h (J5 _ _ _ _) dc rfl).bar;have hcs:(rats st.h fb 0 3).length=3:=J5 _ _ _ _;refine ja8 (λK hK=>?_) K;refine uj jpR (by rfl) rfl ?_;simp only[gX,jt,κ,μ,ν,X4,YA];rw[(by unfold Wg;simp only[qq];rfl:Wg=_)];have hl:=C.lt;have l0:=C.len;have hB:st.bare.nx=st.nx:=rfl;have hne:¬ fb=st.bare.nx:=om
 unfold fcl at *;have A:=jsZ c l k;unfold fcl at A
 (have zz:=aI @l0 @hcs;(repeat'(first|apply jc<;>intro _|simp(disch:=first|exact jY|fail) only[jri,jiq,A,Wi,l0,hcs,r13,γ,δ,ζ,η,θ]));all_goals clear zz)
 exact hK
theorem juk {n:Nat}(h:0<n)(cs:List AV)(st:St)(K:AV->St->Prop):jp (QO ε .eql 106 true (.lst n cs) .nils st) K=K (.bool false) st:=by
 obtain⟨k,rfl⟩:∃ k,n=k+1:=⟨n - 1,om⟩;have:QO ε .eql 106 true (.lst (k+1) cs) .nils st=.ok (.bool false) st:=by kernel_rfl
 rw[this];rfl
theorem juo {n:Nat}{cs:List AV}(h0:0<n)(hl:cs.length=n)(hn:n<=1000000)(K:AV->St->Prop):jp (J7 1 16 (.slice 0 0 0 0 1 true) (.lst n cs) (nw st0 [])) K=K (.slice 1 0 n n 1 false) (nw (nw st0 []) cs):=by
 have hg:jy (nw st0 []).h 0=some (.row 0 0 [] .e):=by kernel_rfl
 have e1:Qcv n 1=n:=Qbg n;have e2:Qct n (jP cs)=true:=qG (by rw[jN];omega);have e3:yp cs n=cs:=by rw[qY,<-hl,Qaf]
 have e4:Qcr (jP cs) n=true:=Zk (by rw[jN,hl]);have e5:Qcu 0 n=n:=Qak n;have e6:Qct n 0=false:=ja9 h0;have e7:Qct (Qcv n 16) 140737488355328=true:=qG (by show n * 16<=_;omega);have e8:Qct n 9223372036854775807=true:=qG om;have e9:Qcv 0 1=0:=rfl;have e10:Qct (Qcu 0 0) 0=true:=rfl;have e11:jQ 0 [] .e 0 0=[]:=rfl;have e12:yV [] cs=cs:=by rw[yz];rfl
 simp only[J7,Jk,firstCells,jG,e1,e2,cond_true,e3,q7,e4,hg,yo,e5,e6,cond_false,e7,e8,e9,e10,e11,e12,St.alloc_eq,jp];conv=>rhs;unfold nw
 rw[hl];rfl
set_option maxHeartbeats 1000000 in
theorem jol (hb:NB base)(vs:List (List Nat))(hv:0<vs.length)(hl:vs.length<=1000000):Tot base 91 [.lst vs.length (vs.map .str)] (.lst vs.length (vs.map .str)):=by
 refine hb.tot ?_ rfl rfl;have N:=juk hv (vs.map .str);have A:=λK=>juo (cs:=vs.map .str) hv (by simp) hl K;refine jE x99 (by rfl) (hb.pur 91 1 dc) ?_;simp only[y99,jt,κ,μ,ν,ξ];rw[(by unfold z99;simp only[qq];rfl:z99=_)];repeat'(first|apply jc<;>intro _|simp(disch:=first|exact dzG|fail) only[N,jaV,A,r13,γ,δ,ζ,η,θ])
 have C:Cl (nw (nw st0 []) (vs.map .str)) 1 (vs.map .str):=Cl.new (nw st0 []) _;refine FzD.slice C.rw_ (by simp) (Qae _) ?_;rw[Qbg,<-Qap (f:=AV.str),Qaf];refine FzsD.pc ?_;simp[pc]
def yi {α β:Type}(f:β->α->KR β):β->List α->KR β
 |b,[]=>.ok b
 |b,x :: xs=>match f b x with
  |.er a c d=>.er a c d
  |.ok b=>yi f b xs
theorem WY {α β:Type}{f:β->α->KR β}{b:β}{xs:List α}{k:Nat}(hk:k<xs.length):yi f b (xs.drop k)=match f b xs[k] with
  |.er a c d=>.er a c d
  |.ok b=>yi f b (xs.drop (k+1)):=by
 have e:xs.drop k=xs[k] :: xs.drop (k+1):=(QbM hk).symm;rw[e,yi]
abbrev MT:=ModT×List (List Nat)
def Y6 (b:MT)(p:ProcT):KR MT:=match Xx b.2 p.name p.line p.col with
 |.er a c d=>.er a c d
 |.ok ts=>yi (λb r=>XE b.1 b.2 r) (b.1,ts) p.rules
def md0:ModT:=⟨[],[],[]⟩
def V9 (b:MT)(l:List EnumT):KR MT:=yi (λb e=>wJ b.1 b.2 e) b l
def vK (b:MT)(l:List DeclT):KR MT:=yi (λb e=>XV b.1 b.2 e) b l
def Ya (b:MT)(l:List ProcT):KR MT:=yi Y6 b l
def Je (s:SrcT):KR MT:=match V9 (md0,[]) s.enums with
 |.er a c d=>.er a c d
 |.ok b=>match vK b s.vars with
  |.er a c d=>.er a c d
  |.ok b=>Ya b s.procs
def Uy (r:KR MT):AV:=match r with
 |.er c l k=>.tup [.agg (mdE md0),.agg (fcl c l k)]
 |.ok b=>.tup [.agg (mdE b.1),.agg (fcl 0 0 0)]
def mQ (base:Bs)(r:KR MT):Out->Prop:=GM ε base y26.res (XU G0 (.ok (Uy r))) (XJ G0 (.ok (Uy r)))
def mP (base:Bs)(r:KR MT):AV->Sl->St->Prop:=Vy ε base y26.res (XU G0 (.ok (Uy r))) (XJ G0 (.ok (Uy r)))
structure QS (src:SrcT)(L:Sl)(s:St):Prop where
 c0:Cl s 0 (srE src)
 c1:Cl s 1 [.nils,.nils,.nils]
 c2:Cl s 2 [.int .i64 0,.int .i64 0,.int .i64 0]
 fr:s.fr=[(67,[.ptr 2 0])]
 i1:Has L 1 (.ptr 0 0)
 i2:Has L 2 (.ptr 1 0)
 i3:Has L 3 (.ptr 2 0)
 i4:Has L 4 (.ptr 4 0)
section
variable {src:SrcT} {L:Sl} {s t:St}
theorem QS.push (h:QS src L s){c:Nat}{v:AV}(hc:c≠1/\c≠2/\c≠3/\c≠4):QS src ((c,v) :: L) s:=by
 obtain⟨c0,c1,c2,fr,i1,i2,i3,i4⟩:=h;exact⟨c0,c1,c2,fr,by rw[jb hc.1];exact i1,by rw[jb hc.2.1];exact i2,by rw[jb hc.2.2.1];exact i3,by rw[jb hc.2.2.2];exact i4⟩
theorem QS.kq (h:QS src L s)(k:Kq 4 3 5 s t):QS src L t:=
 ⟨k.cl h.c0 dc dc dc,k.cl h.c1 dc dc dc,k.cl h.c2 dc dc dc,k.fr.trans h.fr,h.i1,h.i2,h.i3,h.i4⟩
theorem jh2 {m d:Nat}{s:St}:FzD m (d+3) s (.agg [.nils,.nils,.nils]) (.agg (mdE md0)):=FzD.agg (.cons FzD.nils (.cons FzD.nils (.cons FzD.nils .nil)))
theorem r12:type_of%(aI @je (aI @jh (aI @jX (aI @jg (aI @jd (aI @qP (aI @qO (aI @jj (aI @jk (aI @jm (aI @jn (aI @jl @rzZ)))))))))))):=aI @je (aI @jh (aI @jX (aI @jg (aI @jd (aI @qP (aI @qO (aI @jj (aI @jk (aI @jm (aI @jn (aI @jl @rzZ)))))))))))
theorem UQ {c l k:Int}(h:QS src L s):mP base (.er c l k) (kf c l k) L s:=by
 obtain⟨c0,c1,c2,fr,i1,i2,i3,i4⟩:=h;have l2:=c2.len;have n2:=c2.lt;unfold mP y26
 (have zz:=aI @c0.r (aI @c1.r @c2.r);(repeat'(first|apply jc<;>intro _|simp(disch:=first|exact jY|fail) only[ja i2,ja i3,Qg (f:=67) (vs:=[.ptr 2 0]),JH (f:=67) (vs:=[.ptr 2 0]),gK,jaI,c0.q,c1.q,c2.q,c0.r,c1.r,c2.r,r12,γ,δ,ζ,η,θ]));all_goals clear zz)
 exact FzD.tup (.cons jh2 (.cons (.agg (.pc (by rfl))) .nil))
end
theorem jhT {m lo hi d:Nat}{s:St}{v3:AV}(hm:m<=lo):∀ {ms:List MoveT} {us:List AV},UU lo hi s v3 ms us->FzsD m (d+3) s (mvc ms us) (fl moE ms)
 |[],[],_=>.nil
 |e :: ms,u :: us,h=>by
  show FzsD m (d+3) s ((eE e.when ++ [u]) ++ mvc ms us) (moE e ++ fl moE ms);refine FzsD.append ?_ (jhT hm h.2);exact FzsD.append (FzsD.pc (qZ _)) (.cons (h.1.1.fz hm (yZ ww _)) .nil)
set_option maxHeartbeats 4000000 in
theorem m_d {src:SrcT}{L:Sl}{s:St}(D:QS src L s){m:ModT}{ts:List (List Nat)}(H:MZ 4 3 5 m ts s):xC ε base je1 L s (mQ base (.ok (m,ts))) (mP base (.ok (m,ts))):=by
 obtain⟨v1,v2,v3,ws,S⟩:=H;obtain⟨c0,c1,c2,fr,i1,i2,i3,i4⟩:=D;have C4:=S.cp;have l2:=c2.len;have n2:=c2.lt;have vc:∀ l,lall AV.cell (v1 :: v2 :: v3 :: l)=lall AV.cell l:=λl=>by
  show cond v1.cell (cond v2.cell (cond v3.cell _ false) false) false=_;rw[S.l1.cell,S.l2.cell,S.l3.cell];rfl
 unfold mQ mP y26;rw[(by unfold je1;simp only[qq];rfl:je1=_)]
 (have zz:=aI @vc (aI @c0.r (aI @c1.r (aI @c2.r C4.r)));(repeat'(first|apply jc<;>intro _|simp(disch:=first|exact jY|fail) only[ja i1,ja i2,ja i3,ja i4,hY i3,Y2,Qg (f:=67) (vs:=[.ptr 2 0]),JH (f:=67) (vs:=[.ptr 2 0]),gK,jaI,c0.q,c1.q,c2.q,C4.q,vc,c0.r,c1.r,c2.r,C4.r,r12,γ,δ,ζ,η,θ]));all_goals clear zz)
 have f:∀ v n cs z,Lv 5 s.nx s v n cs z->Lv 5 s.nx (Go.Sy.wr (Go.Sy.wr s 1 0 [v1,v2,v3]) 2 0 [.int .i64 0,.int .i64 0,.int .i64 0]).bare v n cs z:=λv n cs z h=>by
  rw[jH,jA (.inl dc),jA (.inl dc)];exact h
 refine FzD.tup (.cons (FzD.agg (.cons ((f _ _ _ _ S.l1).fz (Qae _) (yZ YW _)) (.cons ((f _ _ _ _ S.l2).fz (Qae _) (yZ J1 _)) (.cons ?_ .nil)))) (.cons (.agg (.pc (by rfl))) .nil))
 ·have u3:=S.uu.imp (λu n cs h=>(⟨f _ _ _ _ h.1,h.2⟩:Lv 5 s.nx (Go.Sy.wr (Go.Sy.wr s 1 0 [v1,v2,v3]) 2 0 [.int .i64 0,.int .i64 0,.int .i64 0]).bare u n cs 7/\Df v3 u));rcases f _ _ _ _ S.l3 with ⟨rfl,h1,h2⟩|⟨b,rfl,h1,h2,C,h3,h4⟩
  ·have:m.moves=[]:=QaV h1;show FzD _ _ _ _ (.lst m.moves.length (fl moE m.moves));rw[this];exact FzD.nils
  ·refine FzD.slice C.rw_ (QaU h2.symm) (Qae _) ?_;rw[<-h2,Qaf];exact jhT (Qae _) u3
structure ProcOK (p:ProcT):Prop where
 len:p.rules.length<=1000
 rules:∀ r∈p.rules,OkE r.when/\(∀ a∈r.acts,OkE a.to)/\r.acts.length<=1000000
structure DeclOK (d:DeclT):Prop where
 ex:∀ x∈d.begins,OkE x
 len:d.begins.length<=1000000
 lo : -100000000<=d.lo/\d.lo<=100000000
 hi : -100000000<=d.hi/\d.hi<=100000000
structure SrcOK (s:SrcT):Prop where
 ne:s.enums.length<=1000
 nv:s.vars.length<=1000
 np:s.procs.length<=100
 vals:∀ e∈s.enums,0<e.vals.length/\e.vals.length<=1000000
 vars:∀ d∈s.vars,DeclOK d
 procs:∀ p∈s.procs,ProcOK p
theorem W1 {m:ModT}{ts:List (List Nat)}{e:EnumT}{b:MT}(h:wJ m ts e=.ok b):b.1={ m with enums:=m.enums ++ [e] }:=by
 unfold wJ at h;split at h
 ·cases h
 ·cases h;rfl
theorem jbQ {m:ModT}{ts:List (List Nat)}{r:RuleT}{b:MT}(h:XE m ts r=.ok b):∃ e,b.1={ m with moves:=m.moves ++ [e] }:=by
 unfold XE at h;split at h
 ·cases h
 ·split at h
  ·cases h
  ·cases h;exact⟨_,rfl⟩
theorem GU {vars:List VarT}{enums:List EnumT}:∀ {xs:List Ex} {v u:VarT},JA vars enums v xs=.ok u->u.lo=v.lo/\u.hi=v.hi/\u.kind=v.kind/\u.enum=v.enum/\u.name=v.name
 |[],v,u,h=>by rw[JA] at h;cases h;exact⟨rfl,rfl,rfl,rfl,rfl⟩
 |x :: xs,v,u,h=>by
  rw[JA] at h;split at h
  ·cases h
  ·split at h
   ·cases h
   ·split at h
    ·cases h
    ·have:=GU h;exact this
theorem jlb {enums:List EnumT}{d:DeclT}{v:VarT}(hv:∀ e∈enums,e.vals.length<=1000000)(hd:DeclOK d)(h:uc enums d=.ok v) : -100000000<=v.lo/\v.lo<=100000000/\-100000000<=v.hi/\v.hi<=100000000:=by
 unfold uc at h;split at h
 ·cases h;dsimp only;omega
 ·split at h
  ·rename_i h2;cases h;dsimp only;have hlt:Jy enums d.ty<(enums.length:Int):=Zf;have hi2:(Jy enums d.ty).toNat<enums.length:=om
   have eg:enums.getD (Jy enums d.ty).toNat en0=enums[(Jy enums d.ty).toNat]:=by simp[Qad,hi2]
   rw[eg];have:=hv _ (Qac hi2);omega
  ·split at h
   ·cases h
   ·split at h
    ·cases h
    ·split at h
     ·cases h
     ·cases h;exact⟨hd.lo.1,hd.lo.2,hd.hi.1,hd.hi.2⟩
theorem jcR {m:ModT}{ts:List (List Nat)}{d:DeclT}{b:MT}(hv:∀ e∈m.enums,e.vals.length<=1000000)(hd:DeclOK d)(h:XV m ts d=.ok b):∃ v:VarT,b.1={ m with vars:=m.vars ++ [v] }/\(-100000000<=v.lo/\v.lo<=100000000/\-100000000<=v.hi/\v.hi<=100000000):=by
 unfold XV at h;split at h
 ·cases h
 ·split at h
  ·cases h
  ·rename_i v hk;unfold wR at h;split at h
   ·cases h
   ·rename_i u hu;unfold kN at h;split at h
    ·cases h
    ·cases h;have hb:=GU hu;refine⟨u,rfl,?_⟩;rw[hb.1,hb.2.1];exact jlb hv hd hk
section
variable {src:SrcT} {L:Sl} {s t:St} {m:ModT} {ts:List (List Nat)}
theorem MX.box (h:MX 4 3 5 m ts s)(z cs:List AV):MX 4 3 5 m ts (Go.Sy.wr (Go.Sy.nw s z) s.nx 0 cs):=by
 obtain⟨v1,v2,v3,S⟩:=h;exact⟨v1,v2,v3,((S.nw z).wr (c:=s.nx) (τ _) 0 cs).up (by rw[jo,ji];omega) (τ _)⟩
theorem MZ.box (h:MZ 4 3 5 m ts s)(z cs:List AV):MZ 4 3 5 m ts (Go.Sy.wr (Go.Sy.nw s z) s.nx 0 cs):=by
 obtain⟨v1,v2,v3,ws,S⟩:=h;exact⟨v1,v2,v3,ws,((S.nw z).wr (c:=s.nx) (τ _) 0 cs).up (by rw[jo,ji];omega) (τ _)⟩
theorem MZ.nx5 (h:MZ 4 3 5 m ts s):5<=s.nx:=by obtain⟨v1,v2,v3,ws,S⟩:=h;exact S.lo
theorem MX.nx5 (h:MX 4 3 5 m ts s):5<=s.nx:=by obtain⟨v1,v2,v3,S⟩:=h;exact S.lo
theorem gc (h:5<=s.nx)(z cs:List AV):Kq 4 3 5 s (Go.Sy.wr (Go.Sy.nw s z) s.nx 0 cs):=(Kq.refl.nw h z).wr (.inr h) 0 cs
end
theorem MZ.take {m:ModT}{ts:List (List Nat)}{s:St}(h:MZ 4 3 5 m ts s)(us:List (List Nat)):MZ 4 3 5 m us (Go.Sy.mp s 3 (mpl us)):=by
 obtain⟨v1,v2,v3,ws,S⟩:=h;exact⟨v1,v2,v3,ws,S.take us⟩
def zr7:List AV:=[.int .i64 0,.int .i64 0,.str [],.nils,.int .i64 0,.int .i64 0,.nils]
def zp4:List AV:=[.str [],.nils,.int .i64 0,.int .i64 0]
set_option maxHeartbeats 8000000 in
theorem m_c (hb:NB base){src:SrcT}{L:Sl}{s:St}(D:QS src L s){m:ModT}{ts:List (List Nat)}(V:VarsOK m.vars m.enums)(hm:m.moves=[])(O:SrcOK src)(H:MZ 4 3 5 m ts s):xC ε base je2 L s (mQ base (Ya (m,ts) src.procs)) (mP base (Ya (m,ts) src.procs)):=by
 have c0:=D.c0;have i1:=D.i1;have onp:=O.np;generalize hR:Ya (m,ts) src.procs=R;rw[(by unfold je2;simp only[qq];rfl:je2=_)]
 (have zz:=@c0.r;(repeat'(first|apply jc<;>intro _|simp(disch:=first|exact jY|fail) only[ja i1,c0.q,c0.r,r12,γ,δ,ζ,η,θ]));all_goals clear zz)
 refine jZ src.procs.length (λk L s=>(∃ b:MT,Ya b (src.procs.drop k)=R/\b.1.vars=m.vars/\b.1.enums=m.enums/\b.1.moves.length<=1000 * k/\MZ 4 3 5 b.1 b.2 s/\QS src L s)/\Has L 39 (.lst src.procs.length (fl prE src.procs))) (by first|assumption|omega) dc (by simp(disch:=decide) only[jf,jb]) (by simp(disch:=decide) only[jf,jb]) ?_ (λk L s v h=>(by obtain⟨⟨b,h1,h2,h3,h4,h5,h6⟩,h7⟩:=h;refine⟨⟨b,h1,h2,h3,h4,h5,h6.push dc⟩,?_⟩;simp(disch:=decide) only[jb];assumption)) (λk L s v h=>(by obtain⟨⟨b,h1,h2,h3,h4,h5,h6⟩,h7⟩:=h;refine⟨⟨b,h1,h2,h3,h4,h5,h6.push dc⟩,?_⟩;simp(disch:=decide) only[jb];assumption)) (λk L s hk hI hi hn=>?_) (λL s hI=>?_)
 ·refine⟨⟨(m,ts),by rw[Qba];exact hR,rfl,rfl,by rw[hm];exact Qae _,H,((D.push dc).push dc).push dc⟩,?_⟩;simp(disch:=decide) only[jb,jf]
 ·clear D c0 i1;obtain⟨⟨b,h1,h2,h3,h4,H,D⟩,i39⟩:=hI;obtain⟨c0,c1,c2,fr,i1,i2,i3,i4⟩:=id D;have hP:=O.procs _ (Qac hk);have n5:=H.nx5;have H1:=H.box zp4 (prE src.procs[k]);have k1:=gc n5 zp4 (prE src.procs[k]);have D1:=D.kq k1;have C10:=(Cl.new s zp4).wr0 (c':=prE src.procs[k]) rfl;unfold Ya at h1;rw[WY hk] at h1;unfold zp4 at *;repeat'(first|apply jc<;>intro _|simp(disch:=first|exact dzG|fail) only[ja i1,ja i2,ja i3,ja i4,ja i39,ja hi,ja hn,r12,γ,δ,ζ,η,θ])
  obtain⟨v1,v2,v3,ws,S⟩:=id H1;refine Kt hb S.cp S.mp _ _ _ _ _ ?_;have S1mp:=S.mp;clear S;by_cases hin:src.procs[k].name∈b.2
  ·rw[if_pos hin];have hp:Y6 b src.procs[k]=.er 162 src.procs[k].line src.procs[k].col:=by unfold Y6 Xx;rw[if_pos hin]
   rw[hp] at h1;rw[<-h1];exact UQ (D1.push dc)
  ·rw[if_neg hin];have hp:Y6 b src.procs[k]=yi (λb r=>XE b.1 b.2 r) (b.1,b.2 ++ [src.procs[k].name]) src.procs[k].rules:=by unfold Y6 Xx;rw[if_neg hin]
   have H2:=H1.take (b.2 ++ [src.procs[k].name]);have D2:=D1.kq ((Kq.refl:Kq 4 3 5 _ _).mp (mpl (b.2 ++ [src.procs[k].name])));have C10:Cl (Go.Sy.mp (Go.Sy.wr (Go.Sy.nw s [.str [],.nils,.int .i64 0,.int .i64 0]) s.nx 0 (prE src.procs[k])) 3 (mpl (b.2 ++ [src.procs[k].name]))) s.nx (prE src.procs[k]):=by rw[W5 om];exact C10
   have hrl:=hP.len;generalize Go.Sy.mp (Go.Sy.wr (Go.Sy.nw s [.str [],.nils,.int .i64 0,.int .i64 0]) s.nx 0 (prE src.procs[k])) 3 (mpl (b.2 ++ [src.procs[k].name]))=t1 at *;clear D1 H1 k1 S1mp
   (have zz:=C10.r;(repeat'(first|apply jc<;>intro _|simp(disch:=first|exact jY|fail) only[ja i1,ja i2,ja i3,ja i4,ja i39,ja hi,ja hn,C10.q,C10.r,r12,γ,δ,ζ,η,θ]));all_goals clear zz)
   refine jZ src.procs[k].rules.length (λky L s=>(∃ c:MT,yi (λb r=>XE b.1 b.2 r) c (src.procs[k].rules.drop ky)=Y6 b src.procs[k]/\c.1.vars=m.vars/\c.1.enums=m.enums/\c.1.moves.length<=1000 * k+ky/\MZ 4 3 5 c.1 c.2 s/\QS src L s)/\Has L 54 (.lst src.procs[k].rules.length (fl ruE src.procs[k].rules))/\Has L 39 (.lst src.procs.length (fl prE src.procs))/\Has L 41 (.int .i64 k)/\Has L 40 (.int .i64 src.procs.length)) (by first|assumption|omega) dc (by simp(disch:=decide) only[jf,jb]) (by simp(disch:=decide) only[jf,jb]) ?_ (λk L s v h=>(by obtain⟨⟨c,g1,g2,g3,g4,g5,g6⟩,g7,g8,g9,g10⟩:=h;refine⟨⟨c,g1,g2,g3,g4,g5,g6.push dc⟩,?_,?_,?_,?_⟩<;>simp(disch:=decide) only[jb]<;>assumption)) (λk L s v h=>(by obtain⟨⟨c,g1,g2,g3,g4,g5,g6⟩,g7,g8,g9,g10⟩:=h;refine⟨⟨c,g1,g2,g3,g4,g5,g6.push dc⟩,?_,?_,?_,?_⟩<;>simp(disch:=decide) only[jb]<;>assumption)) (λky Ly sy hky hIy hiy hny=>?_) (λLy sy hIy=>?_)
   ·refine⟨⟨(b.1,b.2 ++ [src.procs[k].name]),by rw[Qba];exact hp.symm,h2,h3,om,H2,(((D2.push dc).push dc).push dc).push dc⟩,?_⟩;simp(disch:=decide) only[jb,jf,true_and];exact⟨i39,hi,hn⟩
   ·obtain⟨⟨c,g1,g2,g3,g4,H3,D3⟩,j54,j39,j41,j40⟩:=hIy;obtain⟨c0',c1',c2',fr',i1',i2',i3',i4'⟩:=id D3;have hr:=hP.rules _ (Qac hky);have n5':=H3.nx5;have H4:=H3.box zr7 (ruE src.procs[k].rules[ky]);have k4:=gc n5' zr7 (ruE src.procs[k].rules[ky]);have D4:=D3.kq k4;have hlr:(ruE src.procs[k].rules[ky]).length=zr7.length:=by rw[wy];rfl
    have C12:=(Cl.new sy zr7).wr0 hlr;rw[WY hky] at g1;unfold zr7 at *;repeat'(first|apply jc<;>intro _|simp(disch:=first|exact dzG|fail) only[ja i1',ja i2',ja i3',ja i4',ja j54,ja hiy,ja hny,r12,γ,δ,ζ,η,θ])
    refine jqw hb _ (by rw[g2,g3];exact V) hr.1 hr.2.1 hr.2.2 om H4 _ _ ?_;cases hk1:XE c.1 c.2 src.procs[k].rules[ky] with
    |er x y z=>
     rw[hk1] at g1;rw[<-g1] at h1;intro s' k5;rw[<-h1];exact UQ ((D4.kq k5).push dc)
    |ok d=>
     rw[hk1] at g1;intro s' k5 H5;obtain⟨e,he⟩:=jbQ hk1;repeat'(first|apply jc<;>intro _|simp(disch:=first|exact dzG|fail) only[r12,γ,δ,ζ,η,θ])
     refine⟨⟨⟨d,g1,by rw[he];exact g2,by rw[he];exact g3,by rw[he];simp only[ψ,υ,ω];omega,H5,(D4.kq k5).push dc⟩,?_,?_,?_,?_⟩,?_,?_⟩<;>simp(disch:=decide) only[jb]<;>assumption
   ·obtain⟨⟨c,g1,g2,g3,g4,H3,D3⟩,j54,j39,j41,j40⟩:=hIy;rw[QbN,yi] at g1;rw[<-g1] at h1;repeat'(first|apply jc<;>intro _|simp(disch:=first|exact dzG|fail) only[r12,γ,δ,ζ,η,θ])
    refine⟨⟨⟨c,h1,g2,g3,om,H3,D3⟩,?_⟩,?_,?_⟩<;>assumption
 ·obtain⟨⟨b,h1,h2,h3,h4,H,D⟩,i39⟩:=hI;rw[QbN] at h1;unfold Ya at h1;rw[yi] at h1;rw[<-h1];repeat'(first|apply jc<;>intro _|simp(disch:=first|exact dzG|fail) only[r12,γ,δ,ζ,η,θ])
  exact m_d D H
theorem MX.mz {m:ModT}{ts:List (List Nat)}{s:St}(h:MX 4 3 5 m ts s)(hm:m.moves=[]):MZ 4 3 5 m ts s:=by
 obtain⟨v1,v2,v3,S⟩:=h;exact⟨v1,v2,v3,[],S.mr hm⟩
def zd7:List AV:=[.str [],.str [],.int .i64 0,.int .i64 0,.nils,.int .i64 0,.int .i64 0]
def ze4:List AV:=[.str [],.nils,.int .i64 0,.int .i64 0]
set_option maxHeartbeats 8000000 in
theorem m_b (hb:NB base){src:SrcT}{L:Sl}{s:St}(D:QS src L s){m:ModT}{ts:List (List Nat)}(V:VarsOK m.vars m.enums)(hm:m.moves=[])(hv0:m.vars=[])(O:SrcOK src)(H:MX 4 3 5 m ts s)(R:KR MT)(hR:(match vK (m,ts) src.vars with | .er a c d=>.er a c d | .ok b=>Ya b src.procs)=R):xC ε base je3 L s (mQ base R) (mP base R):=by
 have c0:=D.c0;have i1:=D.i1;have onv:=O.nv;rw[(by unfold je3;simp only[qq];rfl:je3=_)]
 (have zz:=@c0.r;(repeat'(first|apply jc<;>intro _|simp(disch:=first|exact jY|fail) only[ja i1,c0.q,c0.r,r12,γ,δ,ζ,η,θ]));all_goals clear zz)
 refine jZ src.vars.length (λk L s=>(∃ b:MT,(match vK b (src.vars.drop k) with | .er a c d=>.er a c d | .ok b=>Ya b src.procs)=R/\b.1.moves=[]/\b.1.vars.length<=k/\VarsOK b.1.vars b.1.enums/\MX 4 3 5 b.1 b.2 s/\QS src L s)/\Has L 28 (.lst src.vars.length (fl qk src.vars))) (by first|assumption|omega) dc (by simp(disch:=decide) only[jf,jb]) (by simp(disch:=decide) only[jf,jb]) ?_ (λk L s v h=>(by obtain⟨⟨b,h1,h2,h3,h4,h5,h6⟩,h7⟩:=h;refine⟨⟨b,h1,h2,h3,h4,h5,h6.push dc⟩,?_⟩;simp(disch:=decide) only[jb];assumption)) (λk L s v h=>(by obtain⟨⟨b,h1,h2,h3,h4,h5,h6⟩,h7⟩:=h;refine⟨⟨b,h1,h2,h3,h4,h5,h6.push dc⟩,?_⟩;simp(disch:=decide) only[jb];assumption)) (λk L s hk hI hi hn=>?_) (λL s hI=>?_)
 ·refine⟨⟨(m,ts),by rw[Qba];exact hR,hm,by rw[hv0];exact Qae _,V,H,((D.push dc).push dc).push dc⟩,?_⟩;simp(disch:=decide) only[jb,jf]
 ·clear D c0 i1 H V hm hv0;obtain⟨⟨b,h1,hm,h3,V,H,D⟩,i28⟩:=hI;obtain⟨c0,c1,c2,fr,i1,i2,i3,i4⟩:=id D;have hd:=O.vars _ (Qac hk);have n5:=H.nx5;have H1:=H.box zd7 (qk src.vars[k]);have k1:=gc n5 zd7 (qk src.vars[k]);have D1:=D.kq k1;have C10:=(Cl.new s zd7).wr0 (c':=qk src.vars[k]) rfl;unfold vK at h1;rw[WY hk] at h1;unfold zd7 at *;repeat'(first|apply jc<;>intro _|simp(disch:=first|exact dzG|fail) only[ja i1,ja i2,ja i3,ja i4,ja i28,ja hi,ja hn,r12,γ,δ,ζ,η,θ])
  refine jru hb _ V om hd.ex hd.len hd.lo hd.hi H1 _ _ ?_;cases hk1:XV b.1 b.2 src.vars[k] with
  |er x y z=>
   rw[hk1] at h1;intro s' k5;rw[<-h1];exact UQ ((D1.kq k5).push dc)
  |ok d=>
   rw[hk1] at h1;intro s' k5 H5;obtain⟨v,he,hv⟩:=jcR V.vals hd hk1;repeat'(first|apply jc<;>intro _|simp(disch:=first|exact dzG|fail) only[r12,γ,δ,ζ,η,θ])
   refine⟨⟨⟨d,h1,by rw[he];exact hm,by rw[he];simp only[ψ,υ,ω];omega,?_,H5,(D1.kq k5).push dc⟩,?_⟩,?_,?_⟩
   ·rw[he];refine⟨by simp only[ψ,υ,ω];omega,V.len2,V.vals,λu hu=>?_⟩;rcases Qav.1 hu with hu|hu
    ·exact V.ends u hu
    ·simp only[Qbh] at hu;rw[hu];exact hv
   all_goals(simp(disch:=decide) only[jb];assumption)
 ·obtain⟨⟨b,h1,hm,h3,V,H,D⟩,i28⟩:=hI;rw[QbN] at h1;unfold vK at h1;rw[yi] at h1;dsimp only at h1;rw[<-h1];repeat'(first|apply jc<;>intro _|simp(disch:=first|exact dzG|fail) only[r12,γ,δ,ζ,η,θ])
  exact m_c hb D V hm O (H.mz hm)
set_option maxHeartbeats 8000000 in
theorem m_a (hb:NB base){src:SrcT}{L:Sl}{s:St}(D:QS src L s)(O:SrcOK src)(H:MX 4 3 5 md0 [] s):xC ε base je4 L s (mQ base (Je src)) (mP base (Je src)):=by
 have c0:=D.c0;have i1:=D.i1;have one:=O.ne;generalize hR:Je src=R;unfold Je at hR;rw[(by unfold je4;simp only[qq];rfl:je4=_)]
 (have zz:=@c0.r;(repeat'(first|apply jc<;>intro _|simp(disch:=first|exact jY|fail) only[ja i1,c0.q,c0.r,r12,γ,δ,ζ,η,θ]));all_goals clear zz)
 refine jZ src.enums.length (λk L s=>(∃ b:MT,(match V9 b (src.enums.drop k) with | .er a c d=>.er a c d | .ok b=>(match vK b src.vars with | .er a c d=>.er a c d | .ok b=>Ya b src.procs))=R/\b.1.moves=[]/\b.1.vars=[]/\b.1.enums.length<=k/\(∀ e∈b.1.enums,e.vals.length<=1000000)/\MX 4 3 5 b.1 b.2 s/\QS src L s)/\Has L 17 (.lst src.enums.length (fl enE src.enums))) (by first|assumption|omega) dc (by simp(disch:=decide) only[jf,jb]) (by simp(disch:=decide) only[jf,jb]) ?_ (λk L s v h=>(by obtain⟨⟨b,h1,h2,h3,h4,h4b,h5,h6⟩,h7⟩:=h;refine⟨⟨b,h1,h2,h3,h4,h4b,h5,h6.push dc⟩,?_⟩;simp(disch:=decide) only[jb];assumption)) (λk L s v h=>(by obtain⟨⟨b,h1,h2,h3,h4,h4b,h5,h6⟩,h7⟩:=h;refine⟨⟨b,h1,h2,h3,h4,h4b,h5,h6.push dc⟩,?_⟩;simp(disch:=decide) only[jb];assumption)) (λk L s hk hI hi hn=>?_) (λL s hI=>?_)
 ·refine⟨⟨(md0,[]),by rw[Qba];exact hR,rfl,rfl,Qae _,(λe he=>by cases he),H,((D.push dc).push dc).push dc⟩,?_⟩;simp(disch:=decide) only[jb,jf]
 ·clear D c0 i1 H;obtain⟨⟨b,h1,hm,h3,h4,hv,H,D⟩,i17⟩:=hI;obtain⟨c0,c1,c2,fr,i1,i2,i3,i4⟩:=id D;have hd:=O.vals _ (Qac hk);have n5:=H.nx5;have H1:=H.box ze4 (enE src.enums[k]);have k1:=gc n5 ze4 (enE src.enums[k]);have D1:=D.kq k1;have C10:=(Cl.new s ze4).wr0 (c':=enE src.enums[k]) rfl;unfold V9 at h1;rw[WY hk] at h1;unfold ze4 at *;repeat'(first|apply jc<;>intro _|simp(disch:=first|exact dzG|fail) only[ja i1,ja i2,ja i3,ja i4,ja i17,ja hi,ja hn,r12,γ,δ,ζ,η,θ])
  refine jrn hb (λvs h h2=>jol hb vs h h2) _ hd.1 hd.2 om H1 _ _ ?_;cases hk1:wJ b.1 b.2 src.enums[k] with
  |er x y z=>
   rw[hk1] at h1;intro s' k5;rw[<-h1];exact UQ ((D1.kq k5).push dc)
  |ok d=>
   rw[hk1] at h1;intro s' k5 H5;have he:=W1 hk1;repeat'(first|apply jc<;>intro _|simp(disch:=first|exact dzG|fail) only[r12,γ,δ,ζ,η,θ])
   refine⟨⟨⟨d,h1,by rw[he];exact hm,by rw[he];exact h3,by rw[he];simp only[ψ,υ,ω];omega,?_,H5,(D1.kq k5).push dc⟩,?_⟩,?_,?_⟩
   ·rw[he];intro u hu;rcases Qav.1 hu with hu|hu
    ·exact hv u hu
    ·simp only[Qbh] at hu;rw[hu];exact hd.2
   all_goals(simp(disch:=decide) only[jb];assumption)
 ·obtain⟨⟨b,h1,hm,h3,h4,hv,H,D⟩,i17⟩:=hI;rw[QbN] at h1;unfold V9 at h1;rw[yi] at h1;dsimp only at h1;repeat'(first|apply jc<;>intro _|simp(disch:=first|exact dzG|fail) only[r12,γ,δ,ζ,η,θ])
  exact m_b hb D ⟨by rw[h3];exact Qae _,om,hv,λv hv=>by rw[h3] at hv;cases hv⟩ hm h3 O H R h1
set_option maxHeartbeats 8000000 in
theorem jnZ (hb:NB base)(src:SrcT)(O:SrcOK src):Tot base 53 [.agg (srE src)] (Uy (Je src)):=by
 refine hb.tot ?_ (by first|rfl|simp[pa,pc,qZ,Xb,Wy,J1,JG,jaE,Kv,YW,ww,Za,zC,ZR]) rfl;refine WA x26 (hb.pur 53 1 dc) ?_;simp only[y26,jt,κ,μ,ν,ξ];rw[(by unfold z26;simp only[qq];rfl:z26=_)];repeat'(first|apply jc<;>intro _|simp(disch:=first|exact dzG|fail) only[wn,jsN,jsf,r12,γ,δ,ζ,η,θ])
 obtain⟨X,hX⟩:∃ X,X=Go.Sy.nw (Go.Sy.nw (Go.Sy.nw st0 (srE src)) [.nils,.nils,.nils]) [.int .i64 0,.int .i64 0,.int .i64 0]:=⟨_,rfl⟩;have X2:Cl X 2 [.int .i64 0,.int .i64 0,.int .i64 0]:=by rw[hX];exact Cl.new _ _
 have X1:Cl X 1 [.nils,.nils,.nils]:=by rw[hX];exact(Cl.new _ _).nw _
 have X0:Cl X 0 (srE src):=by rw[hX];exact((Cl.new _ _).nw _).nw _
 have Xn:X.nx=3:=by rw[hX];rfl
 have Xf:X.fr=[]:=by rw[hX];rfl
 rw[<-hX];have hn4:(nmp (df (67,[.ptr 2 0]) X)).nx=4:=by show X.nx+1=4;omega
 have hc:(AV.nils :: AV.nils :: AV.nils :: upd [AV.nilm,AV.bool false] 0 (AV.map 3).cells)=[.nils,.nils,.nils,.map 3,.bool false]:=rfl;rw[hn4,hc];have Y:∀ c cs,c<3->Cl X c cs->Cl (Go.Sy.nw (nmp (df (67,[.ptr 2 0]) X)) [.nils,.nils,.nils,.map 3,.bool false]) c cs:=λc cs h3 h=>by
  refine h.keep ?_ ?_
  ·rw[ji,hn4];omega
  ·rw[JF om,jis,if_neg (by show c≠X.nx;omega)];rfl
 have C4:Cl (Go.Sy.nw (nmp (df (67,[.ptr 2 0]) X)) [.nils,.nils,.nils,.map 3,.bool false]) 4 [.nils,.nils,.nils,.map 3,.bool false]:=hn4▸Cl.new (nmp (df (67,[.ptr 2 0]) X)) _;have M3:Mp (Go.Sy.nw (nmp (df (67,[.ptr 2 0]) X)) [.nils,.nils,.nils,.map 3,.bool false]) 3 []:=by
  have h:Mp (nmp (df (67,[.ptr 2 0]) X)) X.nx []:=Mp.new (df (67,[.ptr 2 0]) X);rw[Xn] at h;exact h.nw _
 have n5:(Go.Sy.nw (nmp (df (67,[.ptr 2 0]) X)) [.nils,.nils,.nils,.map 3,.bool false]).nx=5:=by rw[ji,hn4]
 refine m_a hb ⟨Y _ _ dc X0,Y _ _ dc X1,Y _ _ dc X2,?_,?_,?_,?_,?_⟩ O ⟨.nils,.nils,.nils,C4,M3,Lv.nil,Lv.nil,Lv.nil,trivial,trivial,trivial,dc,dc,dc,om,τ _⟩
 ·show(67,[AV.ptr 2 0]) :: X.fr=_;rw[Xf]
 all_goals simp(disch:=decide) only[jb,jf]
def jfh (r:KR Ex):AV:=match r with
 |.er c l k=>.tup [.agg (eE ex0),.agg (fcl c l k)]
 |.ok y=>.tup [.agg (eE y),.agg (fcl 0 0 0)]
set_option maxHeartbeats 4000000 in
theorem jiy (hb:NB base)(m:ModT)(V:VarsOK m.vars m.enums)(x:Ex)(hx:OkE x):PX ε base 55 [.agg (mdE m),.agg (eE x)] (.ok (jfh (yC m.vars m.enums true x 2 []))):=by
 refine WA x25 (hb.pur 55 1 dc) ?_;simp only[y25,jt,κ,μ,ν,ξ];rw[(by unfold z25;simp only[qq];rfl:z25=_)];have uq:upd [.nils,.nils,.nils,.nilm,.bool false] 0 (mdE m)=[.lst m.vars.length (fl vaE m.vars),.lst m.enums.length (fl enE m.enums),.lst m.moves.length (fl moE m.moves),.nilm,.bool false]:=rfl;repeat'(first|apply jc<;>intro _|simp(disch:=first|exact dzG|fail) only[wn,YH,Vh,Vg (base:=base),uq,r12,γ,δ,ζ,η,θ])
 obtain⟨X,hX⟩:∃ X,X=Go.Sy.nw (Go.Sy.nw (Go.Sy.nw (Go.Sy.nw st0 (mdE m)) (eE x)) [.int .i64 0,.int .i64 0,.str [],.nils,.int .i64 0,.int .i64 0]) [.int .i64 0,.int .i64 0,.int .i64 0]:=⟨_,rfl⟩;rw[<-hX];have X3:Cl X 3 [.int .i64 0,.int .i64 0,.int .i64 0]:=by rw[hX];exact Cl.new _ _
 have X2:Cl X 2 [.int .i64 0,.int .i64 0,.str [],.nils,.int .i64 0,.int .i64 0]:=by rw[hX];exact(Cl.new _ _).nw _
 have X1:Cl X 1 (eE x):=by rw[hX];exact((Cl.new _ _).nw _).nw _
 have Xn:X.nx=4:=by rw[hX];rfl
 have Xf:X.fr=[]:=by rw[hX];rfl
 obtain⟨S,hS⟩:∃ S,S=Go.Sy.nw (df (67,[.ptr 3 0]) X) [.lst m.vars.length (fl vaE m.vars),.lst m.enums.length (fl enE m.enums),.lst m.moves.length (fl moE m.moves),.nilm,.bool true]:=⟨_,rfl⟩;rw[<-hS];have hn4:(df (67,[.ptr 3 0]) X).nx=4:=Xn;have Y:∀ c cs,c<4->Cl X c cs->Cl S c cs:=λc cs h3 h=>by
  rw[hS];refine h.keep ?_ ?_
  ·rw[ji,hn4];omega
  ·rw[JF om];rfl
 have C1:=Y _ _ dc X1;have C2:=Y _ _ dc X2;have C3:=Y _ _ dc X3;have C4:Cl S 4 [.lst m.vars.length (fl vaE m.vars),.lst m.enums.length (fl enE m.enums),.lst m.moves.length (fl moE m.moves),.nilm,.bool true]:=by rw[hS];exact hn4▸Cl.new (df (67,[.ptr 3 0]) X) _
 have Sf:S.fr=[(67,[.ptr 3 0])]:=by
  rw[hS];show(67,[AV.ptr 3 0]) :: X.fr=_;rw[Xf]
 clear hS Y X1 X2 X3 Xn Xf hX uq hn4;refine Ux hb V _ hx.2 (YI _ hx.1) _ _ (fm:=true) (mm:=.nilm) (v3:=.lst m.moves.length (fl moE m.moves)) ⟨C4,.inl rfl,.inl rfl,(λb k z x h=>by cases h),(λb k z x h=>by cases h)⟩ _ _ ?_;cases hr:yC m.vars m.enums true x 2 [] with
 |er a b c=>
  intro s' k2;have E1:=k2.cl C1 dc;have E2:=k2.cl C2 dc;have E3:=k2.cl C3 dc;have l3:=E3.len;have n3:=E3.lt;have hf:s'.fr=[(67,[.ptr 3 0])]:=k2.fr.trans Sf
  (have zz:=aI @Q5 (aI C1.r (aI C2.r (aI C3.r (aI E1.r (aI E2.r E3.r)))));(repeat'(first|apply jc<;>intro _|simp(disch:=first|exact jY|fail) only[YH,Vh,Vg (base:=base),Q3,Y2,Qg (f:=67) (vs:=[.ptr 3 0]),JH (f:=67) (vs:=[.ptr 3 0]),gK,jaI,C1.q,C2.q,C3.q,E1.q,E2.q,E3.q,Q5,C1.r,C2.r,C3.r,E1.r,E2.r,E3.r,r12,γ,δ,ζ,η,θ]));all_goals clear zz)
  exact FzD.tup (.cons YD (.cons (.agg (.pc (by rfl))) .nil))
 |ok y=>
  intro s' k2 D4;have E1:=k2.cl C1 dc;have E2:=k2.cl C2 dc;have E3:=k2.cl C3 dc;have l3:=E3.len;have n3:=E3.lt;have hf:s'.fr=[(67,[.ptr 3 0])]:=k2.fr.trans Sf
  (have zz:=aI @Q5 (aI C1.r (aI C2.r (aI C3.r (aI E1.r (aI E2.r E3.r)))));(repeat'(first|apply jc<;>intro _|simp(disch:=first|exact jY|fail) only[YH,Vh,Vg (base:=base),Q3,Y2,Qg (f:=67) (vs:=[.ptr 3 0]),JH (f:=67) (vs:=[.ptr 3 0]),gK,jaI,C1.q,C2.q,C3.q,E1.q,E2.q,E3.q,Q5,C1.r,C2.r,C3.r,E1.r,E2.r,E3.r,r12,γ,δ,ζ,η,θ]));all_goals clear zz)
  exact FzD.tup (.cons (.agg (.pc (qZ y))) (.cons (.agg (.pc (by rfl))) .nil))
theorem jix (hb:NB base)(m:ModT)(V:VarsOK m.vars m.enums)(x:Ex)(hx:OkE x):Tot base 55 [.agg (mdE m),.agg (eE x)] (jfh (yC m.vars m.enums true x 2 [])):=hb.tot (jiy hb m V x hx) (by first|rfl|simp[pa,pc,qZ,Xb,Wy,J1,JG,jaE,Kv,YW,ww,Za,zC,ZR]) rfl
mutual
theorem jbS:∀ (d:Nat) (x:Ex),ze d x=true->Qa x=true/\ZQ x=true
 |0,_,h=>by cases h
 |d+1,.mk op num name ks l c,h=>by
  rw[Wz] at h;simp only[Qaa,decide_eq_true_eq] at h;obtain⟨⟨⟨⟨h1,h2⟩,h3⟩,h4⟩,h5⟩:=h;have h3:(ks.length:Int)=if 5<=op/\op<=13 then 1 else if 14<=op/\op<31 then 2 else 0:=h3
  obtain⟨k1,k2⟩:=G9 d ks h5;refine⟨?_,?_⟩
  ·rw[Qa,Qaa,decide_eq_true_eq];refine⟨?_,k1⟩;split at h3
   ·omega
   ·split at h3<;>omega
  ·rw[ZQ,Qaa,QaE,Qaa,decide_eq_true_eq,decide_eq_true_eq,decide_eq_true_eq];refine⟨?_,k2⟩;by_cases ho:op=1
   ·right;unfold ub at h4;rw[if_pos (show Ex.op (.mk op num name ks l c)=1 from ho)] at h4;simp only[Qaa,decide_eq_true_eq] at h4;have h6:(0:Int)<=num:=h4.1.1;have h7:num<=1000000:=h4.1.2;omega
   ·exact .inl ho
theorem G9:∀ (d:Nat) (xs:List Ex),xs.all (ze d)=true->JV xs=true/\Qn xs=true
 |_,[],_=>⟨rfl,rfl⟩
 |d,x :: xs,h=>by
  rw[QaF,Qaa] at h;obtain⟨a1,a2⟩:=jbS d x h.1;obtain⟨b1,b2⟩:=G9 d xs h.2;rw[JV,Qn,Qaa,Qaa];exact⟨⟨a1,b1⟩,⟨a2,b2⟩⟩
end
theorem vS {ts:List Tk}(W:Wds ts){i j:Nat}{x:Ex}(hi:i<ts.length)(h:yt ts i=.ok x j):OkE x:=jbS 60 x (yh W hi h).2.2.2
theorem jgJ:∀ {ts:List Tk} {n i j:Nat} {vs ws:List (List Nat)},vs.length<=32->Xu ts n i vs=.ok ws j->vs.length<ws.length/\ws.length<=32
 |ts,0,i,j,vs,ws,hv,h=>by cases h
 |ts,n+1,i,j,vs,ws,hv,h=>by
  rw[Xu] at h;split at h
  ·split at h
   ·cases h
   ·split at h
    ·have:=jgJ (by simp;omega) h;simp at this;omega
    ·split at h
     ·cases h;simp;omega
     ·cases h
  ·cases h
theorem jrl {ts:List Tk}{i j:Nat}{e:EnumT}(h:Yv ts i=.ok e j):0<e.vals.length/\e.vals.length<=1000000:=by
 unfold Yv at h;split at h
 ·split at h
  ·split at h
   ·rename_i vs k hv;cases h;have:=jgJ (by simp) hv;dsimp only;omega
   ·cases h
  ·cases h
 ·cases h
theorem jmB {ts:List Tk}(N:Nbs ts){i j:Nat}{n:Int}(h:Y8 ts i=.ok n j) : -100000000<=n/\n<=100000000:=by
 unfold Y8 at h;split at h
 ·split at h
  ·have:=N (i+1);cases h;omega
  ·cases h
 ·split at h
  ·have:=N i;cases h;omega
  ·cases h
theorem jsg {ts:List Tk}(N:Nbs ts){i j:Nat}{y:List Nat×Int×Int}(h:Wp ts i=.ok y j):(-100000000<=y.2.1/\y.2.1<=100000000)/\(-100000000<=y.2.2/\y.2.2<=100000000):=by
 unfold Wp at h;split at h
 ·cases h;dsimp only;omega
 ·split at h
  ·cases h;dsimp only;omega
  ·split at h
   ·cases h
   ·rename_i lo k h1;split at h
    ·split at h
     ·cases h
     ·rename_i hi k2 h2;cases h;exact⟨jmB N h1,jmB N h2⟩
    ·cases h
theorem jsY {ts:List Tk}(W:Wds ts){i j:Nat}{bs:List Ex}(hi:i<ts.length)(h:wj ts i=.ok bs j):(∀ x∈bs,OkE x)/\bs.length<=1:=by
 unfold wj at h;split at h
 ·rename_i c;have hi1:=W.isM hi c;split at h
  ·cases h
  ·rename_i x k hx;split at h
   ·cases h;exact⟨λy hy=>by simp at hy;rw[hy];exact vS W hi1 hx,by simp⟩
   ·cases h
 ·split at h
  ·cases h;exact⟨(λy hy=>by cases hy),by simp⟩
  ·cases h
theorem jrs {ts:List Tk}(W:Wds ts)(N:Nbs ts){i j:Nat}{d:DeclT}(hi:i<ts.length)(h:Yw ts i=.ok d j):DeclOK d:=by
 unfold Yw at h;split at h
 ·rename_i k1;have hi1:=W.next i hi om
  split at h
  ·rename_i c1;have hi2:=W.isM hi1 c1;split at h
   ·cases h
   ·rename_i y k hy;have hk:=jbG W hi2 hy;split at h
    ·cases h
    ·rename_i bs k2 hb;cases h;obtain⟨a,b⟩:=jsg N hy;obtain⟨c,d⟩:=jsY W hk.2 hb;exact⟨c,by dsimp only;omega,a,b⟩
  ·cases h
 ·cases h
theorem jjc {ts:List Tk}(W:Wds ts):∀ {n i j:Nat} {vs ws:List AsT},i<ts.length->(∀ a∈vs,OkE a.to)->vs.length<=32->QR ts n i vs=.ok ws j->(∀ a∈ws,OkE a.to)/\ws.length<=32
 |0,i,j,vs,ws,hi,hv,hl,h=>by cases h
 |n+1,i,j,vs,ws,hi,hv,hl,h=>by
  rw[QR] at h;by_cases k1:(tk ts i).kind=1
  ·simp only[if_pos k1] at h;have hi1:=W.next i hi om
   by_cases h32:32<=vs.length
   ·simp only[if_pos h32] at h;cases h
   simp only[if_neg h32] at h;by_cases c1:isM (tk ts (i+1)) [[58,61]]=true
   ·simp only[if_pos c1] at h;have hi2:=W.isM hi1 c1;cases h1:yt ts (i+2) with
    |er t=>rw[h1] at h;cases h
    |ok x k=>
     rw[h1] at h;dsimp only at h;have hj:=yh W hi2 h1;have hx:=vS W hi2 h1;have hv2:∀ l c nm,∀ a∈vs ++ [(⟨nm,x,l,c⟩:AsT)],OkE a.to:=λl c nm a ha=>by
      rcases Qav.1 ha with ha|ha
      ·exact hv a ha
      ·simp at ha;rw[ha];exact hx
     by_cases c2:isM (tk ts k) [[44]]=true
     ·simp only[if_pos c2] at h;exact jjc W (W.isM hj.2.1 c2) (hv2 _ _ _) (by simp;omega) h
     ·simp only[if_neg c2] at h;split at h
      ·cases h;exact⟨hv2 _ _ _,by simp;omega⟩
      ·cases h
   ·simp only[if_neg c1] at h;cases h
  ·simp only[if_neg k1] at h;cases h
theorem jqu {ts:List Tk}(W:Wds ts){i j:Nat}{r:RuleT}(hi:i<ts.length)(h:XA ts i=.ok r j):OkE r.when/\(∀ a∈r.acts,OkE a.to)/\r.acts.length<=1000000:=by
 unfold XA at h;cases h1:yt ts i with
 |er t=>rw[h1] at h;cases h
 |ok x k=>
  rw[h1] at h;dsimp only at h;have hj:=yh W hi h1;by_cases c1:isM (tk ts k) [[100,111]]=true
  ·simp only[if_pos c1] at h;cases h2:QR ts ts.length (k+1) [] with
   |er t=>rw[h2] at h;cases h
   |ok vs k2=>
    rw[h2] at h;cases h;have:=jjc (vs:=[]) W (W.isM hj.2.1 c1) (λa ha=>by cases ha) (Qae _) h2;exact⟨vS W hi h1,this.1,by dsimp only;omega⟩
  ·simp only[if_neg c1] at h;cases h
theorem jdW {ts:List Tk}(W:Wds ts):∀ {n i j:Nat} {vs ws:List RuleT},i<ts.length->(∀ r∈vs,OkE r.when/\(∀ a∈r.acts,OkE a.to)/\r.acts.length<=1000000)->vs.length<=32->Ql ts n i vs=.ok ws j->(∀ r∈ws,OkE r.when/\(∀ a∈r.acts,OkE a.to)/\r.acts.length<=1000000)/\ws.length<=32
 |0,i,j,vs,ws,hi,hv,hl,h=>by cases h
 |n+1,i,j,vs,ws,hi,hv,hl,h=>by
  rw[Ql] at h;by_cases c1:isM (tk ts i) [[119,104,101,110]]=true
  ·simp only[if_pos c1] at h;have hi1:=W.isM hi c1;by_cases h32:32<=vs.length
   ·simp only[if_pos h32] at h;cases h
   simp only[if_neg h32] at h;cases h1:XA ts (i+1) with
   |er t=>rw[h1] at h;cases h
   |ok r k=>
    rw[h1] at h;dsimp only at h;refine jdW W (UE W hi1 h1).2 (λa ha=>?_) (by simp;omega) h;rcases Qav.1 ha with ha|ha
    ·exact hv a ha
    ·simp at ha;rw[ha];exact jqu W hi1 h1
  ·simp only[if_neg c1] at h;split at h
   ·cases h;exact⟨hv,hl⟩
   ·cases h
theorem jqG {ts:List Tk}(W:Wds ts){i j:Nat}{p:ProcT}(hi:i<ts.length)(h:Yj ts i=.ok p j):ProcOK p:=by
 unfold Yj at h;split at h
 ·rename_i k1;have hi1:=W.next i hi om
  split at h
  ·rename_i c1;have hi2:=W.isM hi1 c1;split at h
   ·rename_i vs k hv;cases h;have:=jdW (vs:=[]) W hi2 (λa ha=>by cases ha) (Qae _) hv;exact⟨by dsimp only;omega,this.1⟩
   ·cases h
  ·cases h
 ·cases h
theorem jap {ts:List Tk}(W:Wds ts)(N:Nbs ts):∀ {n i j:Nat} {m w:SrcT},i<ts.length->SrcOK m->m.enums.length<=32->m.vars.length<=32->m.procs.length<=32->XY ts n i m=.ok w j->SrcOK w/\w.enums.length<=32/\w.vars.length<=32/\w.procs.length<=32
 |0,i,j,m,w,hi,hm,h1,h2,h3,h=>by cases h
 |n+1,i,j,m,w,hi,hm,h1,h2,h3,h=>by
  rw[XY] at h;by_cases c:isM (tk ts i) [[101,110,117,109],[118,97,114],[112,114,111,99,101,115,115]]=true
  ·simp only[if_pos c] at h;have hi1:=W.isM hi c;by_cases c1:(tk ts i).text=[101,110,117,109]
   ·simp only[if_pos c1] at h;by_cases hr:32<=m.enums.length
    ·simp only[if_pos hr] at h;cases h
    simp only[if_neg hr] at h;cases he:Yv ts (i+1) with
    |er t=>rw[he] at h;cases h
    |ok e k=>
     rw[he] at h;refine jap (m:={ m with enums:=m.enums ++ [e] }) W N (GL W hi1 he).2 ⟨by simp;omega,hm.nv,hm.np,λa ha=>?_,hm.vars,hm.procs⟩ (by simp;omega) h2 h3 h;rcases Qav.1 ha with ha|ha
     ·exact hm.vals a ha
     ·simp at ha;rw[ha];exact jrl he
   simp only[if_neg c1] at h;by_cases c2:(tk ts i).text=[118,97,114]
   ·simp only[if_pos c2] at h;by_cases hr:32<=m.vars.length
    ·simp only[if_pos hr] at h;cases h
    simp only[if_neg hr] at h;cases he:Yw ts (i+1) with
    |er t=>rw[he] at h;cases h
    |ok e k=>
     rw[he] at h;refine jap (m:={ m with vars:=m.vars ++ [e] }) W N (GQ W hi1 he).2 ⟨hm.ne,by simp;omega,hm.np,hm.vals,λa ha=>?_,hm.procs⟩ h1 (by simp;omega) h3 h;rcases Qav.1 ha with ha|ha
     ·exact hm.vars a ha
     ·simp at ha;rw[ha];exact jrs W N hi1 he
   ·simp only[if_neg c2] at h;by_cases hr:32<=m.procs.length
    ·simp only[if_pos hr] at h;cases h
    simp only[if_neg hr] at h;cases he:Yj ts (i+1) with
    |er t=>rw[he] at h;cases h
    |ok e k=>
     rw[he] at h;refine jap (m:={ m with procs:=m.procs ++ [e] }) W N (Gm W hi1 he).2 ⟨hm.ne,hm.nv,by simp;omega,hm.vals,hm.vars,λa ha=>?_⟩ h1 h2 (by simp;omega) h;rcases Qav.1 ha with ha|ha
     ·exact hm.procs a ha
     ·simp at ha;rw[ha];exact jqG W hi1 he
  ·simp only[if_neg c] at h;split at h
   ·cases h;exact⟨hm,h1,h2,h3⟩
   ·cases h
theorem jdR {l:List Nat}(h:(yK l).2.1=0):SrcOK (yK l).1:=by
 unfold yK at h ⊢;by_cases c:(qr l).2.1≠0
 ·rw[if_pos c] at h;exact absurd h c
 ·rw[if_neg c] at h ⊢;have c0:(qr l).2.1=0:=by simpa using c
  obtain⟨W,ne,_⟩:=Uf c0;cases hr:XY (qr l).1 (qr l).1.length 0 Ww with
  |er t=>rw[hr] at h;exact absurd h (λh=>by cases h)
  |ok m j=>exact(jap W (jiV c0) (QbB.2 ne) ⟨dc,dc,dc,(λa ha=>by cases ha),(λa ha=>by cases ha),(λa ha=>by cases ha)⟩ dc dc dc hr).1
theorem jlo {l:List Nat}(h:(yv l).2.1=0):OkE (yv l).1:=by
 unfold yv at h ⊢;by_cases c:(qr l).2.1≠0
 ·rw[if_pos c] at h;exact absurd h c
 ·rw[if_neg c] at h ⊢;have c0:(qr l).2.1=0:=by simpa using c
  obtain⟨W,ne,_⟩:=Uf c0;cases hr:yt (qr l).1 0 with
  |er t=>rw[hr] at h;exact absurd h (λh=>by cases h)
  |ok x j=>
   rw[hr] at h;dsimp only at h ⊢;by_cases k5:(tk (qr l).1 j).kind=5
   ·rw[if_pos k5];exact vS W (QbB.2 ne) hr
   ·rw[if_neg k5] at h;exact absurd h (λh=>by cases h)
def Bad (c:Int):Prop:=c≠0
theorem jfD {vars:List VarT}{enums:List EnumT}{x:Ex}{c l k:Int}(h:zh vars enums x=.er c l k):Bad c:=by
 unfold zh at h;split at h
 ·cases h
 ·split at h
  ·cases h;exact λh=>by cases h
  ·cases h
mutual
theorem HL {vars:List VarT}{enums:List EnumT}:∀ (fm:Bool) (x:Ex) {a b d:Int},ya vars enums fm x=.er a b d->Bad a
 |fm,.mk op num name ks l c,a,b,d,h=>by
  rw[ya] at h;split at h
  ·cases h
  ·split at h
   ·cases h
   ·split at h
    ·exact jfD h
    ·split at h
     ·rename_i hr;cases h;exact gh _ _ hr
     ·unfold X5 at h;split at h
      ·cases h;exact λh=>by cases h
      ·split at h
       ·cases h
       ·split at h
        ·cases h;exact λh=>by cases h
        ·cases h
theorem gh {vars:List VarT}{enums:List EnumT}:∀ (fm:Bool) (xs:List Ex) {a b d:Int},qd vars enums fm xs=.er a b d->Bad a
 |fm,[],a,b,d,h=>by rw[qd] at h;cases h
 |fm,x :: xs,a,b,d,h=>by
  rw[qd] at h;cases hx:ya vars enums fm x with
  |er p q r=>rw[hx] at h;cases h;exact HL fm x hx
  |ok y=>
   rw[hx] at h;cases hr:qd vars enums fm xs with
   |er p q r=>rw[hr] at h;cases h;exact gh fm xs hr
   |ok r=>rw[hr] at h;cases h
end
theorem Xw {vars:List VarT}{enums:List EnumT}{fm:Bool}{x:Ex}{w:Int}{en:List Nat}{a b c:Int}(h:yC vars enums fm x w en=.er a b c):Bad a:=by
 unfold yC at h;split at h
 ·rename_i hr;cases h;exact HL fm x hr
 ·split at h
  ·cases h;exact λh=>by cases h
  ·cases h
theorem Vn {ts:List (List Nat)}{n:List Nat}{l c a b d:Int}(h:Xx ts n l c=.er a b d):Bad a:=by
 unfold Xx at h;split at h
 ·cases h;exact λh=>by cases h
 ·cases h
theorem Ks {l c:Int}:∀ {ns ts:List (List Nat)} {a b d:Int},zy l c ts ns=.er a b d->Bad a
 |[],ts,a,b,d,h=>by cases h
 |n :: ns,ts,a,b,d,h=>by
  rw[zy] at h;split at h
  ·rename_i hr;cases h;exact Vn hr
  ·exact Ks h
theorem jiO {m:ModT}{ts:List (List Nat)}{e:EnumT}{a b d:Int}(h:wJ m ts e=.er a b d):Bad a:=by
 unfold wJ at h;split at h
 ·rename_i hr;cases h;exact Ks hr
 ·cases h
theorem jc5 {vars:List VarT}{enums:List EnumT}:∀ {xs:List Ex} {v:VarT} {a b d:Int},JA vars enums v xs=.er a b d->Bad a
 |[],v,a,b,d,h=>by rw[JA] at h;cases h
 |x :: xs,v,a,b,d,h=>by
  rw[JA] at h;split at h
  ·rename_i hr;cases h;exact Xw hr
  ·split at h
   ·cases h;exact λh=>by cases h
   ·split at h
    ·cases h;exact λh=>by cases h
    ·exact jc5 h
theorem jiU {m:ModT}{ts:List (List Nat)}{e:DeclT}{a b d:Int}(h:XV m ts e=.er a b d):Bad a:=by
 unfold XV at h;split at h
 ·rename_i hr;cases h;exact Vn hr
 ·split at h
  ·rename_i hr;cases h;unfold uc at hr;split at hr
   ·cases hr
   ·split at hr
    ·cases hr
    ·split at hr
     ·cases hr;exact λh=>by cases h
     ·split at hr
      ·cases hr;exact λh=>by cases h
      ·split at hr
       ·cases hr;exact λh=>by cases h
       ·cases hr
  ·unfold wR at h;split at h
   ·rename_i hr;cases h;exact jc5 hr
   ·unfold kN at h;split at h
    ·cases h;exact λh=>by cases h
    ·cases h
theorem G6 {vars:List VarT}{enums:List EnumT}:∀ {xs done:List AsT} {acc:List SetT} {a b d:Int},QI vars enums acc done xs=.er a b d->Bad a
 |[],done,acc,a,b,d,h=>by rw[QI] at h;cases h
 |x :: xs,done,acc,a,b,d,h=>by
  rw[QI] at h;split at h
  ·cases h;exact λh=>by cases h
  ·split at h
   ·cases h;exact λh=>by cases h
   ·split at h
    ·rename_i hr;cases h;exact Xw hr
    ·exact G6 h
theorem jhv {m:ModT}{ts:List (List Nat)}{e:RuleT}{a b d:Int}(h:XE m ts e=.er a b d):Bad a:=by
 unfold XE at h;split at h
 ·rename_i hr;cases h;exact Xw hr
 ·split at h
  ·rename_i hr;cases h;exact G6 hr
  ·cases h
theorem Z4 {α β:Type}{f:β->α->KR β}(hf:∀ b x a c d,f b x=.er a c d->Bad a):∀ {xs:List α} {b:β} {a c d:Int},yi f b xs=.er a c d->Bad a
 |[],b,a,c,d,h=>by rw[yi] at h;cases h
 |x :: xs,b,a,c,d,h=>by
  rw[yi] at h;split at h
  ·rename_i hr;cases h;exact hf _ _ _ _ _ hr
  ·exact Z4 hf h
theorem WJ {s:SrcT}{a b d:Int}(h:Je s=.er a b d):Bad a:=by
 unfold Je at h;split at h
 ·rename_i hr;cases h;exact Z4 (λb x a c d h=>jiO h) hr
 ·split at h
  ·rename_i hr;cases h;exact Z4 (λb x a c d h=>jiU h) hr
  ·refine Z4 (λb x a c d h=>?_) h;unfold Y6 at h;split at h
   ·rename_i hr;cases h;exact Vn hr
   ·exact Z4 (λb x a c d h=>jhv h) h
theorem jsq:Go.Ev.isAgg ε 35=some true:=by kernel_rfl
theorem jsp:Go.Ev.sizeOf ε 35=some 3:=by kernel_rfl
theorem juh {b o:Nat}{cs:List AV}{h:T AO}(ho:o+3<=qv h b)(hv:rats h b o 3=cs)(hc:cs.all eqs=true):(j9 ε 35 (.ptr b o) (.agg cs) h=true)=True:=eq_true (Y4 jsq jsp dc ho hv hc)
structure RdT where
 m:ModT
 x:Ex
 c:Int
 l:Int
 k:Int
def Ja (l f:List Nat):RdT:=
 if(yK l).2.1≠0 then⟨md0,ex0,(yK l).2.1,(yK l).2.2.1,(yK l).2.2.2⟩ else match Je (yK l).1 with
 |.er a b c=>⟨md0,ex0,a,b,c⟩
 |.ok m=>if(yv f).2.1≠0 then⟨md0,ex0,(yv f).2.1,(yv f).2.2.1,(yv f).2.2.2⟩ else match yC m.1.vars m.1.enums true (yv f).1 2 [] with
  |.er a b c=>⟨md0,ex0,a,b,c⟩
  |.ok y=>⟨m.1,y,0,0,0⟩
def Kr (r:RdT):AV:=.tup [.agg (mdE r.m),.agg (eE r.x),.agg (fcl r.c r.l r.k)]
theorem jkF {s:St}{r:RdT}{a b c:List AV}(h1:a=mdE r.m)(h2:b=eE r.x)(h3:c=fcl r.c r.l r.k):G0 (Kr r) (.tup [.agg a,.agg b,.agg c]) s:=by
 subst h1 h2 h3;exact FzD.tup (.cons (.agg (.pc (zC _))) (.cons (.agg (.pc (qZ _))) (.cons (.agg (.pc rfl)) .nil)))
theorem Wq {s:St}{r:RdT}{c:List AV}(h1:r.m=md0)(h2:r.x=ex0)(h3:c=fcl r.c r.l r.k):G0 (Kr r) (.tup [.agg [.nils,.nils,.nils],.agg [.int .i64 0,.int .i64 0,.str [],.nils,.int .i64 0,.int .i64 0],.agg c]) s:=by
 subst h3;unfold Kr;rw[h1,h2];exact FzD.tup (.cons jh2 (.cons YD (.cons (.agg (.pc rfl)) .nil)))
theorem QC {α β:Type}{f:β->α->KR β}{P:Nat->β->Prop}:∀ {xs:List α} {n:Nat} {b b':β},(∀ k b x b',x∈xs->P k b->f b x=.ok b'->P (k+1) b')->P n b->yi f b xs=.ok b'->P (n+xs.length) b'
 |[],n,b,b',_,h,e=>by rw[yi] at e;cases e;exact h
 |x :: xs,n,b,b',hs,h,e=>by
  rw[yi] at e;split at e
  ·cases e
  ·rename_i c hc;have:=QC (n:=n+1) (λk b y b' hy=>hs k b y b' (by simp[hy])) (hs n b x c (by simp) h hc) e;rw[υ,show n+(xs.length+1)=n+1+xs.length by omega];exact this
theorem jb3 {b b':MT}{p:ProcT}(h:Y6 b p=.ok b'):b'.1.vars=b.1.vars/\b'.1.enums=b.1.enums:=by
 unfold Y6 at h;split at h
 ·cases h
 ·rename_i ts _;refine QC (n:=0) (P:=λ_ c=>c.1.vars=b.1.vars/\c.1.enums=b.1.enums) (λk c x c' _ hc hr=>?_) ⟨rfl,rfl⟩ h;obtain⟨e,he⟩:=jbQ hr;rw[he];exact hc
theorem jlt {src:SrcT}(O:SrcOK src){b:MT}(h:V9 (md0,[]) src.enums=.ok b):b.1.vars=[]/\b.1.moves=[]/\b.1.enums.length<=1000/\(∀ e∈b.1.enums,e.vals.length<=1000000):=by
 have H:=QC (n:=0) (P:=λk (c:MT)=>c.1.vars=[]/\c.1.moves=[]/\c.1.enums.length<=k/\(∀ e∈c.1.enums,e.vals.length<=1000000)) (λk c x c' hx hc hr=>?_) ⟨rfl,rfl,τ _,λe he=>by cases he⟩ h
 ·have:=O.ne;exact⟨H.1,H.2.1,by have:=H.2.2.1;omega,H.2.2.2⟩
 ·rw[W1 hr];refine⟨hc.1,hc.2.1,by have:=hc.2.2.1;simp;omega,λu hu=>?_⟩;rcases Qav.1 hu with hu|hu
  ·exact hc.2.2.2 u hu
  ·simp only[Qbh] at hu;rw[hu];exact(O.vals x hx).2
theorem jlx {src:SrcT}(O:SrcOK src){b c:MT}(V:VarsOK b.1.vars b.1.enums)(h0:b.1.vars=[])(h:vK b src.vars=.ok c):VarsOK c.1.vars c.1.enums:=by
 have:=QC (n:=0) (P:=λk (c:MT)=>(∀ v∈c.1.vars,-100000000<=v.lo/\v.lo<=100000000/\-100000000<=v.hi/\v.hi<=100000000)/\c.1.enums=b.1.enums/\c.1.vars.length=k) (λk c x c' hx hc hr=>?_) ⟨V.ends,rfl,by rw[h0];rfl⟩ h
 ·have hn:=O.nv;exact⟨om,by rw[this.2.1];exact V.len2,by rw[this.2.1];exact V.vals,this.1⟩
 ·obtain⟨v,he,hv⟩:=jcR (by rw[hc.2.1];exact V.vals) (O.vars x hx) hr;rw[he];refine⟨λu hu=>?_,hc.2.1,by simp[hc.2.2]⟩;rcases Qav.1 hu with hu|hu
  ·exact hc.1 u hu
  ·simp only[Qbh] at hu;rw[hu];exact hv
theorem jmF {src:SrcT}(O:SrcOK src){m:MT}(h:Je src=.ok m):VarsOK m.1.vars m.1.enums:=by
 unfold Je at h;split at h
 ·cases h
 ·rename_i b h1;obtain⟨e1,e2,e3,e4⟩:=jlt O h1;split at h
  ·cases h
  ·rename_i c h2;have V:=jlx O ⟨by rw[e1];exact Qae _,om,e4,λv hv=>by rw[e1] at hv;cases hv⟩ e1 h2;have:=QC (n:=0) (P:=λ_ (d:MT)=>d.1.vars=c.1.vars/\d.1.enums=c.1.enums) (λk d x d' _ hd hr=>?_) ⟨rfl,rfl⟩ h
   ·rw[this.1,this.2];exact V
   ·have:=jb3 hr;rw[this.1,this.2];exact hd
set_option maxHeartbeats 8000000 in
theorem jrY (hb:NB base)(hP:PI base)(l f:List Nat)(hl:l.length<=9223372036854775807)(hf:f.length<=9223372036854775807):Tot base 34 [.str l,.str f] (Kr (Ja l f)):=by
 refine hb.tot ?_ rfl rfl;have hS:=jlJ hb hP l hl Uf jiV;have hX:=jr5 hb hP f hf Uf;refine jE x24 (by rfl) (hb.pur 34 1 dc) ?_;simp only[y24,jt,κ,μ,ν,ξ];rw[(by unfold z24;simp only[qq];rfl:z24=_)];unfold Ja;by_cases h1:(yK l).2.1≠0
 ·have h1':¬ ((yK l).2.1:Int)=0:=om
  rw[if_pos h1];have e:zO (yK l).2=[.int .i64 ((yK l).2.1:Int),.int .i64 ((yK l).2.2.1:Int),.int .i64 ((yK l).2.2.2:Int)]:=rfl;rw[e] at hS;repeat'(first|apply jc<;>intro _|simp(disch:=first|exact dzG|fail) only[hS,h1',Y2,Q3,vU,r12,γ,δ,ζ,η,θ])
  exact Wq rfl rfl rfl
 rw[if_neg h1];have h1z:(yK l).2.1=0:=by simpa using h1
 have O:=jdR h1z;have e0:(yK l).2=(0,0,0):=by
  unfold yK at h1z ⊢;by_cases c:(qr l).2.1≠0
  ·rw[if_pos c] at h1z;exact absurd h1z c
  ·rw[if_neg c] at h1z ⊢;cases hr:XY (qr l).1 (qr l).1.length 0 Ww with
   |er t=>rw[hr] at h1z;exact absurd h1z (λh=>by cases h)
   |ok m j=>rfl
 rw[e0] at hS;have e0':zO (0,0,0)=[.int .i64 0,.int .i64 0,.int .i64 0]:=rfl;rw[e0'] at hS;have hM:=jnZ hb (yK l).1 O;unfold Uy at hM;cases hm:Je (yK l).1 with
 |er a b c=>
  have ha:¬ a=0:=WJ hm;rw[hm] at hM;unfold fcl at hM;repeat'(first|apply jc<;>intro _|simp(disch:=first|exact dzG|fail) only[hS,hM,ha,Y2,Q3,vU,r12,γ,δ,ζ,η,θ])
  exact Wq rfl rfl rfl
 |ok m=>
  rw[hm] at hM;unfold fcl at hM;dsimp only at hM ⊢;have V:=jmF O hm;by_cases h2:(yv f).2.1≠0
  ·have h2':¬ ((yv f).2.1:Int)=0:=om
   rw[if_pos h2];have e:zO (yv f).2=[.int .i64 ((yv f).2.1:Int),.int .i64 ((yv f).2.2.1:Int),.int .i64 ((yv f).2.2.2:Int)]:=rfl;rw[e] at hX;repeat'(first|apply jc<;>intro _|simp(disch:=first|exact dzG|fail) only[hS,hM,hX,h2',Y2,Q3,vU,r12,γ,δ,ζ,η,θ])
   exact Wq rfl rfl rfl
  rw[if_neg h2];have h2z:(yv f).2.1=0:=by simpa using h2
  have OX:=jlo h2z;have e2:(yv f).2=(0,0,0):=by
   unfold yv at h2z ⊢;by_cases c:(qr f).2.1≠0
   ·rw[if_pos c] at h2z;exact absurd h2z c
   ·rw[if_neg c] at h2z ⊢;cases hr:yt (qr f).1 0 with
    |er t=>rw[hr] at h2z;exact absurd h2z (λh=>by cases h)
    |ok x j=>
     rw[hr] at h2z;dsimp only at h2z ⊢;by_cases k5:(tk (qr f).1 j).kind=5
     ·rw[if_pos k5]
     ·rw[if_neg k5] at h2z;exact absurd h2z (λh=>by cases h)
  rw[e2,e0'] at hX;have hF:=jix hb m.1 V (yv f).1 OX;unfold jfh at hF;cases hr:yC m.1.vars m.1.enums true (yv f).1 2 [] with
  |er a b c=>
   have ha:¬ a=0:=Xw hr;rw[hr] at hF;unfold fcl at hF;repeat'(first|apply jc<;>intro _|simp(disch:=first|exact dzG|fail) only[hS,hM,hX,hF,ha,Y2,Q3,vU,r12,γ,δ,ζ,η,θ])
   exact Wq rfl rfl rfl
  |ok y=>
   rw[hr] at hF;unfold fcl at hF
   (have zz:=aI @Q5 @jmH;(repeat'(first|apply jc<;>intro _|simp(disch:=first|exact jY|fail) only[hS,hM,hX,hF,Y2,Q3,juh,vU,Q5,jmH,r12,γ,δ,ζ,η,θ]));all_goals clear zz)
   exact jkF rfl rfl rfl
theorem jum (a b c d e f:Int):(eqF ε 20 45).run (.agg [.int .i64 a,.int .i64 b,.int .i64 c]) (.agg [.int .i64 d,.int .i64 e,.int .i64 f])=some (decide (a=d/\b=e/\c=f)):=by
 have h:(eqF ε 20 45).run (.agg [.int .i64 a,.int .i64 b,.int .i64 c]) (.agg [.int .i64 d,.int .i64 e,.int .i64 f])=cond (eqI a d) (cond (eqI b e) (cond (eqI c f) (some true) (some false)) (some false)) (some false):=by kernel_rfl
 rw[h,Ye,Ye,Ye];by_cases h1:a=d<;>by_cases h2:b=e<;>by_cases h3:c=f<;>simp[h1,h2,h3]
theorem fEq (a b c d e f:Int)(st:St)(K:AV->St->Prop):jp (QO ε .eql 45 false (.agg [.int .i64 a,.int .i64 b,.int .i64 c]) (.agg [.int .i64 d,.int .i64 e,.int .i64 f]) st) K=K (.bool (decide (a=d/\b=e/\c=f))) st:=by
 have h:QO ε .eql 45 false (.agg [.int .i64 a,.int .i64 b,.int .i64 c]) (.agg [.int .i64 d,.int .i64 e,.int .i64 f]) st=jU ((eqF ε 20 45).run (.agg [.int .i64 a,.int .i64 b,.int .i64 c]) (.agg [.int .i64 d,.int .i64 e,.int .i64 f])) λb=>.ok (.bool b) st:=by kernel_rfl
 rw[h,jum];simp[jU,jp]
def Zo (vars:List VarT):Prop:=∀ v∈vars,v.kind=2->v.enum=[]
theorem jfJ {enums:List EnumT}{d:DeclT}{v:VarT}(h:uc enums d=.ok v):v.kind=2->v.enum=[]:=by
 unfold uc at h;split at h
 ·cases h;exact λ_=>rfl
 ·split at h
  ·cases h;intro h;cases h
  ·split at h
   ·cases h
   ·split at h
    ·cases h
    ·split at h
     ·cases h
     ·cases h;intro h;cases h
theorem jgd {m:ModT}{ts:List (List Nat)}{d:DeclT}{b:MT}(hm:Zo m.vars)(h:XV m ts d=.ok b):Zo b.1.vars:=by
 unfold XV at h;split at h
 ·cases h
 ·split at h
  ·cases h
  ·rename_i v hk;unfold wR at h;split at h
   ·cases h
   ·rename_i u hu;unfold kN at h;split at h
    ·cases h
    ·cases h;have hb:=GU hu;intro w hw;rcases Qav.1 hw with hw|hw
     ·exact hm w hw
     ·simp only[Qbh] at hw;rw[hw,hb.2.2.1,hb.2.2.2.1];exact jfJ hk
theorem jn4 {src:SrcT}{m:MT}(h:Je src=.ok m):Zo m.1.vars:=by
 unfold Je at h;split at h
 ·cases h
 ·rename_i b h1;have hb:Zo b.1.vars:=QC (n:=0) (P:=λ_ (c:MT)=>Zo c.1.vars) (λk c x c' _ hc hr=>by rw[W1 hr];exact hc) (λv hv=>by cases hv) h1;split at h
  ·cases h
  ·rename_i c h2;have hc:Zo c.1.vars:=QC (n:=0) (P:=λ_ (c:MT)=>Zo c.1.vars) (λk c x c' _ hc hr=>jgd hc hr) hb h2;exact QC (n:=0) (P:=λ_ (c:MT)=>Zo c.1.vars) (λk c x c' _ hc hr=>by rw[(jb3 hr).1];exact hc) hc h
mutual
theorem jcs {vars:List VarT}{enums:List EnumT}:∀ (fm:Bool) (x y:Ex) (m:MtT),ya vars enums fm x=.ok (y,m)->szE y<=szE x
 |fm,.mk op num name ks l c,y,m,h=>by
  rw[ya] at h;split at h
  ·cases h;exact τ _
  ·split at h
   ·cases h;exact τ _
   ·split at h
    ·have hs:∀ o n l c,szE (.mk o n [] [] l c)<=szE (.mk op num name ks l c):=λo n l c=>by rw[Xc,Xc];simp[yJ]
     unfold zh at h;split at h
     ·cases h;exact hs _ _ _ _
     ·split at h
      ·cases h
      ·cases h;exact hs _ _ _ _
    ·split at h
     ·cases h
     ·rename_i r hr;have h2:=HE _ _ r.1 r.2 hr;have e:∀ l' c',szE (.mk op num name r.1 l' c')<=szE (.mk op num name ks l c):=λl' c'=>by rw[Xc,Xc];omega
      unfold X5 at h;split at h
      ·cases h
      ·split at h
       ·cases h;exact e _ _
       ·split at h
        ·cases h
        ·cases h;exact e _ _
theorem HE {vars:List VarT}{enums:List EnumT}:∀ (fm:Bool) (xs ys:List Ex) (ms:List MtT),qd vars enums fm xs=.ok (ys,ms)->yJ ys<=yJ xs
 |fm,[],ys,ms,h=>by rw[qd] at h;cases h;exact τ _
 |fm,x :: xs,ys,ms,h=>by
  rw[qd] at h;cases hx:ya vars enums fm x with
  |er a b d=>rw[hx] at h;cases h
  |ok y=>
   rw[hx] at h;cases hr:qd vars enums fm xs with
   |er a b d=>rw[hr] at h;cases h
   |ok r=>
    rw[hr] at h;cases h;have h1:=jcs fm x y.1 y.2 hx;have h2:=HE fm xs r.1 r.2 hr;simp only[yJ];omega
end
theorem YJ {α:Type}{f:α->Nat}:∀ {l:List α} {x:α},x∈l->f x<=(l.map f).sum
 |y :: l,x,h=>by
  rw[κ,List.sum_cons];rcases QaS.1 h with rfl|h
  ·omega
  ·have:=YJ (f:=f) h;omega
theorem YK {α:Type}{f:α->Nat}(hf:∀ x,1<=f x):∀ l:List α,l.length<=(l.map f).sum
 |[]=>Qae _
 |y :: l=>by
  rw[κ,List.sum_cons,υ];have:=YK hf l;have:=hf y;omega
theorem jkG {xs:List Ex}{x:Ex}(h:x∈xs):szE x<=yJ xs:=by rw[<-J3];exact YJ h
theorem jnB (xs:List Ex):xs.length<=yJ xs:=by rw[<-J3];exact YK Ge xs
theorem jpX {m:SrcT}(h:szS m<=1048576):WrS m:=by
 unfold szS at h;have hB:(1048576:Nat)<=BIG:=dc
 have l1:=YK (f:=szN) (λe=>by unfold szN;omega) m.enums;have l2:=YK (f:=szD) (λe=>by unfold szD;omega) m.vars;have l3:=YK (f:=szP) (λe=>by unfold szP;omega) m.procs;refine⟨om,λe he=>?_,om,λd hd=>?_,om,λp hp=>?_⟩
 ·have h0:=YJ (f:=szN) he;have e0:szN e=e.name.length+(e.vals.map szV).sum+1:=rfl;have lv:=YK (f:=szV) (λe=>by unfold szV;omega) e.vals;refine⟨om,om,λv hv=>?_⟩;have h1:=YJ (f:=szV) hv;have e1:szV v=v.length+1:=rfl;omega
 ·have h0:=YJ (f:=szD) hd;have e0:szD d=d.name.length+d.ty.length+yJ d.begins+1:=rfl;have:=jnB d.begins;refine⟨om,om,om,λx hx=>?_⟩;have:=jkG hx;omega
 ·have h0:=YJ (f:=szP) hp;have e0:szP p=p.name.length+(p.rules.map szR).sum+1:=rfl;have lr:=YK (f:=szR) (λe=>by unfold szR;omega) p.rules;refine⟨om,om,λr hr=>?_⟩;have h1:=YJ (f:=szR) hr;have e1:szR r=szE r.when+(r.acts.map szA).sum+1:=rfl;have la:=YK (f:=szA) (λe=>by unfold szA;omega) r.acts;refine⟨om,om,λa ha=>?_⟩;have h2:=YJ (f:=szA) ha;have e2:szA a=a.name.length+szE a.to+1:=rfl;omega
section
variable {st:St} {K:AV->St->Prop}
theorem jmf (a b c:AV):jp (GD 0 (.tup [a,b,c]) st) K=K a st:=nr rfl
theorem jme (a b c:AV):jp (GD 1 (.tup [a,b,c]) st) K=K b st:=nr rfl
theorem jmd (a b c:AV):jp (GD 2 (.tup [a,b,c]) st) K=K c st:=nr rfl
end
theorem jbV {l f:List Nat}(h:(Ja l f).c=0):VarsOK (Ja l f).m.vars (Ja l f).m.enums/\Zo (Ja l f).m.vars:=by
 unfold Ja at h ⊢;by_cases h1:(yK l).2.1≠0
 ·rw[if_pos h1] at h;exact absurd (show((yK l).2.1:Int)=0 from h) om
 ·rw[if_neg h1] at h ⊢;have O:=jdR (l:=l) (by simpa using h1);cases hm:Je (yK l).1 with
  |er a b c=>
   rw[hm] at h;exact absurd h (WJ hm)
  |ok m=>
   rw[hm] at h;dsimp only at h ⊢;by_cases h2:(yv f).2.1≠0
   ·rw[if_pos h2] at h;exact absurd (show((yv f).2.1:Int)=0 from h) om
   ·rw[if_neg h2] at h ⊢;cases hr:yC m.1.vars m.1.enums true (yv f).1 2 [] with
    |er a b c=>
     rw[hr] at h;exact absurd h (Xw hr)
    |ok y=>exact⟨jmF O hm,jn4 hm⟩
mutual
def wkB:Ex->Bool
 |.mk op num _ ks _ _=>(decide (JX op=(ks.length:Int)) && (decide (op≠2) ||decide (num=0) ||decide (num=1))) && uC ks
def uC:List Ex->Bool
 |[]=>true
 |x :: xs=>wkB x && uC xs
end
def WkX (x:Ex):Prop:=wkB x=true/\szE x<=BIG
mutual
theorem jbR:∀ (d:Nat) (x:Ex),ze d x=true->wkB x=true
 |0,_,h=>by cases h
 |d+1,.mk op num name ks l c,h=>by
  rw[Wz] at h;simp only[Qaa,decide_eq_true_eq] at h;obtain⟨⟨⟨⟨h1,h2⟩,h3⟩,h4⟩,h5⟩:=h;have h1:(1:Int)<=op:=h1;have h2:op<31:=h2;have h3:(ks.length:Int)=if 5<=op/\op<=13 then 1 else if 14<=op/\op<31 then 2 else 0:=h3
  rw[wkB,Qaa,Qaa,decide_eq_true_eq];refine⟨⟨?_,?_⟩,G8 d ks h5⟩
  ·unfold JX;rw[h3];repeat' split
   all_goals omega
  ·by_cases ho:op=2
   ·unfold ub at h4;rw[if_neg (show ¬ Ex.op (.mk op num name ks l c)=1 from by show ¬ op=1;omega),if_pos (show Ex.op (.mk op num name ks l c)=2 from ho)] at h4;simp only[Qaa,QaE,decide_eq_true_eq] at h4;have h6:num=0\/num=1:=h4.1;simp only[QaE,decide_eq_true_eq];omega
   ·simp[ho]
theorem G8:∀ (d:Nat) (xs:List Ex),xs.all (ze d)=true->uC xs=true
 |_,[],_=>rfl
 |d,x :: xs,h=>by
  rw[QaF,Qaa] at h;rw[uC,jbR d x h.1,G8 d xs h.2];rfl
end
theorem jkz {ts:List Tk}(W:Wds ts){i j:Nat}{x:Ex}(hi:i<ts.length)(h:yt ts i=.ok x j):szE x<=BIG:=by
 obtain⟨r,_,hr⟩:=evR W hi;rw[Vk hr] at h;obtain⟨N,hr⟩:=hr;have hz:=(UB W N).1 _ _ _ _ (hr N (τ _)) hi;unfold Vj at h;cases r with
 |er t=>cases h
 |ok y k=>
  dsimp only at h;split at h
  ·cases h;have h1:=hz.2.2;have h2:(j - i) * 65537<=1000000 * 65537:=Qaz _ (by have:=W.len;have:=hz.2.1;omega);have h3:1000000 * 65537<=BIG:=dc
   exact Qab h1 (by rw[Qak];exact Qab h2 h3)
  ·cases h
theorem kI {ts:List Tk}(W:Wds ts){i j:Nat}{x:Ex}(hi:i<ts.length)(h:yt ts i=.ok x j):WkX x:=⟨jbR 60 x (yh W hi h).2.2.2,jkz W hi h⟩
def WkD (d:DeclT):Prop:=(∀ x∈d.begins,WkX x)/\d.begins.length<=1
def WkR (r:RuleT):Prop:=WkX r.when/\(∀ a∈r.acts,WkX a.to)/\r.acts.length<=1000000
def WkP (p:ProcT):Prop:=p.rules.length<=1000/\∀ r∈p.rules,WkR r
structure WkS (m:SrcT):Prop where
 begs:∀ d∈m.vars,WkD d
 rules:∀ p∈m.procs,WkP p
 ens:∀ e∈m.enums,0<e.vals.length/\e.vals.length<=32
theorem jdz:∀ {ts:List Tk} {n i j:Nat} {vs ws:List (List Nat)},vs.length<=32->Xu ts n i vs=.ok ws j->vs.length<ws.length/\ws.length<=32
 |ts,0,i,j,vs,ws,hv,h=>by cases h
 |ts,n+1,i,j,vs,ws,hv,h=>by
  rw[Xu] at h;split at h
  ·split at h
   ·cases h
   ·split at h
    ·have:=jdz (by simp;omega) h;simp at this;omega
    ·split at h
     ·cases h;simp;omega
     ·cases h
  ·cases h
theorem jnk {ts:List Tk}{i j:Nat}{e:EnumT}(h:Yv ts i=.ok e j):0<e.vals.length/\e.vals.length<=32:=by
 unfold Yv at h;split at h
 ·split at h
  ·split at h
   ·rename_i vs k hv;cases h;have:=jdz (by simp) hv;dsimp only;omega
   ·cases h
  ·cases h
 ·cases h
theorem jo7 {ts:List Tk}(W:Wds ts){i j:Nat}{bs:List Ex}(hi:i<ts.length)(h:wj ts i=.ok bs j):(∀ x∈bs,WkX x)/\bs.length<=1:=by
 unfold wj at h;split at h
 ·rename_i c;have hi1:=W.isM hi c;split at h
  ·cases h
  ·rename_i x k hx;split at h
   ·cases h;exact⟨λy hy=>by simp at hy;rw[hy];exact kI W hi1 hx,by simp⟩
   ·cases h
 ·split at h
  ·cases h;exact⟨(λy hy=>by cases hy),by simp⟩
  ·cases h
theorem jnl {ts:List Tk}(W:Wds ts){i j:Nat}{d:DeclT}(hi:i<ts.length)(h:Yw ts i=.ok d j):WkD d:=by
 unfold Yw at h;split at h
 ·rename_i k1;have hi1:=W.next i hi om
  split at h
  ·rename_i c1;have hi2:=W.isM hi1 c1;split at h
   ·cases h
   ·rename_i y k hy;have hk:=jbG W hi2 hy;split at h
    ·cases h
    ·rename_i bs k2 hb;cases h;obtain⟨c,d⟩:=jo7 W hk.2 hb;exact⟨c,d⟩
  ·cases h
 ·cases h
theorem jdA {ts:List Tk}(W:Wds ts):∀ {n i j:Nat} {vs ws:List AsT},i<ts.length->(∀ a∈vs,WkX a.to)->vs.length<=32->QR ts n i vs=.ok ws j->(∀ a∈ws,WkX a.to)/\ws.length<=32
 |0,i,j,vs,ws,hi,hv,hl,h=>by cases h
 |n+1,i,j,vs,ws,hi,hv,hl,h=>by
  rw[QR] at h;by_cases k1:(tk ts i).kind=1
  ·simp only[if_pos k1] at h;have hi1:=W.next i hi om
   by_cases h32:32<=vs.length
   ·simp only[if_pos h32] at h;cases h
   simp only[if_neg h32] at h;by_cases c1:isM (tk ts (i+1)) [[58,61]]=true
   ·simp only[if_pos c1] at h;have hi2:=W.isM hi1 c1;cases h1:yt ts (i+2) with
    |er t=>rw[h1] at h;cases h
    |ok x k=>
     rw[h1] at h;dsimp only at h;have hj:=yh W hi2 h1;have hx:=kI W hi2 h1;have hv2:∀ l c nm,∀ a∈vs ++ [(⟨nm,x,l,c⟩:AsT)],WkX a.to:=λl c nm a ha=>by
      rcases Qav.1 ha with ha|ha
      ·exact hv a ha
      ·simp at ha;rw[ha];exact hx
     by_cases c2:isM (tk ts k) [[44]]=true
     ·simp only[if_pos c2] at h;exact jdA W (W.isM hj.2.1 c2) (hv2 _ _ _) (by simp;omega) h
     ·simp only[if_neg c2] at h;split at h
      ·cases h;exact⟨hv2 _ _ _,by simp;omega⟩
      ·cases h
   ·simp only[if_neg c1] at h;cases h
  ·simp only[if_neg k1] at h;cases h
theorem jni {ts:List Tk}(W:Wds ts){i j:Nat}{r:RuleT}(hi:i<ts.length)(h:XA ts i=.ok r j):WkX r.when/\(∀ a∈r.acts,WkX a.to)/\r.acts.length<=1000000:=by
 unfold XA at h;cases h1:yt ts i with
 |er t=>rw[h1] at h;cases h
 |ok x k=>
  rw[h1] at h;dsimp only at h;have hj:=yh W hi h1;by_cases c1:isM (tk ts k) [[100,111]]=true
  ·simp only[if_pos c1] at h;cases h2:QR ts ts.length (k+1) [] with
   |er t=>rw[h2] at h;cases h
   |ok vs k2=>
    rw[h2] at h;cases h;have:=jdA (vs:=[]) W (W.isM hj.2.1 c1) (λa ha=>by cases ha) (Qae _) h2;exact⟨kI W hi h1,this.1,by dsimp only;omega⟩
  ·simp only[if_neg c1] at h;cases h
theorem jbn {ts:List Tk}(W:Wds ts):∀ {n i j:Nat} {vs ws:List RuleT},i<ts.length->(∀ r∈vs,WkX r.when/\(∀ a∈r.acts,WkX a.to)/\r.acts.length<=1000000)->vs.length<=32->Ql ts n i vs=.ok ws j->(∀ r∈ws,WkX r.when/\(∀ a∈r.acts,WkX a.to)/\r.acts.length<=1000000)/\ws.length<=32
 |0,i,j,vs,ws,hi,hv,hl,h=>by cases h
 |n+1,i,j,vs,ws,hi,hv,hl,h=>by
  rw[Ql] at h;by_cases c1:isM (tk ts i) [[119,104,101,110]]=true
  ·simp only[if_pos c1] at h;have hi1:=W.isM hi c1;by_cases h32:32<=vs.length
   ·simp only[if_pos h32] at h;cases h
   simp only[if_neg h32] at h;cases h1:XA ts (i+1) with
   |er t=>rw[h1] at h;cases h
   |ok r k=>
    rw[h1] at h;dsimp only at h;refine jbn W (UE W hi1 h1).2 (λa ha=>?_) (by simp;omega) h;rcases Qav.1 ha with ha|ha
    ·exact hv a ha
    ·simp at ha;rw[ha];exact jni W hi1 h1
  ·simp only[if_neg c1] at h;split at h
   ·cases h;exact⟨hv,hl⟩
   ·cases h
theorem jnj {ts:List Tk}(W:Wds ts){i j:Nat}{p:ProcT}(hi:i<ts.length)(h:Yj ts i=.ok p j):WkP p:=by
 unfold Yj at h;split at h
 ·rename_i k1;have hi1:=W.next i hi om
  split at h
  ·rename_i c1;have hi2:=W.isM hi1 c1;split at h
   ·rename_i vs k hv;cases h;have:=jbn (vs:=[]) W hi2 (λa ha=>by cases ha) (Qae _) hv;exact⟨by dsimp only;omega,this.1⟩
   ·cases h
  ·cases h
 ·cases h
theorem Kg {ts:List Tk}(W:Wds ts):∀ {n i j:Nat} {m w:SrcT},i<ts.length->WkS m->m.enums.length<=32->m.vars.length<=32->m.procs.length<=32->XY ts n i m=.ok w j->WkS w/\w.enums.length<=32/\w.vars.length<=32/\w.procs.length<=32
 |0,i,j,m,w,hi,hm,h1,h2,h3,h=>by cases h
 |n+1,i,j,m,w,hi,hm,h1,h2,h3,h=>by
  rw[XY] at h;by_cases c:isM (tk ts i) [[101,110,117,109],[118,97,114],[112,114,111,99,101,115,115]]=true
  ·simp only[if_pos c] at h;have hi1:=W.isM hi c;by_cases c1:(tk ts i).text=[101,110,117,109]
   ·simp only[if_pos c1] at h;by_cases hr:32<=m.enums.length
    ·simp only[if_pos hr] at h;cases h
    simp only[if_neg hr] at h;cases he:Yv ts (i+1) with
    |er t=>rw[he] at h;cases h
    |ok e k=>
     rw[he] at h;refine Kg (m:={ m with enums:=m.enums ++ [e] }) W (GL W hi1 he).2 ⟨hm.begs,hm.rules,λa ha=>?_⟩ (by simp;omega) h2 h3 h;rcases Qav.1 ha with ha|ha
     ·exact hm.ens a ha
     ·simp at ha;rw[ha];exact jnk he
   simp only[if_neg c1] at h;by_cases c2:(tk ts i).text=[118,97,114]
   ·simp only[if_pos c2] at h;by_cases hr:32<=m.vars.length
    ·simp only[if_pos hr] at h;cases h
    simp only[if_neg hr] at h;cases he:Yw ts (i+1) with
    |er t=>rw[he] at h;cases h
    |ok e k=>
     rw[he] at h;refine Kg (m:={ m with vars:=m.vars ++ [e] }) W (GQ W hi1 he).2 ⟨λa ha=>?_,hm.rules,hm.ens⟩ h1 (by simp;omega) h3 h;rcases Qav.1 ha with ha|ha
     ·exact hm.begs a ha
     ·simp at ha;rw[ha];exact jnl W hi1 he
   ·simp only[if_neg c2] at h;by_cases hr:32<=m.procs.length
    ·simp only[if_pos hr] at h;cases h
    simp only[if_neg hr] at h;cases he:Yj ts (i+1) with
    |er t=>rw[he] at h;cases h
    |ok e k=>
     rw[he] at h;refine Kg (m:={ m with procs:=m.procs ++ [e] }) W (Gm W hi1 he).2 ⟨hm.begs,λa ha=>?_,hm.ens⟩ h1 h2 (by simp;omega) h;rcases Qav.1 ha with ha|ha
     ·exact hm.rules a ha
     ·simp at ha;rw[ha];exact jnj W hi1 he
  ·simp only[if_neg c] at h;split at h
   ·cases h;exact⟨hm,h1,h2,h3⟩
   ·cases h
theorem jnE {l:List Nat}(h:(yK l).2.1=0):WkS (yK l).1/\(yK l).1.procs.length<=32:=by
 unfold yK at h ⊢;by_cases c:(qr l).2.1≠0
 ·rw[if_pos c] at h;exact absurd h c
 ·rw[if_neg c] at h ⊢;have c0:(qr l).2.1=0:=by simpa using c
  obtain⟨W,ne,_⟩:=Uf c0;cases hr:XY (qr l).1 (qr l).1.length 0 Ww with
  |er t=>rw[hr] at h;exact absurd h (λh=>by cases h)
  |ok m j=>
   have:=Kg W (QbB.2 ne) ⟨(λa ha=>by cases ha),(λa ha=>by cases ha),(λa ha=>by cases ha)⟩ dc dc dc hr;exact⟨this.1,this.2.2.2⟩
section
def wq (n:Int):Int:=qN .i64 n
def Qu (p:Prop) [Decidable p]:Int:=if p then 1 else 0
def Ga (op a b:Int):Option Int:=
 if op=14 then some (wq (a * b)) else if op=15 then some (wq (a+b)) else if op=16 then some (wq (a - b))
 else if op=17\/op=30 then some (Qu (a=b)) else if op=18 then some (Qu (a≠b)) else if op=19 then some (Qu (a<b))
 else if op=20\/op=29 then some (Qu (a<=b)) else if op=21 then some (Qu (b<a)) else if op=22 then some (Qu (b<=a))
 else if op=27 then some (if a<=b then a else b) else if op=28 then some (if a<=b then b else a) else none
def opV (s:List Int)(op num:Int)(ns:List Int):Option Int:=
 if ns.length=0/\(op=1\/op=2) then some num
 else if ns.length=0/\op=4/\0<=num/\num<(s.length:Int) then some (s.getD num.toNat 0)
 else if ns.length=1/\op=5 then some (wq (-(ns.getD 0 0)))
 else if ns.length=1/\op=6 then some (wq (1 - ns.getD 0 0))
 else if ns.length=2 then Ga op (ns.getD 0 0) (ns.getD 1 0)
 else none
mutual
def qX (s:List Int):Ex->Option Int
 |.mk op num _ ks _ _=>match qA s ks with
  |none=>none
  |some ns=>opV s op num ns
def qA (s:List Int):List Ex->Option (List Int)
 |[]=>some []
 |x :: xs=>match qX s x with
  |none=>none
  |some n=>match qA s xs with
   |none=>none
   |some ns=>some (n :: ns)
end
def Q6 (op a b:Int):Int:=
 if op=5 then wq (-a) else if op=14 then wq (a * b) else if op=15 then wq (a+b) else if op=16 then wq (a - b)
 else if op=6 then Qu (a=0) else if op=17\/op=30 then Qu (a=b) else if op=18 then Qu (a≠b) else if op=19 then Qu (a<b)
 else if op=20 then Qu (a<=b) else if op=21 then Qu (b<a) else if op=22 then Qu (b<=a) else if op=27 then Qu (a=1/\b=1)
 else if op=28 then Qu (a=1\/b=1) else if op=29 then Qu (a=0\/b=1) else 0
mutual
def yT (s:List Int):Ex->Int
 |.mk op num _ ks _ _=>if op=4 then s.getD num.toNat 0 else if ks.length=0 then num else Q6 op ((wz s ks).getD 0 0) ((wz s ks).getD (ks.length - 1) 0)
def wz (s:List Int):List Ex->List Int
 |[]=>[]
 |x :: xs=>yT s x :: wz s xs
end
theorem Wt {s:List Int}:∀ {xs:List Ex} {ns:List Int},qA s xs=some ns->ns.length=xs.length
 |[],ns,h=>by simp only[qA] at h;cases h;rfl
 |x :: xs,ns,h=>by
  rw[qA] at h;cases h1:qX s x with
  |none=>rw[h1] at h;cases h
  |some n=>
   rw[h1] at h;cases h2:qA s xs with
   |none=>rw[h2] at h;cases h
   |some ms=>rw[h2] at h;cases h;simp[Wt h2]
def qg (vars:List VarT)(s:List Int):Bool:=decide (s.length=vars.length) && (Qan vars.length).all λi=>decide ((vars.getD i ⟨[],0,[],0,0,false,0⟩).lo<=s.getD i 0) && decide (s.getD i 0<=(vars.getD i ⟨[],0,[],0,0,false,0⟩).hi)
def J8 (vars:List VarT):Prop:=∀ v∈vars,v.kind=2->v.lo=0/\v.hi=1
def XO (n:Int):Prop:=n=0\/n=1
theorem vf (p:Prop) [Decidable p]:XO (Qu p):=by unfold Qu XO;split<;>simp
theorem joq {part:Int}{ms:List MtT}(h:Um part ms≠true)(hp:0<part):∀ m∈ms,m.kind=part:=λm hm=>by
 have h:Um part ms=false:=by simpa using h
 unfold Um at h;rw[QbX] at h;have:=h m hm;simp at this;exact this.1.1 hp
theorem jnz {op a b n:Int}(h:Ga op a b=some n)(hb:(qW op).1=2->XO a/\XO b):Q6 op a b=n/\((qW op).2=2->XO n):=by
 have no:∀ {p:Prop} {q:Int},(qW q).2=1->((qW q).2=2->p):=λe h=>by rw[e] at h;exact absurd h dc
 unfold Ga at h;by_cases e:op=14
 ·rw[if_pos e] at h;cases h;subst e;exact⟨by simp[Q6],no dc⟩
 rw[if_neg e] at h;clear e;by_cases e:op=15
 ·rw[if_pos e] at h;cases h;subst e;exact⟨by simp[Q6],no dc⟩
 rw[if_neg e] at h;clear e;by_cases e:op=16
 ·rw[if_pos e] at h;cases h;subst e;exact⟨by simp[Q6],no dc⟩
 rw[if_neg e] at h;clear e;by_cases e:op=17\/op=30
 ·rw[if_pos e] at h;cases h;refine⟨?_,λ_=>vf _⟩;rcases e with e|e<;>(subst e;simp[Q6])
 rw[if_neg e] at h;clear e;by_cases e:op=18
 ·rw[if_pos e] at h;cases h;subst e;exact⟨by simp[Q6],λ_=>vf _⟩
 rw[if_neg e] at h;clear e;by_cases e:op=19
 ·rw[if_pos e] at h;cases h;subst e;exact⟨by simp[Q6],λ_=>vf _⟩
 rw[if_neg e] at h;clear e;by_cases e:op=20\/op=29
 ·rw[if_pos e] at h;cases h;refine⟨?_,λ_=>vf _⟩;rcases e with e|e
  ·subst e;simp[Q6]
  ·subst e;obtain⟨ha,hc⟩:=hb dc;rcases ha with rfl|rfl<;>rcases hc with rfl|rfl<;>decide
 rw[if_neg e] at h;clear e;by_cases e:op=21
 ·rw[if_pos e] at h;cases h;subst e;exact⟨by simp[Q6],λ_=>vf _⟩
 rw[if_neg e] at h;clear e;by_cases e:op=22
 ·rw[if_pos e] at h;cases h;subst e;exact⟨by simp[Q6],λ_=>vf _⟩
 rw[if_neg e] at h;clear e;by_cases e:op=27
 ·rw[if_pos e] at h;cases h;subst e;obtain⟨ha,hc⟩:=hb dc;rcases ha with rfl|rfl<;>rcases hc with rfl|rfl<;>exact⟨dc,λ_=>(by unfold XO;decide)⟩
 rw[if_neg e] at h;clear e;by_cases e:op=28
 ·rw[if_pos e] at h;cases h;subst e;obtain⟨ha,hc⟩:=hb dc;rcases ha with rfl|rfl<;>rcases hc with rfl|rfl<;>exact⟨dc,λ_=>(by unfold XO;decide)⟩
 rw[if_neg e] at h;cases h
theorem vp {vars:List VarT}{s:List Int}(h:qg vars s=true):s.length=vars.length/\∀ i,i<vars.length->(vars.getD i ⟨[],0,[],0,0,false,0⟩).lo<=s.getD i 0/\s.getD i 0<=(vars.getD i ⟨[],0,[],0,0,false,0⟩).hi:=by
 unfold qg at h;rw[Qaa,decide_eq_true_eq,Qaj] at h;refine⟨h.1,λi hi=>?_⟩;have:=h.2 i (Qbn.2 hi);simpa using this
mutual
theorem HJ {vars:List VarT}{enums:List EnumT}(hv:J8 vars){s:List Int}(hs:qg vars s=true):∀ (fm:Bool) (x y:Ex) (m:MtT),wkB x=true->ya vars enums fm x=.ok (y,m)->∀ n,qX s y=some n->yT s y=n/\(m.kind=2->XO n)
 |fm,.mk op num name ks l c,y,m,hx,h,n,hn=>by
  have hx0:=hx;rw[wkB] at hx0;simp only[Qaa,decide_eq_true_eq] at hx0;obtain⟨⟨hk,hleaf⟩,hks⟩:=hx0;have nk:(op=1\/op=2\/op=3\/op=4)->ks=[]:=λho=>by
   unfold JX at hk;rw[if_pos om] at hk;exact QaV om
  rw[ya] at h;split at h
  ·rename_i h1;cases h;subst h1;have e:=nk (by simp);subst e;simp only[qX,qA,opV] at hn;simp at hn;subst hn;exact⟨by simp[yT],λh=>by simp at h⟩
  ·split at h
   ·rename_i h1;cases h;subst h1;have e:=nk (by simp);subst e;simp only[qX,qA,opV] at hn;simp at hn;subst hn;refine⟨by simp[yT],λ_=>?_⟩;simp at hleaf;unfold XO;omega
   ·split at h
    ·rename_i h1;subst h1;unfold zh at h;split at h
     ·rename_i h2;cases h;have hlt:qa vars (Ex.mk 3 num name ks l c).name<(vars.length:Int):=Zf;have hlt2:(qa vars name).toNat<vars.length:=by
       have:qa vars name<(vars.length:Int):=hlt;have:(0:Int)<=qa vars name:=h2;omega
      obtain⟨r1,r2⟩:=vp hs;have r2:=r2 _ hlt2;simp only[qX,qA,opV] at hn;have hlt3:qa vars (Ex.mk 3 num name ks l c).name<(s.length:Int):=by rw[r1];exact hlt
      rw[if_neg (by simp),if_pos ⟨by simp,by simp,h2,hlt3⟩] at hn;cases hn;refine⟨by simp only[yT,if_true],λhk2=>?_⟩;have hm:vars.getD (qa vars name).toNat ⟨[],0,[],0,0,false,0⟩∈vars:=by
       rw[Qam,Qai hlt2];exact Qac hlt2
      have:=hv _ hm hk2;show XO (s.getD (qa vars name).toNat 0);unfold XO;omega
     ·split at h
      ·cases h
      ·cases h;simp only[qX,qA,opV] at hn;simp at hn;subst hn;exact⟨by simp[yT],λh=>by simp at h⟩
    ·rename_i n1 n2 n3;split at h
     ·cases h
     ·rename_i r hr;have K:=gf (vars:=vars) (enums:=enums) hv hs _ ks r.1 r.2 hks hr;have kl:=Jc hr;unfold X5 at h;split at h
      ·cases h
      ·rename_i hbad;have hb0:r.2.length≠0:=λh=>hbad (.inl h);have hbm:Um (qW op).1 r.2≠true:=λh=>hbad (.inr (.inr (.inr h)));have hy:y=.mk op num name r.1 l c/\m.kind=(qW op).2:=by
        split at h
        ·cases h;exact⟨rfl,rfl⟩
        ·split at h
         ·cases h
         ·cases h;exact⟨rfl,rfl⟩
       obtain⟨rfl,hm⟩:=hy;rw[hm];rw[qX] at hn;cases hns:qA s r.1 with
       |none=>rw[hns] at hn;cases hn
       |some ns=>
        rw[hns] at hn;obtain⟨k1,k2⟩:=K ns hns;have hl:=Wt hns;have ho:op≠4:=λe=>by
         have:=nk (by simp[e]);rw[this] at kl;exact hb0 (by simpa using kl.2)
        have hp:0<(qW op).1->∀ i,i<r.2.length->(r.2.getD i mt0).kind=(qW op).1:=λh0 i hi=>by
         refine joq hbm h0 _ ?_;rw[Qam,Qai hi];exact Qac hi
        have hr:yT s (.mk op num name r.1 l c)=Q6 op (ns.getD 0 0) (ns.getD (r.1.length - 1) 0):=by
         rw[yT,if_neg ho,if_neg om,k1]
        rw[hr];unfold opV at hn;dsimp only at hn;rw[if_neg om,if_neg om] at hn;split at hn
        ·rename_i e;cases hn;obtain⟨e1,rfl⟩:=e;exact⟨rfl,λh=>absurd h dc⟩
        ·split at hn
         ·rename_i e;cases hn;obtain⟨e1,rfl⟩:=e;have:=k2 0 om (by rw[hp dc 0 om];decide);rw[show r.1.length - 1=0 by omega];rcases this with e|e<;>rw[e]<;>exact⟨rfl,λ_=>by unfold XO;decide⟩
         ·split at hn
          ·rename_i e;rw[show r.1.length - 1=1 by omega];exact jnz hn λh2=>⟨k2 0 om (by rw[hp om 0 om,h2]),k2 1 om (by rw[hp om 1 om,h2])⟩
          ·cases hn
theorem gf {vars:List VarT}{enums:List EnumT}(hv:J8 vars){s:List Int}(hs:qg vars s=true):∀ (fm:Bool) (xs ys:List Ex) (ms:List MtT),uC xs=true->qd vars enums fm xs=.ok (ys,ms)->∀ ns,qA s ys=some ns->wz s ys=ns/\∀ i,i<ms.length->(ms.getD i mt0).kind=2->XO (ns.getD i 0)
 |fm,[],ys,ms,hx,h,ns,hn=>by
  rw[qd] at h;cases h;simp only[qA] at hn;cases hn;exact⟨rfl,λi hi=>absurd hi (by simp)⟩
 |fm,x :: xs,ys,ms,hx,h,ns,hn=>by
  rw[uC,Qaa] at hx;rw[qd] at h;split at h
  ·cases h
  ·rename_i y hy;split at h
   ·cases h
   ·rename_i r hr;cases h;rw[qA] at hn;cases h1:qX s y.1 with
    |none=>rw[h1] at hn;cases hn
    |some n=>
     rw[h1] at hn;cases h2:qA s r.1 with
     |none=>rw[h2] at hn;cases hn
     |some ns'=>
      rw[h2] at hn;cases hn;have A:=HJ (vars:=vars) (enums:=enums) hv hs fm x y.1 y.2 hx.1 hy n h1;have B:=gf (vars:=vars) (enums:=enums) hv hs fm xs r.1 r.2 hx.2 hr ns' h2;refine⟨by rw[wz,A.1,B.1],λi hi hk=>?_⟩;cases i with
      |zero=>exact A.2 hk
      |succ i=>exact B.2 i (by simpa using hi) hk
end
mutual
def Yk (n:Int):Ex->Bool
 |.mk op num _ ks _ _=>(!(decide (op=3) ||(decide (op=4) && (decide (num<0) ||decide (n<=num))))) && Xh n ks
def Xh (n:Int):List Ex->Bool
 |[]=>true
 |x :: xs=>Yk n x && Xh n xs
end
theorem jk2 (n:Int)(x:Ex):Yk n x=((!(decide (x.op=3) ||(decide (x.op=4) && (decide (x.num<0) ||decide (n<=x.num))))) && Xh n x.kids):=by cases x;rw[Yk];rfl
theorem KU (n:Int):∀ xs,Xh n xs=xs.all (Yk n)
 |[]=>rfl
 |x :: xs=>by rw[Xh,KU n xs];rfl
mutual
theorem jct {vars:List VarT}{enums:List EnumT}:∀ (fm:Bool) (x y:Ex) (m:MtT),wkB x=true->ya vars enums fm x=.ok (y,m)->Yk vars.length y=true
 |fm,.mk op num name ks l c,y,m,hx,h=>by
  rw[wkB] at hx;simp only[Qaa,decide_eq_true_eq] at hx;obtain⟨⟨hk,_⟩,hks⟩:=hx;have nk:(op=1\/op=2\/op=3\/op=4)->ks=[]:=λho=>by
   unfold JX at hk;rw[if_pos om] at hk;exact QaV om
  rw[ya] at h;split at h
  ·rename_i h1;cases h;rw[nk om];simp[Yk,Xh,h1]
  ·split at h
   ·rename_i h1;cases h;rw[nk om];simp[Yk,Xh,h1]
   ·split at h
    ·rename_i h1;unfold zh at h;split at h
     ·rename_i h2;cases h;have hlt:qa vars (Ex.mk op num name ks l c).name<(vars.length:Int):=Zf;simp only[Yk,Xh,Bool.and_true,QaO,QbF,QbR,decide_eq_false_iff_not];omega
     ·split at h
      ·cases h
      ·cases h;simp[Yk,Xh]
    ·rename_i n1 n2 n3;split at h
     ·cases h
     ·rename_i r hr;have K:=HH (vars:=vars) (enums:=enums) _ ks r.1 r.2 hks hr;have kl:=Jc hr;unfold X5 at h;split at h
      ·cases h
      ·rename_i hbad;have hb0:r.2.length≠0:=λh=>hbad (.inl h);have ho:op≠4:=λe=>by
        have:=nk (by simp[e]);rw[this] at kl;exact hb0 (by simpa using kl.2)
       have hy:y=.mk op num name r.1 l c:=by
        split at h
        ·cases h;rfl
        ·split at h
         ·cases h
         ·cases h;rfl
       subst hy;rw[Yk,K];simp[n3,ho]
theorem HH {vars:List VarT}{enums:List EnumT}:∀ (fm:Bool) (xs ys:List Ex) (ms:List MtT),uC xs=true->qd vars enums fm xs=.ok (ys,ms)->Xh vars.length ys=true
 |fm,[],ys,ms,hx,h=>by rw[qd] at h;cases h;rfl
 |fm,x :: xs,ys,ms,hx,h=>by
  rw[uC,Qaa] at hx;rw[qd] at h;split at h
  ·cases h
  ·rename_i y hy;split at h
   ·cases h
   ·rename_i r hr;cases h;rw[Xh,jct (vars:=vars) (enums:=enums) fm x y.1 y.2 hx.1 hy,HH (vars:=vars) (enums:=enums) fm xs r.1 r.2 hx.2 hr];rfl
end
end
section
theorem jnA {op a b:Int}(h1:14<=op)(h2:op<=30)(h3:¬ (23<=op/\op<=26)):∃ n,Ga op a b=some n:=by
 have hop2:op=14\/op=15\/op=16\/op=17\/op=18\/op=19\/op=20\/op=21\/op=22\/op=27\/op=28\/op=29\/op=30:=om
 rcases hop2 with h|h|h|h|h|h|h|h|h|h|h|h|h<;>(subst h;exact⟨_,rfl⟩)
theorem jn9 {op:Int}{n:Nat}(h:JX op=(n:Int))(h0:n≠0)(h2:¬ 2<n)(ht:YZ op=false):(n=1/\(op=5\/op=6))\/(n=2/\14<=op/\op<=30/\¬ (23<=op/\op<=26)):=by
 unfold YZ at ht;simp at ht;unfold JX at h;repeat' split at h
 all_goals omega
mutual
theorem HK {vars:List VarT}{enums:List EnumT}{s:List Int}(hs:qg vars s=true):∀ (x y:Ex) (m:MtT),wkB x=true->ya vars enums false x=.ok (y,m)->∃ n,qX s y=some n
 |.mk op num name ks l c,y,m,hx,h=>by
  have hx0:=hx;rw[wkB] at hx0;simp only[Qaa,decide_eq_true_eq] at hx0;obtain⟨⟨hk,_⟩,hks⟩:=hx0;have nk:(op=1\/op=2\/op=3\/op=4)->ks=[]:=λho=>by
   unfold JX at hk;rw[if_pos om] at hk;exact QaV om
  rw[ya] at h;split at h
  ·rename_i h1;cases h;have e:=nk (.inl h1);subst e h1;exact⟨num,by simp[qX,qA,opV]⟩
  ·split at h
   ·rename_i h1;cases h;have e:=nk (.inr (.inl h1));subst e h1;exact⟨num,by simp[qX,qA,opV]⟩
   ·split at h
    ·rename_i h1;subst h1;unfold zh at h;split at h
     ·rename_i h2;cases h;have hlt:qa vars (Ex.mk 3 num name ks l c).name<(vars.length:Int):=Zf;obtain⟨r1,_⟩:=vp hs;refine⟨s.getD (qa vars name).toNat 0,?_⟩;simp only[qX,qA,opV];have hlt3:qa vars (Ex.mk 3 num name ks l c).name<(s.length:Int):=by rw[r1];exact hlt
      rw[if_neg (by simp),if_pos ⟨by simp,by simp,h2,hlt3⟩];rfl
     ·split at h
      ·cases h
      ·cases h;exact⟨(zw enums (Ex.mk 3 num name ks l c).name).2,by simp[qX,qA,opV]⟩
    ·rename_i n1 n2 n3;split at h
     ·cases h
     ·rename_i r hr;have hr:qd vars enums false ks=.ok (r.1,r.2):=hr;obtain⟨ns,hns⟩:=gg hs ks r.1 r.2 hks hr;have kl:=Jc hr;have hl:=Wt hns;unfold X5 at h;split at h
      ·cases h
      ·rename_i hbad;have hy:y=.mk op num name r.1 l c:=by
        split at h
        ·cases h;rfl
        ·split at h
         ·cases h
         ·cases h;rfl
       subst hy;have ht:YZ op=false:=by
        cases ht:YZ op with
        |false=>rfl
        |true=>exact absurd (.inr (.inr (.inl ⟨ht,rfl⟩))) hbad
       have hb0:r.2.length≠0:=λh=>hbad (.inl h);have hb2:¬ 2<r.2.length:=λh=>hbad (.inr (.inl h));clear h hbad;have K:=jn9 hk om om ht;rw[qX,hns];show ∃ n,opV s op num ns=some n;unfold opV;rw[if_neg om,if_neg om];rcases K with ⟨h1,h5|h5⟩|⟨h2,h3,h4,h5⟩
       ·exact⟨_,if_pos ⟨om,h5⟩⟩
       ·rw[if_neg om,if_pos ⟨om,h5⟩];exact⟨_,rfl⟩
       ·rw[if_neg om,if_neg om,if_pos om];exact jnA h3 h4 h5
theorem gg {vars:List VarT}{enums:List EnumT}{s:List Int}(hs:qg vars s=true):∀ (xs ys:List Ex) (ms:List MtT),uC xs=true->qd vars enums false xs=.ok (ys,ms)->∃ ns,qA s ys=some ns
 |[],ys,ms,hx,h=>by rw[qd] at h;cases h;exact⟨[],rfl⟩
 |x :: xs,ys,ms,hx,h=>by
  rw[uC,Qaa] at hx;rw[qd] at h;split at h
  ·cases h
  ·rename_i y hy;split at h
   ·cases h
   ·rename_i r hr;cases h;obtain⟨n,e1⟩:=HK hs x y.1 y.2 hx.1 hy;obtain⟨ns,e2⟩:=gg hs xs r.1 r.2 hx.2 hr;exact⟨n :: ns,by rw[qA,e1,e2]⟩
end
def OfK (vars:List VarT)(enums:List EnumT)(y:Ex):Prop:=∃ (x:Ex) (m:MtT),WkX x/\ya vars enums false x=.ok (y,m)
theorem jdM {vars:List VarT}{enums:List EnumT}{x y:Ex}{w:Int}{en:List Nat}(hr:WkX x)(h:yC vars enums false x w en=.ok y):OfK vars enums y:=by
 unfold yC at h;split at h
 ·cases h
 ·rename_i r hk;split at h
  ·cases h
  ·cases h;exact⟨x,r.2,hr,hk⟩
theorem OfK.val {vars:List VarT}{enums:List EnumT}{y:Ex}(k:OfK vars enums y)(hv:J8 vars){s:List Int}(hs:qg vars s=true){n:Int}(h:qX s y=some n):yT s y=n:=by
 obtain⟨x,m,hr,hk⟩:=k;exact(HJ hv hs false x y m hr.1 hk n h).1
theorem OfK.som {vars:List VarT}{enums:List EnumT}{y:Ex}(k:OfK vars enums y){s:List Int}(hs:qg vars s=true):∃ n,qX s y=some n:=by
 obtain⟨x,m,hr,hk⟩:=k;exact HK hs x y m hr.1 hk
theorem OfK.numb {vars:List VarT}{enums:List EnumT}{y:Ex}(k:OfK vars enums y):Yk vars.length y=true:=by
 obtain⟨x,m,hr,hk⟩:=k;exact jct false x y m hr.1 hk
theorem OfK.sz {vars:List VarT}{enums:List EnumT}{y:Ex}(k:OfK vars enums y):szE y<=BIG:=by
 obtain⟨x,m,hr,hk⟩:=k;exact Qab (jcs false x y m hk) hr.2
structure MoveK (vars:List VarT)(enums:List EnumT)(m:MoveT):Prop where
 when:OfK vars enums m.when
 len:m.acts.length<=1000000
 acts:∀ a∈m.acts,0<=a.var/\a.var<(vars.length:Int)/\OfK vars enums a.to
 nd:(m.acts.map (·.var)).Nodup
theorem ja5 {α:Type}{q:α->Bool}:∀ {xs:List α},0<=fi q xs->∃ h:(fi q xs).toNat<xs.length,q xs[(fi q xs).toNat]=true
 |[],h=>by simp[fi] at h
 |x :: xs,h=>by
  by_cases hq:q x=true
  ·have e:fi q (x :: xs)=0:=by rw[fi,if_pos hq]
   simp only[e];exact⟨by simp,by simpa using hq⟩
  ·by_cases h0:fi q xs<0
   ·rw[fi,if_neg hq,if_pos h0] at h;exact absurd h dc
   ·obtain⟨h1,h2⟩:=ja5 (q:=q) (xs:=xs) om;have e:(fi q (x :: xs)).toNat=(fi q xs).toNat+1:=by rw[fi,if_neg hq,if_neg h0];omega
    simp only[e];exact⟨by simpa using h1,by simpa using h2⟩
theorem jno {vars:List VarT}{n n':List Nat}(h:0<=qa vars n)(e:qa vars n=qa vars n'):n=n':=by
 obtain⟨h1,h2⟩:=ja5 h;obtain⟨h3,h4⟩:=ja5 (e▸h);have e':(fi (λx:VarT=>decide (x.name=n)) vars).toNat=(fi (λx:VarT=>decide (x.name=n')) vars).toNat:=congrArg Int.toNat e;have h2:=of_decide_eq_true h2;have h4:=of_decide_eq_true h4;simp only[e'] at h2;rw[<-h2,h4]
theorem jhr {vars:List VarT}{enums:List EnumT}:∀ {l:List AsT} {acc:List SetT} {done:List AsT} {ss:List SetT},(∀ a∈l,WkX a.to)->QI vars enums acc done l=.ok ss->(∀ a∈acc,0<=a.var/\a.var<(vars.length:Int)/\OfK vars enums a.to)->acc.map (·.var)=done.map (λa=>qa vars a.name)->(acc.map (·.var)).Nodup->(∀ a∈ss,0<=a.var/\a.var<(vars.length:Int)/\OfK vars enums a.to)/\ss.length=acc.length+l.length/\(ss.map (·.var)).Nodup
 |[],acc,done,ss,hr,h,ha,hd,hn=>by rw[QI] at h;cases h;exact⟨ha,rfl,hn⟩
 |a :: l,acc,done,ss,hr,h,ha,hd,hn=>by
  rw[QI] at h;split at h
  ·cases h
  ·rename_i hv;split at h
   ·cases h
   ·rename_i n0;split at h
    ·cases h
    ·rename_i y hy;have N:=jdM (hr a (by simp)) hy;have hlt:=(Zf:qa vars a.name<(vars.length:Int));have R:=jhr (λb hb=>hr b (by simp[hb])) h (λb hb=>by
      rcases Qav.1 hb with hb|hb
      ·exact ha b hb
      ·simp at hb;rw[hb];exact⟨by dsimp only;omega,hlt,N⟩) (by rw[Qbf,Qbf,hd];rfl) (by
      rw[Qbf,List.nodup_append];refine⟨hn,by simp,λu hu v hv2=>?_⟩;simp only[κ,μ,Qbh] at hv2;subst hv2;rw[hd] at hu;obtain⟨b,hb,e⟩:=QaJ.1 hu;intro e2;have e3:qa vars b.name=qa vars a.name:=e.trans e2;have e4:=jno om e3;have:=ja4 (λx:AsT=>decide (x.name=a.name)) done;rw[decide_eq_false n0] at this;have h5:=this.symm;rw[QbX] at h5;exact h5 b hb (decide_eq_true e4))
     exact⟨R.1,by rw[R.2.1];simp;omega,R.2.2⟩
theorem jqz {m:ModT}{ts:List (List Nat)}{r:RuleT}{b:MT}(hq:WkR r)(h:XE m ts r=.ok b)(hm:∀ v∈m.moves,MoveK m.vars m.enums v):b.1.vars=m.vars/\b.1.enums=m.enums/\(∀ v∈b.1.moves,MoveK m.vars m.enums v)/\b.1.moves.length=m.moves.length+1:=by
 obtain⟨hw,hr,hn⟩:=hq;unfold XE at h;split at h
 ·cases h
 ·rename_i w hw';split at h
  ·cases h
  ·rename_i ss hs;cases h;refine⟨rfl,rfl,λv hv=>?_,by simp⟩;rcases Qav.1 hv with hv|hv
   ·exact hm v hv
   ·simp only[Qbh] at hv;subst hv;have S:=jhr (acc:=[]) (done:=[]) hr hs (λa ha=>by cases ha) rfl (by simp);exact⟨jdM hw hw',by dsimp only;rw[S.2.1];simp;omega,S.1,S.2.2⟩
theorem jdX:∀ {l:List RuleT} {b c:MT},(∀ r∈l,WkR r)->yi (λb r=>XE b.1 b.2 r) b l=.ok c->(∀ v∈b.1.moves,MoveK b.1.vars b.1.enums v)->c.1.vars=b.1.vars/\c.1.enums=b.1.enums/\(∀ v∈c.1.moves,MoveK b.1.vars b.1.enums v)/\c.1.moves.length=b.1.moves.length+l.length
 |[],b,c,hr,h,hm=>by rw[yi] at h;cases h;exact⟨rfl,rfl,hm,rfl⟩
 |r :: l,b,c,hr,h,hm=>by
  rw[yi] at h;split at h
  ·cases h
  ·rename_i b' hb';obtain⟨e1,e2,e3,e4⟩:=jqz (hr r (by simp)) hb' hm;have:=jdX (b:=b') (λq hq=>hr q (by simp[hq])) h (by rw[e1,e2];exact e3);rw[e1,e2,e4] at this;exact⟨this.1,this.2.1,this.2.2.1,by rw[this.2.2.2];simp;omega⟩
theorem jd5:∀ {l:List ProcT} {b c:MT},(∀ p∈l,p.rules.length<=1000/\∀ r∈p.rules,WkR r)->yi Y6 b l=.ok c->(∀ v∈b.1.moves,MoveK b.1.vars b.1.enums v)->c.1.vars=b.1.vars/\c.1.enums=b.1.enums/\(∀ v∈c.1.moves,MoveK b.1.vars b.1.enums v)/\c.1.moves.length<=b.1.moves.length+1000 * l.length
 |[],b,c,hr,h,hm=>by rw[yi] at h;cases h;exact⟨rfl,rfl,hm,by simp⟩
 |p :: l,b,c,hr,h,hm=>by
  rw[yi] at h;split at h
  ·cases h
  ·rename_i b' hb';unfold Y6 at hb';split at hb'
   ·cases hb'
   ·rename_i ts' _;obtain⟨e1,e2,e3,e4⟩:=jdX (b:=(b.1,ts')) (hr p (by simp)).2 hb' hm;have h1000:=(hr p (by simp)).1;have:=jd5 (b:=b') (λq hq=>hr q (by simp[hq])) h (by rw[e1,e2];exact e3);rw[e1,e2,e4] at this;exact⟨this.1,this.2.1,this.2.2.1,by have:=this.2.2.2;dsimp only at this;simp only[υ];omega⟩
end
section
def VB (v:VarT):Prop:=v.lo<=v.hi/\v.hi - v.lo<=1023
def GS (vars:List VarT):Nat:=vars.foldl (λn v=>n * (v.hi - v.lo+1).toNat) 1
structure SB (vars:List VarT):Prop where
 vb:∀ v∈vars,VB v
 cnt:vars.foldl stW 1=(GS vars:Int)
 le:GS vars<=281474976710656
theorem SB.nil:SB []:=⟨(λv h=>by cases h),rfl,dc⟩
theorem jbF {x:Int}(h1:0<=x)(h2:x<18446744073709551616):qN .u64 x=x:=by
 rw[JI];show x % 18446744073709551616=x;omega
theorem jny (a b:Int)(h1:0<=a - b)(h2:a - b<18446744073709551616):qN .u64 (qN .u64 a - qN .u64 b)=a - b:=by
 rw[JI,JI,JI];show(a % 18446744073709551616 - b % 18446744073709551616) % 18446744073709551616=a - b;omega
theorem jqj {n:Nat}{v:VarT}(hn:n<=281474976710656)(h:VB v):stW (n:Int) v=((n * (v.hi - v.lo+1).toNat:Nat):Int):=by
 obtain⟨h1,h2⟩:=h;unfold stW;rw[jny _ _ om om,jbF (x:=v.hi - v.lo+1) om om];obtain⟨r,hr⟩:∃ r:Nat,v.hi - v.lo+1=(r:Int):=⟨(v.hi - v.lo+1).toNat,om⟩;rw[hr];have h3:r<=1024:=om
 have h4:n * r<=281474976710656 * 1024:=Nat.mul_le_mul hn h3;rw[QbZ,<-Int.natCast_mul,jbF om om]
theorem SB.snoc {vars:List VarT}{v:VarT}(h:SB vars)(hv:VB v)(hs:Qj (vars ++ [v])<=281474976710656):SB (vars ++ [v]):=by
 have e:(vars ++ [v]).foldl stW 1=(GS (vars ++ [v]):Int):=by
  rw[Qbm,h.cnt,List.foldl_cons,List.foldl_nil,jqj h.le hv];unfold GS;rw[Qbm];rfl
 refine⟨λu hu=>?_,e,?_⟩
 ·rcases Qav.1 hu with hu|hu
  ·exact h.vb u hu
  ·simp at hu;rw[hu];exact hv
 ·unfold Qj at hs;rw[e] at hs;have h4:GS (vars ++ [v])<=281474976710656 * 1024:=by
   unfold GS;rw[Qbm];exact Nat.mul_le_mul h.le (by have:=hv.1;have:=hv.2;omega)
  rw[YE om om] at hs;omega
theorem jrx {m:ModT}{ts:List (List Nat)}{d:DeclT}{b:MT}(hd:d.begins.length<=1)(he:∀ e∈m.enums,0<e.vals.length/\e.vals.length<=32)(h:XV m ts d=.ok b):∃ v,b.1={ m with vars:=m.vars ++ [v] }/\(v.kind=2->v.lo=0/\v.hi=1)/\VB v/\Qj (m.vars ++ [v])<=281474976710656:=by
 unfold XV at h;split at h
 ·cases h
 ·split at h
  ·cases h
  ·rename_i v hk;have kv:(v.kind=2->v.lo=0/\v.hi=1)/\VB v:=by
    unfold uc at hk;split at hk
    ·cases hk;exact⟨λ_=>⟨rfl,rfl⟩,by unfold VB;dsimp only;omega⟩
    ·split at hk
     ·rename_i h0;cases hk;refine⟨λh=>by simp at h,?_⟩;have hx:0<(m.enums.getD (Jy m.enums d.ty).toNat en0).vals.length/\(m.enums.getD (Jy m.enums d.ty).toNat en0).vals.length<=32:=by
       obtain⟨h1,_⟩:=ja5 h0;have:=he _ (Qac h1);unfold Jy;rw[Qam,Qai h1];exact this
      show(0:Int)<=((m.enums.getD (Jy m.enums d.ty).toNat en0).vals.length:Int) - 1/\((m.enums.getD (Jy m.enums d.ty).toNat en0).vals.length:Int) - 1 - 0<=1023;omega
     ·split at hk
      ·cases hk
      ·split at hk
       ·cases hk
       ·split at hk
        ·cases hk
        ·cases hk;exact⟨λh=>by simp at h,by unfold VB;dsimp only;omega⟩
   unfold wR at h;split at h
   ·cases h
   ·rename_i u hu;unfold kN at h;split at h
    ·cases h
    ·rename_i hst;cases h;refine⟨u,rfl,?_⟩;have hst:Qj (m.vars ++ [u])<=281474976710656:=om
     cases hb:d.begins with
     |nil=>rw[hb,JA] at hu;cases hu;exact⟨kv.1,kv.2,hst⟩
     |cons x xs=>
      rw[hb] at hd;cases xs with
      |cons y ys=>simp at hd
      |nil=>
       rw[hb,JA] at hu;split at hu
       ·cases hu
       ·split at hu
        ·cases hu
        ·split at hu
         ·cases hu
         ·rw[JA] at hu;cases hu;exact⟨kv.1,kv.2,hst⟩
theorem jeB:∀ {l:List DeclT} {b c:MT},(∀ d∈l,d.begins.length<=1)->(∀ e∈b.1.enums,0<e.vals.length/\e.vals.length<=32)->yi (λb e=>XV b.1 b.2 e) b l=.ok c->J8 b.1.vars->SB b.1.vars->J8 c.1.vars/\c.1.moves=b.1.moves/\SB c.1.vars
 |[],b,c,hd,he,h,hv,hs=>by rw[yi] at h;cases h;exact⟨hv,rfl,hs⟩
 |d :: l,b,c,hd,he,h,hv,hs=>by
  rw[yi] at h;split at h
  ·cases h
  ·rename_i b' hb';obtain⟨v,e,hk,h1,h2⟩:=jrx (hd d (by simp)) he hb';have:=jeB (b:=b') (λd hd'=>hd d (by simp[hd'])) (by rw[e];exact he) h (by
    rw[e];intro u hu;rcases Qav.1 hu with hu|hu
    ·exact hv u hu
    ·simp at hu;rw[hu];exact hk) (by rw[e];exact hs.snoc h1 h2)
   exact⟨this.1,by rw[this.2.1,e],this.2.2⟩
theorem jex:∀ {l:List EnumT} {b c:MT},(∀ e∈l,0<e.vals.length/\e.vals.length<=32)->(∀ e∈b.1.enums,0<e.vals.length/\e.vals.length<=32)->yi (λb e=>wJ b.1 b.2 e) b l=.ok c->c.1.vars=b.1.vars/\c.1.moves=b.1.moves/\∀ e∈c.1.enums,0<e.vals.length/\e.vals.length<=32
 |[],b,c,hl,he,h=>by rw[yi] at h;cases h;exact⟨rfl,rfl,he⟩
 |e :: l,b,c,hl,he,h=>by
  rw[yi] at h;split at h
  ·cases h
  ·rename_i b' hb';have e1:=W1 hb';have:=jex (b:=b') (λx hx=>hl x (by simp[hx])) (by
    rw[e1];intro x hx;rcases Qav.1 hx with hx|hx
    ·exact he x hx
    ·simp at hx;rw[hx];exact hl e (by simp)) h
   rw[e1] at this;exact this
structure ModK (m:ModT):Prop where
 vars:J8 m.vars
 moves:∀ v∈m.moves,MoveK m.vars m.enums v
 len:m.moves.length<=100000
 sb:SB m.vars
theorem jn0 {s:SrcT}{c:MT}(hb:∀ d∈s.vars,d.begins.length<=1)(hr:∀ p∈s.procs,p.rules.length<=1000/\∀ r∈p.rules,WkR r)(hp:s.procs.length<=100)(he:∀ e∈s.enums,0<e.vals.length/\e.vals.length<=32)(h:Je s=.ok c):ModK c.1:=by
 unfold Je at h;split at h
 ·cases h
 ·rename_i b h1;obtain⟨E2,E3,E4⟩:=jex he (λe h=>by cases h) h1;split at h
  ·cases h
  ·rename_i b2 h2;have v0:b.1.vars=[]:=E2;have m0:b.1.moves=[]:=E3;obtain⟨d1,d2,d3⟩:=jeB hb E4 h2 (by rw[v0];intro v hv;cases hv) (by rw[v0];exact SB.nil);have m2:b2.1.moves=[]:=by rw[d2,m0]
   obtain⟨f1,f2,f3,f4⟩:=jd5 (b:=b2) hr h (by rw[m2];intro v hv;cases hv);rw[m2] at f4;exact⟨by rw[f1];exact d1,by rw[f1,f2];exact f3,by simp only[ω] at f4;omega,by rw[f1];exact d3⟩
end
section
def Xz (s:List Int):List SetT->List Int->Option (List Int)
 |[],out=>some out
 |a :: l,out=>match qX s a.to with
  |none=>none
  |some n=>if a.var<0\/(s.length:Int)<=a.var then none else Xz s l (out.set a.var.toNat n)
def yP (vars:List VarT)(mv:MoveT)(s:List Int):List Int×Bool:=
 if qX s mv.when=some 1 then(match Xz s mv.acts s with
  |none=>([],false)
  |some t=>(t,qg vars t)) else([],false)
def yB (vars:List VarT)(s:List Int):List MoveT->List (List Int)->List (List Int)
 |[],out=>out
 |mv :: l,out=>yB vars s l (if(yP vars mv s).2=true/\(yP vars mv s).1∉out then out ++ [(yP vars mv s).1] else out)
def zo (m:ModT)(s:List Int):List (List Int):=
 if qg m.vars s=true then(if(yB m.vars s m.moves []).length=0 then [s] else yB m.vars s m.moves []) else []
def yN (s:List Int):List SetT->List Int->List Int
 |[],out=>out
 |a :: l,out=>yN s l (out.set a.var.toNat (yT s a.to))
def byM (vars:List VarT)(mv:MoveT)(s t:List Int):Bool:=
 qg vars s && qg vars t && decide (yT s mv.when=1) && decide (yN s mv.acts s=t)
theorem YM {vars:List VarT}{s t:List Int}:∀ {l:List MoveT} {out:List (List Int)},t∈yB vars s l out->t∈out\/∃ mv∈l,yP vars mv s=(t,true)
 |[],out,h=>.inl h
 |mv :: l,out,h=>by
  rw[yB] at h;rcases YM h with h|⟨w,hw,e⟩
  ·split at h
   ·rename_i c;rcases Qav.1 h with h|h
    ·exact .inl h
    ·simp only[Qbh] at h;exact .inr ⟨mv,by simp,by rw[h,<-c.1]⟩
   ·exact .inl h
  ·exact .inr ⟨w,by simp[hw],e⟩
theorem VE {vars:List VarT}{s:List Int}:∀ {l:List MoveT} {out:List (List Int)},(yB vars s l out).length<=out.length+l.length
 |[],out=>τ _
 |mv :: l,out=>by
  rw[yB];refine Qab VE ?_;split
  ·simp;omega
  ·simp
theorem jdU {vars:List VarT}{enums:List EnumT}(hv:J8 vars){s:List Int}(hs:qg vars s=true):∀ {l:List SetT} {out t:List Int},(∀ a∈l,0<=a.var/\a.var<(vars.length:Int)/\OfK vars enums a.to)->Xz s l out=some t->yN s l out=t
 |[],out,t,hl,h=>by rw[Xz] at h;cases h;rfl
 |a :: l,out,t,hl,h=>by
  rw[Xz] at h;cases hn:qX s a.to with
  |none=>rw[hn] at h;cases h
  |some n=>
   rw[hn] at h;dsimp only at h;split at h
   ·cases h
   ·rw[yN,(hl a (by simp)).2.2.val hv hs hn];exact jdU hv hs (λb hb=>hl b (by simp[hb])) h
theorem joi {vars:List VarT}{enums:List EnumT}(hv:J8 vars){mv:MoveT}(K:MoveK vars enums mv){s t:List Int}(hs:qg vars s=true)(h:yP vars mv s=(t,true)):byM vars mv s t=true:=by
 unfold yP at h;split at h
 ·rename_i hw;split at h
  ·cases h
  ·rename_i u hu;simp only[Prod.mk.injEq] at h;obtain⟨rfl,hr⟩:=h;unfold byM;rw[hs,hr,K.when.val hv hs hw,jdU hv hs K.acts hu];simp
 ·cases h
theorem wM {vars:List VarT}{mv:MoveT}{s t:List Int}(h:yP vars mv s=(t,true)):qg vars t=true:=by
 unfold yP at h;split at h
 ·split at h
  ·cases h
  ·simp only[Prod.mk.injEq] at h;obtain⟨rfl,hr⟩:=h;exact hr
 ·cases h
end
theorem jnK {l f:List Nat}(h:(Ja l f).c=0):ModK (Ja l f).m:=by
 unfold Ja at h ⊢;by_cases h1:(yK l).2.1≠0
 ·rw[if_pos h1] at h;exact absurd (show((yK l).2.1:Int)=0 from h) om
 ·rw[if_neg h1] at h ⊢;obtain⟨O,hp⟩:=jnE (l:=l) (by simpa using h1);cases hm:Je (yK l).1 with
  |er a b c=>
   rw[hm] at h;exact absurd h (WJ hm)
  |ok m=>
   rw[hm] at h;dsimp only at h ⊢;by_cases h2:(yv f).2.1≠0
   ·rw[if_pos h2] at h;exact absurd (show((yv f).2.1:Int)=0 from h) om
   ·rw[if_neg h2] at h ⊢;cases hr:yC m.1.vars m.1.enums true (yv f).1 2 [] with
    |er a b c=>
     rw[hr] at h;exact absurd h (Xw hr)
    |ok y=>exact jn0 (λd hd=>(O.begs d hd).2) O.rules om O.ens hm
def ZN (src:SrcT):ModT×Bool:=match QH src with
 |none=>(md0,false)
 |some t=>if 5000<t.length then(md0,false) else((Ja t [116,114,117,101]).m,decide ((Ja t [116,114,117,101]).c=0/\(Ja t [116,114,117,101]).l=0/\(Ja t [116,114,117,101]).k=0) && decide (Qj (Ja t [116,114,117,101]).m.vars<=300))
theorem jkT {src:SrcT}(h:(ZN src).2=true):ModK (ZN src).1/\VarsOK (ZN src).1.vars (ZN src).1.enums:=by
 unfold ZN at h ⊢;cases hs:QH src with
 |none=>rw[hs] at h;cases h
 |some t=>
  rw[hs] at h;dsimp only at h ⊢;split at h
  ·cases h
  ·rename_i h5;rw[if_neg h5];simp only[Qaa,decide_eq_true_eq] at h;exact⟨jnK h.1.1,(jbV h.1.1).1⟩
def jjC:XC:=(Oe (T0 2 4) [OY 7,I4 8 7,OO 9 2,oH 10 9,I4 11 10,Iw 12 .neq 8 11] 12 Tu (OW (Ob [OO 13 2,Oh 14 13,IP 15 14,I0 16] 0 (Tn 17 16 15) 17 0 1 (oX [oz 18 16,Ik 19 7 14 16,oU 20 7 19,o8 6 [oJ,oB,oJ,oB,oB,Tj,oB],oy 5 18,o5 7 6 20] (.cops [IE (OY 21),TB 22 5,IE (Li 23 21 22),OQ 24 23,IE (Tl 25 6),OQ 26 25,IE (IW 27 .lss 24 26),TB 28 27,IE (IH 29 28 1),IE (IH 30 28 5),IE (If 31 28 (.idxS 1 29 30)),IE (Ov 32 28 31),IE (Oo 33 28 4 6),IE (Ov 34 28 33),IE (If 35 28 (.bin .gtr 32 34)),IE (Lc 36 28 35)]) (Ti 36 Tu .skip)) 37 16 1 16 37) [Ta 4]))
def joZ:XF:=⟨[0,1],jjC,[(.t 4)]⟩
theorem jtl:jx ε 25=some joZ:=by kernel_rfl
def jbf:XC:=(Oe [I0 2] [oy 3 0] 3 [OZ 2 1] (o4 [I0 2]))
def jkr:XF:=⟨[0],jbf,[(.t 2)]⟩
theorem jpQ:jx ε 61=some jkr:=by kernel_rfl
def jjt:XC:=(OU (TG (I0 6) 7) (T7 [oy 8 0] 0 (Te 10 8 14 9 10 9 [OY 11,oz 12 2,IW 13 .mul 11 12,oy 6 13,Ta 7] (Te 15 8 15 14 15 14 [OY 16,oz 17 2,IW 18 .add 16 17,oy 6 18,Ta 7] (Te 20 8 16 19 20 19 [OY 21,oz 22 2,IW 23 .sub 21 22,oy 6 23,Ta 7] (.seq (Tt 25 8 17 24 25 24 (.ops (IV 26 8 30 24 26))) (Ti 24 [OY 27,oz 28 2,IW 29 .eql 27 28,Ox 30 61 29,oy 6 30,Ta 7] (Te 32 8 18 31 32 31 [OY 33,oz 34 2,IW 35 .neq 33 34,Ox 36 61 35,oy 6 36,Ta 7] (Te 38 8 19 37 38 37 [OY 39,oz 40 2,IW 41 .lss 39 40,Ox 42 61 41,oy 6 42,Ta 7] (.seq (Tt 44 8 20 43 44 43 (.ops (IV 45 8 29 43 45))) (Ti 43 [OY 46,oz 47 2,IW 48 .leq 46 47,Ox 49 61 48,oy 6 49,Ta 7] (Te 51 8 21 50 51 50 [OY 52,oz 53 2,IW 54 .gtr 52 53,Ox 55 61 54,oy 6 55,Ta 7] (Te 57 8 22 56 57 56 [OY 58,oz 59 2,IW 60 .geq 58 59,Ox 61 61 60,oy 6 61,Ta 7] (Te 63 8 27 62 63 62 [OY 64,oz 65 2,ol 66 (.bi .min #[2,2] [64,65]),oy 6 66,Ta 7] (Iy (IV 68 8 28 67 68) 67 [OY 69,oz 70 2,ol 71 (.bi .max #[2,2] [69,70]),oy 6 71,Ta 7])))))))))))))) (TG (I0 6) 7))
def joQ:XF:=⟨[0,1,2],jjt,[(.t 6),(.t 7)]⟩
theorem jtc:jx ε 42=some joQ:=by kernel_rfl
def jjH:XC:=(ov [TT 2,I0 4,Ol 5] (oX [O5 6] (T6 [Tl 11 2,Oh 12 11,IP 13 12,I0 14] 0 15 14 13 15 0 1 [Ik 16 6 12 14,O9 17 16,Tz 8,TV 8 17] (Oe [O9 19 8,OY 20,OA 21 16 19 20,oz 18 21,Tw 22 18,Tx 23 18,oy 9 22,oy 10 23] [oz 24 10,OV 25 24] 25 (TG (I0 4) 5) (.ops [TY 26,oz 27 9,TI 28 1 oB [((0,1),27)],Oq 29 1 8 26 28,oy 6 29])) 30 14 14 30) (Il 2 (oK [TY 32,I4 33 32,ol 34 (TJ 33),oz 35 34,Oy 36 35 0 2,Ow 37 35 36,Td 38 35 .eql 37 1,IZ 39 35 38,Oo 40 39 0 2,Ov 41 39 40,O6 42 39 .eql 41 2,Ig 43 35 (.pick 39 Ih 42),Tb 44 35 43,oy 31 44] 31 (o4 [Tv 45 2,oH 46 45,TK 46,Ta 5]) (oK [TY 48,I4 49 48,ol 50 (TJ 49),oz 51 50,Oy 52 51 0 2,Ow 53 51 52,Td 54 51 .eql 53 4,Tb 55 51 54,oz 56 55,Oy 57 56 1 2,Ow 58 56 57,Ig 59 56 (O7 .geq 58),Tb 60 56 59,oz 61 60,Oy 62 61 1 2,Ow 63 61 62,IZ 64 61 1,Ig 65 61 (.len 64),Ig 66 61 (.bin .lss 63 65),Tb 67 61 66,oy 47 67] 47 (o4 [OY 68,Tv 69 2,oH 70 69,Li 71 68 70,oH 72 71,TK 72,Ta 5]) (oK [TY 74,I4 75 74,Ib 76 .eql 75 1,oz 77 76,Oy 78 77 0 2,Ow 79 77 78,Td 80 77 .eql 79 5,Tb 81 77 80,oy 73 81] 73 (o4 [TY 82,Li 83 82 OM,oH 84 83,ol 85 (.un .neg 84),TK 85,Ta 5]) (oK [TY 87,I4 88 87,Ib 89 .eql 88 1,oz 90 89,Oy 91 90 0 2,Ow 92 90 91,Td 93 90 .eql 92 6,Tb 94 90 93,oy 86 94] 86 (o4 [TY 95,Li 96 95 OM,oH 97 96,IW 98 .sub Tg 97,TK 98,Ta 5]) (Ic [TY 100,I4 101 100,Ib 102 .eql 101 2,oy 99 102] 99 (TN [IE (OO 103 2),OQ 104 103,TB 105 6,IE (Li 106 105 OM),OQ 107 106,TB 108 6,IE (Li 109 108 Tg),OQ 110 109,(Ip 111 42 [104,107,110],OJ),IE (Tw 112 111),IE (Tx 113 111),IE (TK 112),IE (oy 5 113)] .ret)))))) (o4 (TG (I0 4) 5)))))
def jo4:XF:=⟨[0,1],jjH,[(.t 4),(.t 5)]⟩
theorem jtq:jx ε 16=some jo4:=by kernel_rfl
def jjG:XC:=(ov [TT 2,Ol 4,Ol 5] (OK [O9 9 2,OY 10,OA 11 16 9 10,oz 8 11,Tw 12 8,Tx 13 8,oy 6 12,oy 7 13] [oz 14 7,oz 15 14,IZ 16 15 6,Td 17 15 .eql 16 1,Tb 18 15 17,oz 19 7,TK 18,oy 5 19]))
def jo3:XF:=⟨[0,1],jjG,[(.t 4),(.t 5)]⟩
theorem jtp:jx ε 17=some jo3:=by kernel_rfl
def jjs:XC:=(oX [TT 3,ID 4 1,O5 6,Ol 7] (ov [OO 16 4,O9 17 16,oz 18 2,OA 19 17 17 18,oz 15 19,Tw 20 15,Tx 21 15,oy 8 20,oy 9 21] (Iy [oz 22 8,TM 23 22,oz 24 23,IH 25 24 9,TS 26 24 25,Lc 27 24 26] 27 (TG (O5 6) 7))) (OU [oz 28 2,Ox 29 49 28,oy 10 29] (T6 [oE 30 6 4,Oh 31 30,IP 32 31,I0 33] 0 34 33 32 34 0 1 [Ik 35 7 31 33,oU 36 7 35,o8 12 [oB,oB,oB,oJ,.nils,oB,oB],o5 7 12 36] (Oe [Tv 38 12,O9 39 38,oz 40 2,OA 41 16 39 40,oz 37 41,Tw 42 37,Tx 43 37,oy 13 42,oy 14 43] [oz 44 14,TM 45 44,oz 46 45,Oo 47 46 0 12,Ov 48 46 47,If 49 46 (O7 .lss 48),Tc 50 46 49,oz 51 50,Oo 52 51 0 12,Ov 53 51 52,IH 54 51 2,TQ 55 51 54,If 56 51 (.bin .geq 53 55),Lc 57 51 56] 57 (TG (O5 6) 7) (.ops [oz 58 10,OO 59 12,oH 60 59,oz 61 13,Li 62 58 60,o5 1 62 61])) 63 33 33 63) [oz 64 10,TZ 65 3,oz 66 10,OA 67 25 65 66,oy 6 64,oy 7 67]))
def joP:XF:=⟨[0,1,2],jjs,[(.t 6),(.t 7)]⟩
theorem jtb:jx ε 45=some joP:=by kernel_rfl
def jjo:XC:=(Oe [O5 2] [IY 3,ow 4 (.gen .eql 30 true 3 (.c .nils))] 4 [O5 2] (o4 [TI 5 0 oB [],IY 6,Oq 7 1 8 5 6,Tp 7]))
def joL:XF:=⟨[0],jjo,[(.t 2)]⟩
theorem js7:jx ε 49=some joL:=by kernel_rfl
def jjp:XC:=(Oe Tu [IY 6,I4 7 6,OY 8,I4 9 8,Iw 10 .neq 7 9] 10 Tu (OW (Ob [IY 11,IP 12 11,I0 13] 0 (Tn 14 13 12) 14 0 1 (oX (Tf 15 13 5 15) (.cops [La 16,TB 17 5,IE (Li 18 16 17),OQ 19 18,IE (OY 20),TB 21 5,IE (Li 22 20 21),OQ 23 22,IE (Iw 24 .neq 19 23)]) (Ti 24 Tu .skip)) 25 13 1 13 25) [Ta 4]))
def joM:XF:=⟨[0,1],jjp,[(.t 4)]⟩
theorem js8:jx ε 48=some joM:=by kernel_rfl
def jjq:XC:=(OK (Th 3) [IY 4,oH 5 1,OA 6 48 4 5,oy 3 6])
def joN:XF:=⟨[0,1],jjq,[(.t 3)]⟩
theorem js9:jx ε 47=some joN:=by kernel_rfl
def jjr:XC:=(OK Tu [IY 5,OY 6,OA 7 63 5 6,ol 8 (O7 .geq 7),TK 8])
def joO:XF:=⟨[0,1],jjr,[(.t 4)]⟩
theorem jta:jx ε 46=some joO:=by kernel_rfl
def jjl:XC:=(OU [I0 4] (T6 [IY 6,IP 7 6,I0 8] 0 9 8 7 9 0 1 (Tf 10 8 5 10) (Iy [OY 11,IY 12,Lb 13,Li 14 12 13,oH 15 14,T4 16 11 [15]] 16 (Tf 17 5 4 17)) 18 8 8 18) [OZ 4 (-(0+1))])
def joI:XF:=⟨[0,1],jjl,[(.t 4)]⟩
theorem js4:jx ε 63=some joI:=by kernel_rfl
def jjA:XC:=(Oe [TT 2,O5 4] [TZ 10 2,OY 11,OA 12 25 10 11,OV 13 12] 13 [O5 4] (oX [O5 5] (T6 [Ld 14 2,Oh 15 14,IP 16 15,I0 17] 0 18 17 16 18 0 1 [Ik 19 7 15 17,oU 20 7 19,o8 7 [oB,oB,oJ,.nils,oB,oB,.nils],o5 7 7 20] (ov [TZ 22 2,oU 23 7 7,OY 24,Ip 25 45 [22,23,24],oz 21 25,Tw 26 21,Tx 27 21,o8 8 [.nils],o5 1 8 26,oy 9 27] (Oz [oz 28 9,oz 29 28,IZ 30 29 5,Ig 31 29 (.fn 47 [8]),Tm 32 (29,true) 46 [30,31],Ig 33 29 (IA 32),I6 34 29 33 oW] 34 [Lb 35,oH 36 8,Ll 37 1 [((0,1),36)],Oq 38 1 24 35 37,oy 5 38])) 39 17 17 39) (OW (Oz [Lb 40,I4 41 40,ow 42 (TJ 41)] 42 [Lb 43,OY 44,Ox 45 49 44,Ll 46 1 [((0,1),45)],Oq 47 1 24 43 46,oy 5 47]) (Tf 48 5 4 48))))
def joX:XF:=⟨[0,1],jjA,[(.t 4)]⟩
theorem jtj:jx ε 27=some joX:=by kernel_rfl
def jjm:XC:=(OK (Th 3) [IY 4,oH 5 1,OA 6 48 4 5,oy 3 6])
def joJ:XF:=⟨[0,1],jjm,[(.t 3)]⟩
theorem js5:jx ε 51=some joJ:=by kernel_rfl
def jjx:XC:=(OK [TT 3,ID 5 2,Ol 6] [TZ 7 3,OY 8,OA 9 27 7 8,ol 10 (.fn 51 [5]),OA 11 46 9 10,oy 6 11])
def joU:XF:=⟨[0,1,2],jjx,[(.t 6)]⟩
theorem jtg:jx ε 30=some joU:=by kernel_rfl
def jjy:XC:=(Oe Tu [IY 6,I4 7 6,OY 8,I4 9 8,Iw 10 .neq 7 9] 10 Tu (OW (Ob [IY 11,IP 12 11,I0 13] 0 (Tn 14 13 12) 14 0 1 (oX (Tf 15 13 5 15) (.cops [La 16,TB 17 5,IE (Li 18 16 17),OQ 19 18,IE (OY 20),TB 21 5,IE (Li 22 20 21),OQ 23 22,IE (Iw 24 .neq 19 23)]) (Ti 24 Tu .skip)) 25 13 1 13 25) [Ta 4]))
def joV:XF:=⟨[0,1],jjy,[(.t 4)]⟩
theorem jth:jx ε 29=some joV:=by kernel_rfl
def jjv:XC:=(OU Tu (T6 [oy 7 0,IP 8 7,I0 9] 0 10 9 8 10 0 1 [Li 11 7 9,oH 12 11,oy 6 12] (Iy [TY 13,OY 14,T4 15 (oQ 29 []) [13,14]] 15 [Ta 4]) 16 9 9 16) Tu)
def joS:XF:=⟨[0,1],jjv,[(.t 4)]⟩
theorem jte:jx ε 32=some joS:=by kernel_rfl
def jjI:XC:=(ov (T0 2 4) (OU [OY 7,I4 8 7,OO 9 2,oH 10 9,I4 11 10,IW 12 .eql 8 11,oy 5 12] (IU [I0 6] 0 (.seq (O4 [Lb 13,oz 14 13,IZ 15 14 6,IZ 16 14 1,Ig 17 14 (.len 16),Ig 18 14 (.bin .lss 15 17),I6 19 14 18 oW] 19 (.exit 0)) (Iz 1 (.cops [IE (OO 22 2),OQ 23 22,TB 24 6,IE (Ik 25 7 23 24),IE (Tl 26 25),OQ 27 26,IE (OY 28),TB 29 6,IE (Li 30 28 29),OQ 31 30,IE (IW 32 .leq 27 31),TB 33 32,IE (IZ 34 33 1),IE (IZ 35 33 6),IE (Ig 36 33 (.idxS 1 34 35)),IE (Ow 37 33 36),IE (Oy 38 33 0 2),IE (Ow 39 33 38),IE (IZ 40 33 6),IE (Ig 41 33 (.idxS 7 39 40)),IE (Oy 42 33 4 41),IE (Ow 43 33 42),IE (Ig 44 33 (.bin .leq 37 43)),IE (Tb 45 33 44),IE (oy 5 45)]) [TY 20,TA 21 20 1,oy 6 21]))) (Tf 46 5 4 46)))
def jo5:XF:=⟨[0,1],jjI,[(.t 4)]⟩
theorem jtr:jx ε 13=some jo5:=by kernel_rfl
def jju:XC:=(Oe [TT 4,ID 5 1,Ol 8] [TZ 12 4,oz 13 2,OA 14 13 12 13,TM 15 14,oz 16 15,O0 17 16 3 4,IH 18 16 3,Lg 19 16 13 [17,18],TS 20 16 19,Tc 21 16 20,oz 22 21,Oo 23 22 0 5,O0 24 22 6 23,IH 25 22 2,Lg 26 22 18 [24,25],O6 27 22 .neq 26 1,Lc 28 22 27] 28 (Th 8) (OU [TI 29 0 oB [],oz 30 2,Oq 31 1 8 29 30,oy 9 31] (T6 [oE 32 6 5,Oh 33 32,IP 34 33,I0 35] 0 36 35 34 36 0 1 [Ik 37 7 33 35,oU 38 7 37,o8 11 [oB,oB,oB,oJ,.nils,oB,oB],o5 7 11 38] (.dops [Tq 39 9,IX 40 0 11,Ts 41 40 40 3,IX 42 1 11,T8 43 6 42 42 29,Tq 44 2,(Ix (OA 45 18 43 44) 0 [(3,3)],OJ),IO (Li 46 39 41),TU 1 46 45]) 47 35 35 47) [oz 48 9,oz 49 3,OA 50 29 48 49,oy 8 50]))
def joR:XF:=⟨[0,1,2,3],jju,[(.t 8)]⟩
theorem jtd:jx ε 33=some joR:=by kernel_rfl
def jjF:XC:=(Oe [TT 2,I0 4] [OO 8 2,oH 9 8,O1 10 .eql 9 4] 10 [OY 11,Tv 12 2,oH 13 12,Li 14 11 13,oH 15 14,TK 15] (T9 [Tl 16 2,oH 17 16,I4 18 17,ow 19 (TJ 18)] 19 [Tv 20 2,oH 21 20,TK 21] (O8 [Tl 22 2,oH 23 22,Ik 24 6 23 OM,O9 25 24,OY 26,OA 27 18 25 26,oy 5 27] [Tl 28 2,oH 29 28,Tl 30 2,oH 31 30,I4 32 31,Ib 33 .sub 32 1,Ik 34 6 29 33,O9 35 34,OY 36,OA 37 18 35 36,oy 6 37] (oX (Th 7) (T7 [OO 38 2,Oh 39 38] 0 (Te 41 39 5 40 41 40 [Lb 42,ol 43 (.un .neg 42),TK 43] (Te 45 39 14 44 45 44 [Lb 46,TY 47,IW 48 .mul 46 47,TK 48] (Te 50 39 15 49 50 49 [Lb 51,TY 52,IW 53 .add 51 52,TK 53] (Te 55 39 16 54 55 54 [Lb 56,TY 57,IW 58 .sub 56 57,TK 58] (Oi 60 39 6 59 60 59 (.ops [Lb 61,ol 62 (TJ 61),oy 7 62]) (.seq (Tt 64 39 17 63 64 63 (.ops (IV 65 39 30 63 65))) (.cond 63 (.ops [Lb 66,TY 67,IW 68 .eql 66 67,oy 7 68]) (Oi 70 39 18 69 70 69 (.ops [Lb 71,TY 72,IW 73 .neq 71 72,oy 7 73]) (Oi 75 39 19 74 75 74 (.ops [Lb 76,TY 77,IW 78 .lss 76 77,oy 7 78]) (Oi 80 39 20 79 80 79 (.ops [Lb 81,TY 82,IW 83 .leq 81 82,oy 7 83]) (Oi 85 39 21 84 85 84 (.ops [Lb 86,TY 87,IW 88 .gtr 86 87,oy 7 88]) (Oi 90 39 22 89 90 89 (.ops [Lb 91,TY 92,IW 93 .geq 91 92,oy 7 93]) (Oi 95 39 27 94 95 94 (.ops [Lb 96,Ib 97 .eql 96 1,oz 98 97,IZ 99 98 6,Td 100 98 .eql 99 1,Tb 101 98 100,oy 7 101]) (Oi 103 39 28 102 103 102 (.ops [Lb 104,Ib 105 .eql 104 1,oz 106 105,IH 107 106 6,O6 108 106 .eql 107 1,Tc 109 106 108,oy 7 109]) (Oz (IV 111 39 29 110 111) 110 [Lb 112,ol 113 (TJ 112),oz 114 113,IH 115 114 6,O6 116 114 .eql 115 1,Tc 117 114 116,oy 7 117])))))))))))))))) (OW (Iy [oy 118 7] 118 [OZ 4 1]) [I0 4])))))
def jo2:XF:=⟨[0,1],jjF,[(.t 4)]⟩
theorem jto:jx ε 18=some jo2:=by kernel_rfl
def jjJ:XC:=(ov [TT 1,o8 2 [.nils,.nils,.nils],Ol 3] (Oe [TZ 10 1,Ox 11 35 10,oz 9 11,Tw 12 9,Tx 13 9,TK 12,oy 5 13] [Lb 14,ol 15 (O7 .neq 14),oz 16 15,IH 17 16 4,If 18 16 (.lenS 17),O6 19 16 .gtr 18 5000,Lc 20 16 19] 20 [Iv 21 [.nils,.nils,.nils] [],o5 3 2 21,Ol 3] (oX [TW 23,OA 24 34 23 (o7 [116,114,117,101]),oz 22 24,Tw 25 22,Tx 26 22,Ii 27 22 2,o8 6 [.nils,.nils,.nils],ol 7 (.alloc OI),o8 8 [oB,oB,oB],o5 3 6 25,TV 7 26,o5 3 8 27] (.dops [T8 28 3 6 6 35,T8 29 3 8 8 45,TF 30 [oB,oB,oB] [],IO (ol 31 (TO .eql 45 29 30)),Tq 32 31,IB (Ig 33 32 (.ldA 3 6)) 6 35 [],(Ix (Tm 34 (32,true) 36 [33]) 0 [(5,35)],OJ),IO (Td 35 32 .leq 34 300),IO (Tb 36 32 35),TU 3 2 28,IO (oy 3 36)]) .ret)))
def jo6:XF:=⟨[0],jjJ,[(.cA 2 3),(.t 3)]⟩
theorem jts:jx ε 10=some jo6:=by kernel_rfl
def svV (s:List Int):AV:=.lst s.length (s.map (.int .i64))
theorem jhj (s:List Int):pc (svV s)=true:=by
 have:(s.map (AV.int .i64)).all pc=true:=by simp[pc]
 simp[svV,pc,this]
theorem jr8 (k:Int)(h : -9223372036854775808<=k)(h2:k<=9223372036854775807):wq k=k:=YE h h2
section
variable {st:St} {K:AV->St->Prop}
theorem jlX (a b:Int):jp (Js .add (.int .i64 a) (.int .i64 b) st) K=K (.int .i64 (wq (a+b))) st:=rfl
theorem jfc (a b:Int):jp (Js .sub (.int .i64 a) (.int .i64 b) st) K=K (.int .i64 (wq (a - b))) st:=rfl
theorem jlW (a b:Int):jp (Js .mul (.int .i64 a) (.int .i64 b) st) K=K (.int .i64 (wq (a * b))) st:=rfl
theorem jlV (a:Int):jp (unV .neg (.int .i64 a) st) K=K (.int .i64 (wq (-a))) st:=by
 have e:IntKind.i64.wrap (0 - a)=wq (-a):=by rw[<-JI,Int.zero_sub];rfl
 simp only[unV,Yh,O,e,jp]
end
theorem jsX (hb:NB base)(q:Bool):Tot base 61 [.bool q] (.int .i64 (if q=true then 1 else 0)):=by
 refine hb.tot ?_ rfl rfl;cases q with
 |true=>
  refine jE jpQ (by rfl) (hb.pur 61 1 dc) ?_;simp only[jkr,jt,κ,μ,ν,ξ];rw[(by unfold jbf;simp only[qq];rfl:jbf=_)];repeat'(first|apply jc<;>intro _|simp(disch:=first|exact dzG|fail) only[r8,γ,δ,ζ,η,θ])
  exact G0.v rfl rfl
 |false=>
  refine jE jpQ (by rfl) (hb.pur 61 1 dc) ?_;simp only[jkr,jt,κ,μ,ν,ξ];rw[(by unfold jbf;simp only[qq];rfl:jbf=_)];repeat'(first|apply jc<;>intro _|simp(disch:=first|exact dzG|fail) only[r8,γ,δ,ζ,η,θ])
  exact G0.v rfl rfl
def tpO (o:Option Int):AV:=.tup [.int .i64 (o.getD 0),.bool o.isSome]
theorem ZJ {s:St}{o:Option Int}{x:Int}{q:Bool}(h1:x=o.getD 0)(h2:q=o.isSome):G0 (tpO o) (.tup [.int .i64 x,.bool q]) s:=by
 subst h1 h2;exact FzD.tup (.cons (.pc rfl) (.cons (.pc rfl) .nil))
set_option maxHeartbeats 4000000 in
theorem jsC (hb:NB base)(op a b:Int):Tot base 42 [.int .i64 op,.int .i64 a,.int .i64 b] (tpO (Ga op a b)):=by
 refine hb.tot ?_ rfl rfl;have B:=jsX hb;refine jE jtc (by rfl) (hb.pur 42 1 dc) ?_;simp only[joQ,jt,κ,μ,ν,ξ];rw[(by unfold jjt;simp only[qq];rfl:jjt=_)];repeat'(first|apply jc<;>intro _|simp(disch:=first|exact dzG|fail) only[B,jlX,jfc,jlW,r8,γ,δ,ζ,η,θ])
 all_goals(refine ZJ ?_ ?_<;>simp[Ga,Qu,Int.min_def,Int.max_def, *])
theorem yu {vars:List VarT}{s:List Int}:qg vars s=true↔s.length=vars.length/\∀ i (h1:i<vars.length) (h2:i<s.length),vars[i].lo<=s[i]/\s[i]<=vars[i].hi:=by
 unfold qg;rw[Qaa,decide_eq_true_eq,Qaj];refine⟨λ⟨a,b⟩=>⟨a,λi h1 h2=>?_⟩,λ⟨a,b⟩=>⟨a,λi hi=>?_⟩⟩
 ·have:=b i (Qbn.2 h1);rw[Qam,Qai h1,Qam,Qai h2] at this;simpa using this
 ·have h1:=Qbn.1 hi;have:=b i h1 om;rw[Qam,Qai h1,Qam,Qai (show i<s.length by omega)];simpa using this
theorem ZZ {vars:List VarT}{s:List Int}(h:¬ (s.length=vars.length/\∀ i (h1:i<vars.length) (h2:i<s.length),vars[i].lo<=s[i]/\s[i]<=vars[i].hi)):qg vars s=false:=by
 rw[Qcm];exact λk=>h (yu.1 k)
set_option maxHeartbeats 4000000 in
theorem Wx (hb:NB base)(m:ModT)(sv:List Int)(hm:m.vars.length<=1000000)(hs:sv.length<=1099511627776):PL ε base 25 [.agg (mdE m),svV sv] (.ok (.bool (qg m.vars sv))):=by
 unfold svV;have hl:((sv.length:Int)=(m.vars.length:Int))=(sv.length=m.vars.length):=by rw[eq_iff_iff];omega
 refine zg jtl (by rfl) (hb.pur 25 5 dc) rfl ?_;simp only[joZ,jt,κ,μ,ν,ξ];rw[(by unfold jjC;simp only[qq];rfl:jjC=_)];repeat'(first|apply jc<;>intro _|simp(disch:=first|exact dzG|fail) only[hl,r8,γ,δ,ζ,η,θ])
 ·rename_i h;exact G0.v (congrArg AV.bool (ZZ λk=>h k.1).symm) rfl
 ·rename_i h;have h:sv.length=m.vars.length:=by simpa using h
  refine jZ m.vars.length (λk L st=>(∀ j (h1:j<m.vars.length) (h2:j<sv.length),j<k->m.vars[j].lo<=sv[j]/\sv[j]<=m.vars[j].hi)/\1<=st.nx/\Has L 1 (.lst sv.length (sv.map (.int .i64)))/\Has L 14 (.lst m.vars.length (fl vaE m.vars))) (by first|assumption|omega) dc (by simp(disch:=decide) only[jf,jb]) (by simp(disch:=decide) only[jf,jb]) ?_ (λk L s v h=>(by obtain⟨a1,a2,a3,a4⟩:=h;refine⟨a1,a2,?_,?_⟩<;>simp(disch:=decide) only[jb]<;>assumption)) (λk L s v h=>(by obtain⟨a1,a2,a3,a4⟩:=h;refine⟨a1,a2,?_,?_⟩<;>simp(disch:=decide) only[jb]<;>assumption)) (λk L s hk hI hi hn=>?_) (λL s hI=>?_)
  ·refine⟨λj h1 h2 hj=>absurd hj (Qaw _),by(first|omega|(simp only[ji,jo,ju,jr,jq];first|done|omega)),?_,?_⟩<;>simp(disch:=decide) only[jb,jf]
  ·obtain⟨h0,n1,i1,i14⟩:=hI;have hks:k<sv.length:=om
   repeat'(first|apply jc<;>intro _|simp(disch:=first|exact dzG|fail) only[ja i1,ja i14,ja hi,ja hn,Jt,r8,γ,δ,ζ,η,θ])
   ·rename_i h3;refine G0.v (congrArg AV.bool (ZZ λw=>?_).symm) rfl;have:=(w.2 k hk hks).1;omega
   ·rename_i h3 h4;refine G0.v (congrArg AV.bool (ZZ λw=>?_).symm) rfl;have:=(w.2 k hk hks).2;omega
   ·rename_i h3 h4;refine⟨⟨λj h1 h2 hj=>?_,om,?_,?_⟩,?_,?_⟩
    ·by_cases e:j=k
     ·subst e;omega
     ·exact h0 j h1 h2 om
    all_goals(simp(disch:=decide) only[jb];assumption)
  ·obtain⟨h0,n1,i1,i14⟩:=hI;repeat'(first|apply jc<;>intro _|simp(disch:=first|exact dzG|fail) only[r8,γ,δ,ζ,η,θ])
   exact G0.v (congrArg AV.bool (yu.2 ⟨h,λi h1 h2=>h0 i h1 h2 h1⟩).symm) rfl
set_option maxHeartbeats 4000000 in
theorem jog (hb:NB base)(a b:List Int)(ha:a.length<=1099511627776)(hb2:b.length<=1099511627776):PX ε base 48 [svV a,svV b] (.ok (.bool (decide (a=b)))):=by
 unfold svV;have hl:((a.length:Int)=(b.length:Int))=(a.length=b.length):=by rw[eq_iff_iff];omega
 refine jE js8 (by rfl) (hb.pur 48 1 dc) ?_;simp only[joM,jt,κ,μ,ν,ξ];rw[(by unfold jjp;simp only[qq];rfl:jjp=_)];repeat'(first|apply jc<;>intro _|simp(disch:=first|exact dzG|fail) only[hl,r8,γ,δ,ζ,η,θ])
 ·rename_i h;exact G0.v (congrArg AV.bool (decide_eq_false λk=>h (by rw[k])).symm) rfl
 ·rename_i h;have h:a.length=b.length:=by simpa using h
  refine jZ a.length (λk L st=>(∀ j (h1:j<a.length) (h2:j<b.length),j<k->a[j]=b[j])/\Has L 0 (.lst a.length (a.map (.int .i64)))/\Has L 1 (.lst b.length (b.map (.int .i64)))) (by first|assumption|omega) dc (by simp(disch:=decide) only[jf,jb]) (by simp(disch:=decide) only[jf,jb]) ?_ (λk L s v h=>by simp(disch:=decide) only[jb];exact h) (λk L s v h=>by simp(disch:=decide) only[jb];exact h) (λk L s hk hI hi hn=>?_) (λL s hI=>?_)
  ·refine⟨λj h1 h2 hj=>absurd hj (Qaw _),?_,?_⟩<;>simp(disch:=decide) only[jb,jf]
  ·obtain⟨h0,i0,i1⟩:=hI;have hks:k<b.length:=om
   repeat'(first|apply jc<;>intro _|simp(disch:=first|exact dzG|fail) only[ja i0,ja i1,ja hi,ja hn,Jt,r8,γ,δ,ζ,η,θ])
   ·rename_i h3;exact G0.v (congrArg AV.bool (decide_eq_false λw=>h3 (by subst w;rfl)).symm) rfl
   ·rename_i h3;refine⟨⟨λj h1 h2 hj=>?_,?_,?_⟩,?_,?_⟩
    ·by_cases e:j=k
     ·subst e;simpa using h3
     ·exact h0 j h1 h2 om
    all_goals(simp(disch:=decide) only[jb];assumption)
  ·obtain⟨h0,i0,i1⟩:=hI;repeat'(first|apply jc<;>intro _|simp(disch:=first|exact dzG|fail) only[r8,γ,δ,ζ,η,θ])
   exact G0.v (congrArg AV.bool (decide_eq_true (Qbi h λi h1 h2=>h0 i h1 h2 h1)).symm) rfl
theorem jkI (sv:List Int)(x:Ex):qX sv x=match qA sv x.kids with|none=>none|some ns=>opV sv x.op x.num ns:=by cases x;rw[qX];rfl
theorem Wu {sv:List Int}:∀ {xs ys:List Ex} {ns:List Int},qA sv xs=some ns->qA sv (xs ++ ys)=match qA sv ys with|none=>none|some ms=>some (ns ++ ms)
 |[],ys,ns,h=>by
  rw[qA] at h;cases h;rw[Qal];cases qA sv ys<;>rfl
 |x :: xs,ys,ns,h=>by
  rw[qA] at h;rw[Qag,qA];cases h1:qX sv x with
  |none=>rw[h1] at h;cases h
  |some n=>
   rw[h1] at h;cases h2:qA sv xs with
   |none=>rw[h2] at h;cases h
   |some ms=>
    rw[h2] at h;cases h;rw[Wu h2];cases qA sv ys<;>rfl
theorem jkH {sv:List Int}{xs:List Ex}{k:Nat}{ns:List Int}{n:Int}(hk:k<xs.length)(h:qA sv (xs.take k)=some ns)(h2:qX sv xs[k]=some n):qA sv (xs.take (k+1))=some (ns ++ [n]):=by
 rw[yI hk,Wu h];simp[qA,h2]
theorem G2 {sv:List Int}{xs:List Ex}{k:Nat}{ns:List Int}(hk:k<xs.length)(h:qA sv (xs.take k)=some ns)(h2:qX sv xs[k]=none):qA sv xs=none:=by
 have e:xs=xs.take k ++ (xs[k] :: xs.drop (k+1)):=by rw[<-Qck hk,Qbp]
 rw[e,Wu h];simp[qA,h2]
set_option maxHeartbeats 8000000 in
theorem jeQ (hb:NB base)(sv:List Int)(hs:sv.length<=1099511627776):∀ x:Ex,szE x<=BIG->PL ε base 16 [.agg (eE x),svV sv] (.ok (tpO (qX sv x))):=by
 refine Ex.indk λx ih hx=>?_;have hd:=jkI sv x;have hz:=X7 x;generalize hks:x.kids=ks at *;have hlen:=Yz ks;unfold BIG at *;unfold svV at *;refine zg jtq (by rfl) (hb.pur 16 5 dc) rfl ?_;simp only[jo4,jt,κ,μ,ν,ξ];rw[(by unfold jjH;simp only[qq];rfl:jjH=_)];repeat'(first|apply jc<;>intro _|simp(disch:=first|exact dzG|fail) only[hks,r8,γ,δ,ζ,η,θ])
 refine jZ ks.length (λk L s=>(∃ ns v,qA sv (ks.take k)=some ns/\ns.length=k/\Lv 1 s.nx s v k (ns.map (.int .i64)) 1/\Has L 6 v)/\1<=s.nx/\Cl s 0 (eE x)/\Has L 1 (.lst sv.length (sv.map (.int .i64)))/\Has L 2 (.ptr 0 0)/\Has L 12 (.lst ks.length (fl eE ks))) (by first|assumption|omega) dc (by simp(disch:=decide) only[jf,jb]) (by simp(disch:=decide) only[jf,jb]) ?_ (λk L s v h=>(by obtain⟨⟨ns,v,a1,a2,a3,a4⟩,a5,a6,a7,a8,a9⟩:=h;refine⟨⟨ns,v,a1,a2,a3,?_⟩,a5,a6,?_,?_,?_⟩<;>simp(disch:=decide) only[jb]<;>assumption)) (λk L s v h=>(by obtain⟨⟨ns,v,a1,a2,a3,a4⟩,a5,a6,a7,a8,a9⟩:=h;refine⟨⟨ns,v,a1,a2,a3,?_⟩,a5,a6,?_,?_,?_⟩<;>simp(disch:=decide) only[jb]<;>assumption)) (λk L s hk hI hi hn=>?_) (λL s hI=>?_)
 ·refine⟨⟨[],.nils,rfl,rfl,Lv.nil,?_⟩,by(first|omega|(simp only[ji,jo,ju,jr,jq];first|done|omega)),by(first|exact cyG|fail),?_,?_,?_⟩<;>simp(disch:=decide) only[jb,jf]
 ·obtain⟨⟨ns,v,h1,h2,V,i6⟩,n1,C0,i1,i2,i12⟩:=hI;have hk2:=Xy hk;have e:Tot base 16 [.agg (eE ks[k]),.lst sv.length (sv.map (.int .i64))] (tpO (qX sv ks[k])):=λst K Kp=>(ih ks[k] (Qac hk) om).pa (by simp[pa,pc,qZ,yb]) (λst=>hb.no 16 dc _ _) st K Kp;cases hv:qX sv ks[k] with
  |none=>
   rw[hv] at e;have e:Tot base 16 [.agg (eE ks[k]),.lst sv.length (sv.map (.int .i64))] (.tup [.int .i64 0,.bool false]):=e
   (have zz:=C0.r;(repeat'(first|apply jc<;>intro _|simp(disch:=first|exact jY|fail) only[ja i1,ja i2,ja i6,ja i12,ja hi,ja hn,e,C0.q,C0.r,r8,γ,δ,ζ,η,θ]));all_goals clear zz)
   exact ZJ (by rw[hd,G2 hk h1 hv];rfl) (by rw[hd,G2 hk h1 hv];rfl)
  |some n=>
   rw[hv] at e;have e:Tot base 16 [.agg (eE ks[k]),.lst sv.length (sv.map (.int .i64))] (.tup [.int .i64 n,.bool true]):=e;obtain⟨m,hm⟩:∃ m,m=s.nx:=⟨_,rfl⟩;rw[<-hm] at V;have A:=λst bv xc xx K h hv=>@JS 1 m k 1 st v (ns.map (.int .i64)) K 8 bv xc xx h dc om om hv;have V2:∀ st m',Lv 1 m st v k (ns.map (.int .i64)) 1->1<=st.nx->m'=st.nx+1->Lv 1 m' (aps v st [.int .i64 n]) (apv 1 v st) (k+1) ((ns ++ [n]).map (.int .i64)) 1:=λst m' h h2 h3=>by
    rw[Qbf];exact h.put rfl h2 h3
   (have zz:=aI V.ln (aI @jA (aI @jF (aI @V C0.r)));(repeat'(first|apply jc<;>intro _|simp(disch:=first|exact jY|fail) only[ja i1,ja i2,ja i6,ja i12,ja hi,ja hn,e,A,V.at,C0.q,V.ln,jA,jF,V,C0.r,r8,γ,δ,ζ,η,θ]));all_goals clear zz)
   refine⟨⟨⟨ns ++ [n],_,jkH hk h1 hv,by simp[h2],V2 _ _ ?_ ?_ ?_,?_⟩,?_,?_,?_,?_,?_⟩,?_,?_⟩;all_goals first
    |(simp(disch:=decide) only[jb,jf];done)
    |(simp(disch:=decide) only[jb];assumption)
    |(simp(disch:=first|decide|omega|(simp only[ji,jo];omega)) only[jH,jA,jF];exact V)
    |(simp(disch:=first|decide|omega|(simp only[ji,jo];omega)) only[V.cl,jB,jD];exact C0)
    |(simp only[ji,jo];done)
    |(simp only[ji,jo];omega)
    |omega
    |rfl
 ·obtain⟨⟨ns,v,h1,h2,V,i6⟩,n1,C0,i1,i2,i12⟩:=hI;rw[Qaf] at h1;rw[h1] at hd;dsimp only at hd;unfold opV at hd;rcases V with ⟨rfl,h0,_⟩|⟨b,rfl,h0,_,C,hb1,hb2⟩
  ·have hn0:ns=[]:=QbY.1 om;subst hn0;have z1:¬ ((0:Nat)=1):=dc
   by_cases g1:x.op=1\/x.op=2
   ·rw[if_pos ⟨rfl,g1⟩] at hd
    (have zz:=C0.r;(repeat'(first|apply jc<;>intro _|simp(disch:=first|exact jY|fail) only[ja i1,ja i2,ja i6,g1,C0.q,C0.r,r8,γ,δ,ζ,η,θ]));all_goals clear zz)
    all_goals first|exact ZJ (by rw[hd];rfl) (by rw[hd];rfl)|(exfalso;omega)
   ·rw[if_neg (λh=>g1 h.2)] at hd;by_cases g2:x.op=4/\0<=x.num/\x.num<(sv.length:Int)
    ·rw[if_pos ⟨rfl,g2⟩] at hd;obtain⟨g2,g3,g4⟩:=g2;have g5:x.num.toNat<sv.length:=om
     have eL:∀ (st:St) (K:AV->St->Prop),jp (q9 (.lptr (sv.map (AV.int .i64)) x.num.toNat) st) K=K (.int .i64 sv[x.num.toNat]) st:=λst K=>Jt g5
     (have zz:=C0.r;(repeat'(first|apply jc<;>intro _|simp(disch:=first|exact jY|fail) only[ja i1,ja i2,ja i6,g2,g3,g4,eL,C0.q,C0.r,r8,γ,δ,ζ,η,θ]));all_goals clear zz)
     all_goals first|exact ZJ (by rw[hd,Qam,Qai g5];rfl) (by rw[hd];rfl)|(exfalso;omega)
    ·rw[if_neg (λh=>g2 h.2),if_neg (λh=>by simp at h),if_neg (λh=>by simp at h),if_neg (by simp)] at hd
     (have zz:=C0.r;(repeat'(first|apply jc<;>intro _|simp(disch:=first|exact jY|fail) only[ja i1,ja i2,ja i6,C0.q,C0.r,r8,γ,δ,ζ,η,θ]));all_goals clear zz)
     all_goals first|exact ZJ (by rw[hd];rfl) (by rw[hd];rfl)|(exfalso;omega)
  ·have z0:¬ (ks.length:Int)=0:=om
   rw[if_neg (λh=>by omega),if_neg (λh=>by omega)] at hd;by_cases k1:ks.length=1
   ·have k1':(ks.length:Int)=1:=om
    have k2':¬ (ks.length:Int)=2:=om
    have f0:rat s.h b 0=.int .i64 (ns.getD 0 0):=by
     rw[C.cell 0 (by simp;omega)];simp[Qad,show 0<ns.length by omega]
    by_cases g5:x.op=5
    ·rw[if_pos ⟨om,g5⟩] at hd
     (have zz:=aI C.len C0.r;(repeat'(first|apply jc<;>intro _|simp(disch:=first|exact jY|fail) only[ja i1,ja i2,ja i6,z0,k1',g5,f0,jlV,C0.q,C.len,C0.r,r8,γ,δ,ζ,η,θ]));all_goals clear zz)
     all_goals first|exact ZJ (by rw[hd];rfl) (by rw[hd];rfl)
    ·rw[if_neg (λh=>g5 h.2)] at hd;by_cases g6:x.op=6
     ·rw[if_pos ⟨om,g6⟩] at hd
      (have zz:=aI C.len C0.r;(repeat'(first|apply jc<;>intro _|simp(disch:=first|exact jY|fail) only[ja i1,ja i2,ja i6,z0,k1',g5,g6,f0,jfc,C0.q,C.len,C0.r,r8,γ,δ,ζ,η,θ]));all_goals clear zz)
      all_goals first|exact ZJ (by rw[hd];rfl) (by rw[hd];rfl)
     ·rw[if_neg (λh=>g6 h.2),if_neg om] at hd
      (have zz:=C0.r;(repeat'(first|apply jc<;>intro _|simp(disch:=first|exact jY|fail) only[ja i1,ja i2,ja i6,z0,k1',k2',g5,g6,C0.q,C0.r,r8,γ,δ,ζ,η,θ]));all_goals clear zz)
      all_goals first|exact ZJ (by rw[hd];rfl) (by rw[hd];rfl)
   ·have k1':¬ (ks.length:Int)=1:=om
    rw[if_neg (λh=>by omega),if_neg (λh=>by omega)] at hd;by_cases k2:ks.length=2
    ·have k2':(ks.length:Int)=2:=om
     rw[if_pos om] at hd;have f0:rat s.h b 0=.int .i64 (ns.getD 0 0):=by
      rw[C.cell 0 (by simp;omega)];simp[Qad,show 0<ns.length by omega]
     have f1:rat s.h b 1=.int .i64 (ns.getD 1 0):=by
      rw[C.cell 1 (by simp;omega)];simp[Qad,show 1<ns.length by omega]
     have E2:=jsC hb x.op (ns.getD 0 0) (ns.getD 1 0);unfold tpO at E2
     (have zz:=aI C.len C0.r;(repeat'(first|apply jc<;>intro _|simp(disch:=first|exact jY|fail) only[ja i1,ja i2,ja i6,z0,k1',k2',f0,f1,E2,C0.q,C.len,C0.r,r8,γ,δ,ζ,η,θ]));all_goals clear zz)
     all_goals first|exact ZJ (by rw[hd]) (by rw[hd])
    ·have k2':¬ (ks.length:Int)=2:=om
     rw[if_neg om] at hd
     (have zz:=C0.r;(repeat'(first|apply jc<;>intro _|simp(disch:=first|exact jY|fail) only[ja i1,ja i2,ja i6,z0,k1',k2',C0.q,C0.r,r8,γ,δ,ζ,η,θ]));all_goals clear zz)
     all_goals first|exact ZJ (by rw[hd];rfl) (by rw[hd];rfl)
theorem jov (hb:NB base)(sv:List Int)(hs:sv.length<=1099511627776)(x:Ex)(hx:szE x<=BIG):Tot base 16 [.agg (eE x),svV sv] (tpO (qX sv x)):=λst K Kp=>(jeQ hb sv hs x hx).pa (by unfold svV;simp[pa,pc,qZ,yb]) (λst=>hb.no 16 dc _ _) st K Kp
theorem joD (hb:NB base)(sv:List Int)(hs:sv.length<=1099511627776)(x:Ex)(hx:szE x<=BIG):PL ε base 17 [.agg (eE x),svV sv] (.ok (.tup [.bool (decide (qX sv x=some 1)),.bool (qX sv x).isSome])):=by
 have e:=jov hb sv hs x hx;unfold tpO at e;unfold svV at *;refine zg jtp (by rfl) (hb.pur 17 5 dc) rfl ?_;simp only[jo3,jt,κ,μ,ν,ξ];rw[(by unfold jjG;simp only[qq];rfl:jjG=_)];cases hv:qX sv x with
 |none=>
  rw[hv] at e;repeat'(first|apply jc<;>intro _|simp(disch:=first|exact dzG|fail) only[e,r8,γ,δ,ζ,η,θ])
  exact FzD.tup (.cons (.pc rfl) (.cons (.pc rfl) .nil))
 |some n=>
  rw[hv] at e;have e:Tot base 16 [.agg (eE x),.lst sv.length (sv.map (.int .i64))] (.tup [.int .i64 n,.bool true]):=e;have e1:decide (some n=some 1)=decide (n=1):=by simp
  rw[e1];repeat'(first|apply jc<;>intro _|simp(disch:=first|exact dzG|fail) only[e,r8,γ,δ,ζ,η,θ])
  exact FzD.tup (.cons (.pc rfl) (.cons (.pc rfl) .nil))
theorem jnJ (s:List Int)(x:Ex):yT s x=if x.op=4 then s.getD x.num.toNat 0 else if x.kids.length=0 then x.num else Q6 x.op ((wz s x.kids).getD 0 0) ((wz s x.kids).getD (x.kids.length - 1) 0):=by cases x;rw[yT];rfl
theorem kM {s:List Int}:∀ {xs:List Ex} {i:Nat} (h:i<xs.length),(wz s xs).getD i 0=yT s xs[i]
 |x :: xs,0,h=>rfl
 |x :: xs,i+1,h=>by
  rw[wz,ξ,kM (by simpa using h)];rfl
set_option maxHeartbeats 8000000 in
theorem vq (hb:NB base)(sv:List Int)(hs:sv.length<=1099511627776):∀ x:Ex,szE x<=BIG->Yk sv.length x=true->Tot base 18 [.agg (eE x),svV sv] (.int .i64 (yT sv x)):=by
 refine Ex.indk λx ih hx hn=>?_;refine hb.tot ?_ (by unfold svV;simp[pa,pc,qZ,yb]) rfl;have hd:=jnJ sv x;have hz:=X7 x;rw[jk2,Qaa,KU,Qaj] at hn;obtain⟨hn1,hn2⟩:=hn;generalize hks:x.kids=ks at *;have hlen:=Yz ks;unfold BIG at *;unfold svV at *;refine jE jto (by rfl) (hb.pur 18 1 dc) ?_;simp only[jo2,jt,κ,μ,ν,ξ];rw[(by unfold jjF;simp only[qq];rfl:jjF=_)];by_cases h4:x.op=4
 ·have h5:0<=x.num/\x.num<(sv.length:Int):=by
   simp[h4] at hn1;omega
  obtain⟨h5,h6⟩:=h5;have h7:x.num.toNat<sv.length:=om
  have eL:∀ (st:St) (K:AV->St->Prop),jp (q9 (.lptr (sv.map (AV.int .i64)) x.num.toNat) st) K=K (.int .i64 sv[x.num.toNat]) st:=λst K=>Jt h7;repeat'(first|apply jc<;>intro _|simp(disch:=first|exact dzG|fail) only[hks,h4,eL,r8,γ,δ,ζ,η,θ])
  refine G0.v ?_ rfl;rw[hd,if_pos h4,Qam,Qai h7];rfl
 ·rw[if_neg h4] at hd;by_cases h0:ks.length=0
  ·have h0':(ks.length:Int)=0:=om
   rw[if_pos h0] at hd;repeat'(first|apply jc<;>intro _|simp(disch:=first|exact dzG|fail) only[hks,h4,h0',r8,γ,δ,ζ,η,θ])
   exact G0.v (by rw[hd]) rfl
  ·have h0':¬ (ks.length:Int)=0:=om
   rw[if_neg h0] at hd;have hp:0<ks.length:=om
   have hl:ks.length - 1<ks.length:=om
   have g0:=Xy hp;have g1:=Xy hl;have e0:=ih ks[0] (Qac hp) om (hn2 _ (Qac hp));have e1:=ih ks[ks.length - 1] (Qac hl) om (hn2 _ (Qac hl));have e9:((ks.length:Int) - 1).toNat=ks.length - 1:=om
   rw[kM hp,kM hl] at hd;have f0:∀ (st:St) (K:AV->St->Prop),jp (zr 6 (.lptr (fl eE ks) 0) st) K=K (.agg (eE ks[0])) st:=λst K=>by
    have:=J9 (enc:=eE) (z:=6) (st:=st) (K:=K) zK hp;rwa [QaN] at this
   have f1:∀ (st:St) (K:AV->St->Prop),jp (zr 6 (.lptr (fl eE ks) ((ks.length - 1) * 6)) st) K=K (.agg (eE ks[ks.length - 1])) st:=λst K=>J9 zK hl;generalize yT sv ks[0]=a at *;generalize yT sv ks[ks.length - 1]=b at *;have eW:wq ((ks.length:Int) - 1)=(ks.length:Int) - 1:=jr8 _ om om;repeat'(first|apply jc<;>intro _|simp(disch:=first|exact dzG|fail) only[hks,h4,h0',e0,e1,e9,eW,f0,f1,jlX,jfc,jlW,jlV,r8,γ,δ,ζ,η,θ])
   all_goals(refine G0.v ?_ rfl;rw[hd];simp[Q6,Qu, *])
end Go.Sy
end
noncomputable section
namespace Go.Sy
open Go.Ev Go.RowKit
def Lw (lo hi:Nat)(s:St)(v:AV)(n:Nat)(cs:List AV)(z:Nat):Prop:=∃ b ex,v=.slice b 0 n n z ex/\(ex=true->n=0)/\cs.length=n * z/\Cl s b cs/\lo<=b/\b<hi
theorem Lw.new {s:St}{z lo hi:Nat}(h1:lo<=s.nx)(h2:s.nx<hi):Lw lo hi (nw s []) (.slice s.nx 0 0 0 z true) 0 [] z:=⟨s.nx,true,rfl,λ_=>rfl,by simp,Cl.new s [],h1,h2⟩
theorem Lw.fz {lo hi n z m d:Nat}{s:St}{v:AV}{cs:List AV}(h:Lw lo hi s v n cs z)(hm:m<=lo)(hp:cs.all pc=true):FzD m (d+2) s v (.lst n cs):=by
 obtain⟨b,ex,rfl,_,h3,h4,h5,h6⟩:=h;refine FzD.slice h4.rw_ (QaU h3.symm) om ?_;rw[<-h3,Qaf];exact FzsD.pc hp
theorem Lw.nwO {lo hi n z:Nat}{s:St}{v:AV}{cs:List AV}(h:Lw lo hi s v n cs z)(ds:List AV):Lw lo hi (nw s ds) v n cs z:=by
 obtain⟨b,ex,h1,h2,h3,h4,h5,h6⟩:=h;exact⟨b,ex,h1,h2,h3,h4.nw ds,h5,h6⟩
structure ApL (lo:Nat)(s s':St):Prop where
 nx:s.nx<=s'.nx
 fr:s'.fr=s.fr
 cl:∀ c ds,c<lo->Cl s c ds->Cl s' c ds
theorem Lw.keep {lo hi lo2 n z:Nat}{s s':St}{v:AV}{cs:List AV}(h:Lw lo hi s v n cs z)(a:ApL lo2 s s')(hh:hi<=lo2):Lw lo hi s' v n cs z:=by
 obtain⟨b,ex,h1,h2,h3,h4,h5,h6⟩:=h;exact⟨b,ex,h1,h2,h3,a.cl b cs om h4,h5,h6⟩
theorem ApL.nwO (s:St)(ds:List AV):ApL s.nx s (nw s ds):=⟨by rw[ji];omega,by rw[WX],λc cs hc C=>C.nw ds⟩
theorem ApL.trans {lo lo2:Nat}{s t u:St}(a:ApL lo s t)(b:ApL lo2 t u)(h:lo<=lo2):ApL lo s u:=⟨Qab a.nx b.nx,b.fr.trans a.fr,λc ds hc C=>b.cl c ds om (a.cl c ds hc C)⟩
theorem jgs {lo hi n z n2 bytes:Nat}{s:St}{v:AV}{cs cs2:List AV}(h:Lw lo hi s v n cs z)(hhi:hi<=s.nx)(hl:cs2.length=n2 * z)(hz:0<z)(hby:(n+n2) * bytes<=140737488355328)(h63:n+n2<=9223372036854775807) :
  ∃ v' s',(∀ K:AV->St->Prop,jp (J7 z bytes v (.lst n2 cs2) s) K=K v' s')/\Lw lo s'.nx s' v' (n+n2) (cs ++ cs2) z/\ApL lo s s':=by
 obtain⟨b,ex,rfl,hex,h3,h4,h5,h6⟩:=h;obtain⟨m',zl',zz',ks',hg'⟩:=h4.row;have h4l:=h4.len;rw[zb hg'] at h4l;have e1:Qct (Qcv n2 z) (jP cs2)=true:=qG (by rw[jN];exact QaU hl.symm);have e2:yp cs2 (Qcv n2 z)=cs2:=by rw[qY];exact(by rw[show Qcv n2 z=cs2.length from hl.symm,Qaf])
 have e3:Qcr (jP cs2) (Qcv n2 z)=true:=Zk (by rw[jN];exact hl);by_cases h0:n2=0
 ·subst h0;have hc:cs2=[]:=QbY.1 om;subst hc;refine⟨_,s,λK=>?_,⟨b,ex,rfl,by simpa using hex,by simpa using h3,by simpa using h4,h5,om⟩,⟨τ _,rfl,λ_ _ _ c=>c⟩⟩;have e4:Qct (Qcu n 0) n=true:=qG (τ _);have e5:Qcr 0 0=true:=rfl;simp only[J7,Jk,firstCells,e1,cond_true,e2,q7,e3,hg',yo,jG,e4,e5,jp];rfl
 ·have e4:Qct (Qcu n n2) n=false:=ja9 (by show n<n+n2;omega);have e5:Qct (Qcv (Qcu n n2) bytes) 140737488355328=true:=qG hby;have e6:Qct (Qcu n n2) 9223372036854775807=true:=qG h63;cases ex with
  |true=>
   have hn:=hex rfl;subst hn;have hc:cs=[]:=QbY.1 om;subst hc;have e7:Qct (Qcu 0 (Qcv 0 z)) m'=true:=qG (by show 0+0 * z<=m';omega);have e8:jQ zl' zz' ks' (Qcv 0 z) 0=[]:=by rw[qu,show Qcv 0 z=0 from QaN z];rfl
   have e9:yV [] cs2=cs2:=by rw[yz];rfl
   refine⟨.slice s.nx 0 (0+n2) (0+n2) z false,nw s cs2,λK=>?_,⟨s.nx,false,rfl,(λh=>by cases h),by rw[Qal,hl,Qak],Cl.new s _,om,by rw[ji];omega⟩,⟨by rw[ji];omega,by rw[WX],λc ds hc C=>C.nw _⟩⟩;simp only[J7,Jk,firstCells,e1,cond_true,e2,q7,e3,hg',yo,jG,e4,e5,e6,cond_false,e7,e8,e9,St.alloc_eq,jp];conv=>rhs;unfold nw
   rw[show Qcv (Qcu 0 n2) z=cs2.length by rw[hl];exact congrArg (· * z) (Qak n2)];rfl
  |false=>
   have e7:Qcr z z=true:=Zk rfl;have e8:Qcr 0 0=true:=rfl;have e9:Qcr (Qcv n z) m'=true:=Zk (by rw[h4l,h3];rfl);have e10:Qcv (Qcu n n2) z=m'+cs2.length:=by rw[hl,h4l,h3];exact QaH n n2 z
   have ea:ap s b cs2=⟨s.nx+1,(qf (jM s.nx)).run (.row (m'+cs2.length) zl' zz' (qw cs2 ks' m')) ((qf (jM b)).run .dead s.h),min s.dirty b,s.fr⟩:=by
    unfold ap apO;rw[hg']
   have hne:b≠s.nx:=om
   refine⟨.slice s.nx 0 (n+n2) (n+n2) z false,ap s b cs2,λK=>?_,⟨s.nx,false,rfl,(λh=>by cases h),by rw[ψ,h3,hl,QaH],h4.ap cs2,om,by rw[ea];exact Qbo _⟩,⟨by rw[ea];exact Nat.le_succ _,by rw[ea],λc ds hc C=>C.apO om⟩⟩;simp only[J7,Jk,firstCells,e1,cond_true,e2,q7,e3,hg',yo,jG,e4,e5,e6,cond_false,e7,e8,e9,St.put_eq,St.alloc_eq,jp];rw[e10,ea];rfl
end Go.Sy
end
noncomputable section
set_option maxRecDepth 100000
namespace Go.Sy
open Go.Ev Go.Proofs
variable {base:Bs}
structure CloneP (base:Bs):Prop where
 zero:∀ st,base.run 49 [.lst 0 []] st=.ok (.lst 0 []) st
 more:∀ n cs st,base.run 49 [.lst (n+1) cs] st=.no
 live:∀ c n m x st,base.run 49 [.slice c 0 n m 1 x] st=.no
def OutV (lo:Nat)(s:St)(v:AV)(out:List Int):Prop:=(out=[]/\v=.lst 0 [])\/∃ b ex,v=.slice b 0 out.length out.length 1 ex/\Cl s b (out.map (.int .i64))/\lo<=b
theorem OutV.fz {lo m d:Nat}{s:St}{v:AV}{out:List Int}(h:OutV lo s v out)(hm:m<=lo):FzD m (d+2) s v (svV out):=by
 rcases h with ⟨rfl,rfl⟩|⟨b,ex,rfl,C,hl⟩
 ·exact FzD.pa rfl
 ·refine FzD.slice C.rw_ (by simp) om ?_;rw[Qbg,<-Qap (f:=AV.int .i64),Qaf];exact FzsD.pc (yb _)
theorem OutV.nwO {lo:Nat}{s:St}{v:AV}{out:List Int}(h:OutV lo s v out)(ds:List AV):OutV lo (Go.Sy.nw s ds) v out:=h.imp id λ⟨b,ex,h1,h2,h3⟩=>⟨b,ex,h1,h2.nw ds,h3⟩
theorem ApL.refl (lo:Nat)(s:St):ApL lo s s:=⟨τ _,rfl,λ_ _ _ c=>c⟩
theorem ApL.nw2 {lo:Nat}{s t:St}(a:ApL lo s t)(ds:List AV):ApL lo s (Go.Sy.nw t ds):=⟨by have:=a.nx;rw[ji];omega,a.fr,λc cs hc C=>(a.cl c cs hc C).nw ds⟩
theorem ApL.wr2 {lo b:Nat}{s t:St}(a:ApL lo s t)(hb:lo<=b)(o:Nat)(vs:List AV):ApL lo s (Go.Sy.wr t b o vs):=⟨a.nx,a.fr,λc cs hc C=>(a.cl c cs hc C).wrO om o vs⟩
theorem ApL.to {lo lo2:Nat}{s t u:St}(a:ApL lo s t)(b:ApL lo2 t u)(h:lo<=lo2):ApL lo s u:=a.trans b h
def V1 (p:Nat)(st:St)(v:AV)(sv:List Int):Prop:=v=svV sv\/∃ c ex,v=.slice c 0 sv.length sv.length 1 ex/\Cl st c (sv.map (.int .i64))/\c<p
section
variable {p:Nat} {s t:St} {v:AV} {sv:List Int}
theorem V1.lend (h:V1 p s v sv):lend s.h v=some (svV sv):=by
 rcases h with rfl|⟨c,ex,rfl,C,_⟩
 ·exact Gv (by unfold svV;simp[pa,pc,yb])
 ·exact WQ C (by simp) (yb _)
theorem V1.keep (h:V1 p s v sv){lo:Nat}(a:ApL lo s t)(hp:p<=lo):V1 p t v sv:=h.imp id λ⟨c,ex,e,C,hc⟩=>⟨c,ex,e,a.cl c _ om C,hc⟩
theorem V1.bar (h:V1 p s v sv):V1 p s.bare v sv:=h.imp id λ⟨c,ex,e,C,hc⟩=>⟨c,ex,e,⟨C.lt,C.row,C.len,C.cell⟩,hc⟩
theorem V1.len {K:AV->St->Prop}(h:V1 p s v sv)(st:St):jp (lenV v st) K=K (.int .i64 (sv.length:Int)) st:=by
 rcases h with rfl|⟨c,ex,rfl,_⟩<;>rfl
theorem V1.wr (h:V1 p s v sv){b:Nat}(hb:p<=b)(o:Nat)(vs:List AV):V1 p (Go.Sy.wr s b o vs) v sv:=h.imp id λ⟨c,ex,e,C,hc⟩=>⟨c,ex,e,C.wrO om o vs,hc⟩
theorem V1.nw (h:V1 p s v sv)(ds:List AV):V1 p (Go.Sy.nw s ds) v sv:=h.imp id λ⟨c,ex,e,C,hc⟩=>⟨c,ex,e,C.nw ds,hc⟩
theorem jmK {st s:St}{v u:AV}{K:AV->St->Prop}(F:FzD st.nx 9 s v u)(a:ApL st.nx st.bare s)(hK:∀ s',ApL st.nx st s'->K u s'):∃ u ks,fz 9 s.h v=some (u,ks)/\K u (back st (kills ks s)):=by
 obtain⟨ks,e,h⟩:=F;have hn:st.bare.nx=st.nx:=rfl;refine⟨u,ks,e,hK _ ⟨a.nx,rfl,λc cs hc C=>?_⟩⟩;rw[jeH];exact(a.cl c cs hc ⟨C.lt,C.row,C.len,C.cell⟩).kills λhm=>by have:=h c hm;omega
end
theorem jun {lo hi n z n2 bytes:Nat}{s:St}{v x:AV}{cs cs2:List AV}(h:Lw lo hi s v n cs z)(h1:∀ k:Nat->ER,Jk x k=k n2)(h2:∀ k:List AV->ER,firstCells s z n2 x k=k cs2)(hhi:hi<=s.nx)(hl:cs2.length=n2 * z)(hz:0<z)(hby:(n+n2) * bytes<=140737488355328)(h63:n+n2<=9223372036854775807) :
  ∃ v' s',(∀ K:AV->St->Prop,jp (J7 z bytes v x s) K=K v' s')/\Lw lo s'.nx s' v' (n+n2) (cs ++ cs2) z/\ApL lo s s':=by
 obtain⟨v',s',e,r1,r2⟩:=jgs (bytes:=bytes) (n2:=n2) (cs2:=cs2) h hhi hl hz hby h63;refine⟨v',s',λK=>?_,r1,r2⟩;rw[<-e K];have e1:Qct (Qcv n2 z) (jP cs2)=true:=qG (by rw[jN];exact QaU hl.symm);have e2:yp cs2 (Qcv n2 z)=cs2:=by rw[qY];exact(by rw[show Qcv n2 z=cs2.length from hl.symm,Qaf])
 unfold J7;rw[h1,h2];simp only[Jk,firstCells,e1,cond_true,e2]
theorem V1.app {p b lo2:Nat}{s:St}{x:AV}{l:List Int}(h:V1 p s x l)(C:Cl s b [])(h1:lo2<=b)(hl:l.length<=1000000000000) :
  ∃ v' s',(∀ K:AV->St->Prop,jp (J7 1 8 (.slice b 0 0 0 1 true) x s) K=K v' s')/\Lw lo2 s'.nx s' v' l.length (l.map (.int .i64)) 1/\ApL lo2 s s':=by
 have w:Lw lo2 s.nx s (.slice b 0 0 0 1 true) 0 [] 1:=⟨b,true,rfl,λ_=>rfl,rfl,C,h1,C.lt⟩;have done:(∀ k:Nat->ER,Jk x k=k l.length)->(∀ k:List AV->ER,firstCells s 1 l.length x k=k (l.map (.int .i64)))->∃ v' s',(∀ K:AV->St->Prop,jp (J7 1 8 (.slice b 0 0 0 1 true) x s) K=K v' s')/\Lw lo2 s'.nx s' v' l.length (l.map (.int .i64)) 1/\ApL lo2 s s':=λq1 q2=>by
  obtain⟨v',s',e,r1,r2⟩:=jun (bytes:=8) w q1 q2 (τ _) (by simp) dc om om;rw[Qak,Qal] at r1;exact⟨v',s',e,r1,r2⟩
 rcases h with rfl|⟨c,ex,rfl,D,_⟩
 ·have e1:Qct (Qcv l.length 1) (jP (l.map (AV.int .i64)))=true:=qG (by rw[jN,Qap];exact QaU (Qbg _));have e2:yp (l.map (AV.int .i64)) (Qcv l.length 1)=l.map (AV.int .i64):=by rw[qY,show Qcv l.length 1=(l.map (AV.int .i64)).length from by rw[Qap];exact Qbg _,Qaf]
  exact done (λk=>rfl) λk=>by unfold svV;simp only[firstCells,e1,cond_true,e2]
 ·obtain⟨m',zl',zz',ks',hg'⟩:=D.row;have h4l:=D.len;rw[zb hg',Qap] at h4l;have e1:Qcv l.length 1=l.length:=Qbg _;have e7:Qct (Qcu 0 l.length) m'=true:=qG (by show 0+l.length<=m';omega);have e8:jQ zl' zz' ks' l.length 0=l.map (.int .i64):=by
   have h:=D.rats0 (Qap ..);rw[QZ] at h;rw[qu,<-h];exact QaY λi _=>by rw[Qm hg']
  exact done (λk=>rfl) λk=>by simp only[firstCells,hg',yo,jG,e1,e7,cond_true,e8]
theorem jeG (hb:NB base)(hC:CloneP base){sv:List Int}(hs:sv.length<=1000000000000){p:Nat}{st:St}{x:AV}(V:V1 p st x sv){K Kp:AV->St->Prop}(hK:∀ v s',OutV st.nx s' v sv->ApL st.nx st s'->K v s'):XB ε base 49 [x] st K Kp:=by
 by_cases h0:x=.lst 0 []
 ·have e:sv=[]:=by
   rcases V with h|⟨c,ex,h,_⟩
   ·rw[h0] at h;unfold svV at h;cases sv with
    |nil=>rfl
    |cons y ys=>cases h
   ·rw[h0] at h;cases h
  subst h0;have E:=Ur (P:=ε) (base:=base) (hC.zero st) K Kp;refine Eq.mpr E ?_;rw[Un];exact hK _ _ (.inl ⟨e,rfl⟩) (ApL.refl _ _)
 ·have hno:base.run 49 [x] st.bare=.no:=by
   rcases V with rfl|⟨c,ex,rfl,_⟩
   ·cases sv with
    |nil=>exact absurd rfl h0
    |cons y ys=>exact hC.more _ _ _
   ·exact hC.live _ _ _ _ _
  have hno2:base.run 49 [x] st=.no:=by
   rcases V with rfl|⟨c,ex,rfl,_⟩
   ·cases sv with
    |nil=>exact absurd rfl h0
    |cons y ys=>exact hC.more _ _ _
   ·exact hC.live _ _ _ _ _
  have N:∀ s,QO ε .eql 30 true x .nils s=.ok (.bool false) s:=λs=>by
   rcases V with rfl|⟨c,ex,rfl,_⟩
   ·cases sv with
    |nil=>exact absurd rfl h0
    |cons y ys=>
     have:∀ (n:Nat) (cs:List AV),QO ε .eql 30 true (.lst (n+1) cs) .nils s=.ok (.bool false) s:=λn cs=>by kernel_rfl
     exact this _ _
   ·kernel_rfl
  refine Jf js7 (by rfl) ⟨hno2,hb.pur 49 0 dc⟩ ?_;simp only[joL,jt,κ,μ,ν,ξ];have hbn:st.bare.nx=st.nx:=rfl;obtain⟨v',s',e,w,q⟩:=((V.bar).nw []).app (lo2:=st.nx) (Cl.new st.bare []) (τ _) hs;have e:∀ K:AV->St->Prop,jp (J7 1 8 (.slice st.nx 0 0 0 1 true) x (nw st.bare [])) K=K v' s':=e;rw[(by unfold jjo;simp only[qq];rfl:jjo=_)];repeat'(first|apply jc<;>intro _|simp(disch:=first|exact dzG|fail) only[N,jaV,e,hbn,r8,γ,δ,ζ,η,θ])
  obtain⟨b,ex,rfl,hex,h3,C,h5,h6⟩:=w;refine hK _ _ (.inr ⟨b,ex,rfl,?_,h5⟩) ⟨?_,?_,λc ds hc D=>?_⟩
  ·exact⟨C.lt,C.row,C.len,C.cell⟩
  ·have:=q.nx;rw[ji] at this;show st.nx<=s'.nx;have e0:st.bare.nx=st.nx:=rfl;omega
  ·rfl
  ·have D0:Cl st.bare c ds:=⟨D.lt,D.row,D.len,D.cell⟩;have:=q.cl c ds hc (D0.nw []);exact⟨this.lt,this.row,this.len,this.cell⟩
theorem OutV.lend {lo:Nat}{s:St}{v:AV}{out:List Int}(h:OutV lo s v out):lend s.h v=some (svV out):=by
 rcases h with ⟨rfl,rfl⟩|⟨b,ex,rfl,C,_⟩
 ·exact Gv rfl
 ·exact WQ C (by simp) (yb _)
theorem Uv:∀ (l:List Int) (i:Nat) (n:Int),i<l.length->upd (l.map (AV.int .i64)) i [.int .i64 n]=(l.set i n).map (.int .i64)
 |x :: xs,0,n,_=>by simp[YY,ZH]
 |x :: xs,i+1,n,h=>by
  have:=Uv xs i n (by simpa using h);simp only[κ,List.set_cons_succ,ZI,this]
structure ModB (m:ModT):Prop where
 vars:m.vars.length<=1000000
 moves:m.moves.length<=1000000
 acts:∀ v∈m.moves,v.acts.length<=1000000/\szE v.when<=BIG/\∀ a∈v.acts,szE a.to<=BIG
theorem jsJ (mv:MoveT):((moE mv).drop 0).take 6=eE mv.when:=by
 unfold moE;rw[Qba,List.take_left' (zK _)]
theorem jbW {s:St}{b:Nat}{mv:MoveT}(C:Cl s b (moE mv)):rats s.h b 0 6=eE mv.when:=by
 rw[C.ratsP 6 0 (by rw[wB];decide),jsJ]
theorem uW (s:St)(a:SetT):rats (Go.Sy.wr (Go.Sy.nw s [.int .i64 0,.int .i64 0,.int .i64 0,.str [],.nils,.int .i64 0,.int .i64 0]) s.nx 0 (seE a)).h s.nx 1 6=eE a.to:=by
 have C:Cl (Go.Sy.wr (Go.Sy.nw s [.int .i64 0,.int .i64 0,.int .i64 0,.str [],.nils,.int .i64 0,.int .i64 0]) s.nx 0 (seE a)) s.nx (seE a):=(Cl.new s _).wr0 (by rw[Qb];rfl);rw[C.ratsP 6 1 (by rw[Qb];decide)];unfold seE;rw[List.drop_one,List.tail_cons,<-zK a.to,Qaf]
theorem ApL.bar {lo:Nat}{st s:St}(a:ApL lo st.bare s):ApL lo st.bare s.bare:=⟨a.nx,rfl,λc cs hc C=>have D:=a.cl c cs hc C;⟨D.lt,D.row,D.len,D.cell⟩⟩
theorem FzD.nil0 {m d:Nat}{s:St}:FzD m (d+1) s .nils (svV []):=FzD.nils
set_option maxHeartbeats 8000000 in
theorem jrq (hb:NB base)(hC:CloneP base)(m:ModT)(hm:m.vars.length<=1000000)(mv:MoveT)(ha:mv.acts.length<=1000000)(hw:szE mv.when<=BIG)(hto:∀ a∈mv.acts,szE a.to<=BIG)(sv:List Int)(hs:sv.length<=1000000000000){st:St}{x:AV}(V:V1 st.nx st x sv){K Kp:AV->St->Prop}(hK:∀ s',ApL st.nx st s'->K (.tup [svV (yP m.vars mv sv).1,.bool (yP m.vars mv sv).2]) s') :
  XB ε base 45 [.agg (mdE m),.agg (moE mv),x] st K Kp:=by
 have hd:yP m.vars mv sv=if qX sv mv.when=some 1 then(match Xz sv mv.acts sv with|none=>([],false)|some t=>(t,qg m.vars t)) else([],false):=rfl
 have hbn:st.bare.nx=st.nx:=rfl;have fin:∀ {s:St} {v:AV} {q:Bool},ApL st.nx st.bare s->FzD st.nx 8 s v (svV (yP m.vars mv sv).1)->q=(yP m.vars mv sv).2->∃ u ks,fz 9 s.h (.tup [v,.bool q])=some (u,ks)/\K u (back st (kills ks s)):=λa f e=>by
  subst e;exact jmK (FzD.tup (.cons f (.cons (.pc rfl) .nil))) a hK
 have C0:Cl (nw (nw st.bare (mdE m)) (moE mv)) st.nx (mdE m):=(Cl.new st.bare (mdE m)).nw _;have C1:Cl (nw (nw st.bare (mdE m)) (moE mv)) (st.nx+1) (moE mv):=Cl.new (nw st.bare (mdE m)) (moE mv);have A0:ApL st.nx st.bare (nw (nw st.bare (mdE m)) (moE mv)):=((ApL.refl st.nx st.bare).nw2 _).nw2 _;have V0:V1 st.nx (nw (nw st.bare (mdE m)) (moE mv)) x sv:=(V.bar.nw _).nw _;have EH:=λK Kp=>(joD hb sv om mv.when hw).xb (st:=nw (nw st.bare (mdE m)) (moE mv)) (aZ':=[.agg (eE mv.when),x]) (zU (by simp[pa,pc,qZ]) (qK V0.lend zJ)) (λst=>hb.no 17 dc _ _) K Kp;have fW:=jbW C1;have n0:(nw (nw st.bare (mdE m)) (moE mv)).nx=st.nx+2:=rfl;refine WU jtb (by rfl) (hb.pur 45 2 dc) (hb.no 45 dc _ _) ?_;simp only[joP,jt,κ,μ,ν,ξ];rw[(by unfold jjs;simp only[qq];rfl:jjs=_)];generalize hp:st.nx=p at *;by_cases h1:qX sv mv.when=some 1
 ·rw[h1] at EH;rw[if_pos h1] at hd;have EH:∀ K Kp,XB ε base 17 [.agg (eE mv.when),x] (nw (nw st.bare (mdE m)) (moE mv)) K Kp=K (.tup [.bool true,.bool true]) (nw (nw st.bare (mdE m)) (moE mv)):=by simpa[Jl] using EH
  repeat'(first|apply jc<;>intro _|simp(disch:=first|exact dzG|fail) only[hbn,fW,EH,Jl,r8,γ,δ,ζ,η,θ])
  refine jeG (sv:=sv) hb hC hs V0 λv u O q=>?_;have AU:=A0.to q om;have CU0:Cl u p (mdE m):=q.cl p _ (by rw[n0];omega) C0;have CU1:Cl u (p+1) (moE mv):=q.cl (p+1) _ (by rw[n0];omega) C1;have VU:=V0.keep q om;have n2:=q.nx;rw[n0] at O n2;clear fW EH q C0 C1 A0 V0
  (have zz:=aI @CU0.r @CU1.r;(repeat'(first|apply jc<;>intro _|simp(disch:=first|exact jY|fail) only[hbn,CU0.q,CU1.q,CU0.r,CU1.r,r8,γ,δ,ζ,η,θ]));all_goals clear zz)
  refine jZ mv.acts.length (λk L s=>(∃ out v,Xz sv mv.acts sv=Xz sv (mv.acts.drop k) out/\out.length=sv.length/\OutV (p+2) s v out/\Has L 10 v)/\ApL p st.bare s/\p+2<=s.nx/\Cl s p (mdE m)/\Cl s (p+1) (moE mv)/\V1 p s x sv/\Has L 2 x/\Has L 3 (.ptr p 0)/\Has L 4 (.ptr (p+1) 0)/\Has L 31 (.lst mv.acts.length (fl seE mv.acts))) (by first|assumption|omega) dc (by simp(disch:=decide) only[jf,jb]) (by simp(disch:=decide) only[jf,jb]) ?_ (λk L s v h=>(by obtain⟨⟨out,v,a1,a2,a3,a4⟩,b1,a5,a6,a7,b2,a8,a9,a10,a11⟩:=h;refine⟨⟨out,v,a1,a2,a3,?_⟩,b1,a5,a6,a7,b2,?_,?_,?_,?_⟩<;>simp(disch:=decide) only[jb]<;>assumption)) (λk L s v h=>(by obtain⟨⟨out,v,a1,a2,a3,a4⟩,b1,a5,a6,a7,b2,a8,a9,a10,a11⟩:=h;refine⟨⟨out,v,a1,a2,a3,?_⟩,b1,a5,a6,a7,b2,?_,?_,?_,?_⟩<;>simp(disch:=decide) only[jb]<;>assumption)) (λk L s hk hI hi hn=>?_) (λL s hI=>?_)
  ·refine⟨⟨sv,v,rfl,rfl,O,?_⟩,AU,n2,CU0,CU1,VU,?_,?_,?_,?_⟩<;>simp(disch:=decide) only[jb,jf]
  ·obtain⟨⟨out,v,h2,h3,O,i10⟩,AS,n2,C0,C1,VS,i2,i3,i4,i31⟩:=hI;have VS1:V1 p (Go.Sy.wr (Go.Sy.nw s [.int .i64 0,.int .i64 0,.int .i64 0,.str [],.nils,.int .i64 0,.int .i64 0]) s.nx 0 (seE mv.acts[k])) x sv:=(VS.nw _).wr om _ _;have AS1:ApL p st.bare (Go.Sy.wr (Go.Sy.nw s [.int .i64 0,.int .i64 0,.int .i64 0,.str [],.nils,.int .i64 0,.int .i64 0]) s.nx 0 (seE mv.acts[k])):=(AS.nw2 _).wr2 om _ _;have e:=λK Kp=>(jeQ hb sv om mv.acts[k].to (hto _ (Qac hk))).xb (st:=Go.Sy.wr (Go.Sy.nw s [.int .i64 0,.int .i64 0,.int .i64 0,.str [],.nils,.int .i64 0,.int .i64 0]) s.nx 0 (seE mv.acts[k])) (aZ':=[.agg (eE mv.acts[k].to),x]) (zU (by simp[pa,pc,qZ]) (qK VS1.lend zJ)) (λst=>hb.no 16 dc _ _) K Kp;have eL:=λ(t:St) (K:AV->St->Prop)=>VS.len (K:=K) t;have hdr:mv.acts.drop k=mv.acts[k] :: mv.acts.drop (k+1):=Qck hk;rw[hdr,Xz] at h2;simp only[Jl] at e;cases hv:qX sv mv.acts[k].to with
   |none=>
    rw[hv] at h2 e;have e:∀ K Kp,XB ε base 16 [.agg (eE mv.acts[k].to),x] (Go.Sy.wr (Go.Sy.nw s [.int .i64 0,.int .i64 0,.int .i64 0,.str [],.nils,.int .i64 0,.int .i64 0]) s.nx 0 (seE mv.acts[k])) K Kp=K (.tup [.int .i64 0,.bool false]) (Go.Sy.wr (Go.Sy.nw s [.int .i64 0,.int .i64 0,.int .i64 0,.str [],.nils,.int .i64 0,.int .i64 0]) s.nx 0 (seE mv.acts[k])):=e;rw[h2] at hd
    (have zz:=aI C0.r C1.r;(repeat'(first|apply jc<;>intro _|simp(disch:=first|exact jY|fail) only[ja i2,ja i3,ja i4,ja i10,ja i31,ja hi,ja hn,uW,e,eL,C0.q,C1.q,C0.r,C1.r,r8,γ,δ,ζ,η,θ]));all_goals clear zz)
    all_goals first|exact fin AS1.bar (by rw[hd];exact FzD.nil0) (by rw[hd])|exact fin AS1 (by rw[hd];exact FzD.nil0) (by rw[hd])
   |some n=>
    rw[hv] at h2 e;have e:∀ K Kp,XB ε base 16 [.agg (eE mv.acts[k].to),x] (Go.Sy.wr (Go.Sy.nw s [.int .i64 0,.int .i64 0,.int .i64 0,.str [],.nils,.int .i64 0,.int .i64 0]) s.nx 0 (seE mv.acts[k])) K Kp=K (.tup [.int .i64 n,.bool true]) (Go.Sy.wr (Go.Sy.nw s [.int .i64 0,.int .i64 0,.int .i64 0,.str [],.nils,.int .i64 0,.int .i64 0]) s.nx 0 (seE mv.acts[k])):=e;dsimp only at h2;by_cases g:mv.acts[k].var<0\/(sv.length:Int)<=mv.acts[k].var
    ·rw[if_pos g] at h2;rw[h2] at hd
     (have zz:=aI C0.r C1.r;(repeat'(first|apply jc<;>intro _|simp(disch:=first|exact jY|fail) only[ja i2,ja i3,ja i4,ja i10,ja i31,ja hi,ja hn,uW,e,eL,C0.q,C1.q,C0.r,C1.r,r8,γ,δ,ζ,η,θ]));all_goals clear zz)
     all_goals first|exact fin AS1.bar (by rw[hd];exact FzD.nil0) (by rw[hd])|exact fin AS1 (by rw[hd];exact FzD.nil0) (by rw[hd])|(exfalso;omega)
    ·rw[if_neg g] at h2;have g1:¬ mv.acts[k].var<0:=λh=>g (.inl h);have g2:¬ (sv.length:Int)<=mv.acts[k].var:=λh=>g (.inr h);rcases O with ⟨rfl,_⟩|⟨b,ex,rfl,C,hb2⟩
     ·simp at h3;omega
     ·have hbn:=C.lt;have hlen:qv s.h b=out.length:=by rw[C.len,Qap]
      have hz:mv.acts[k].var.toNat+1<=out.length:=om
      have gx:mv.acts[k].var<(out.length:Int):=om
      have gx0:0<=mv.acts[k].var:=om
      (have zz:=aI C0.r (aI C1.r C.r);(repeat'(first|apply jc<;>intro _|simp(disch:=first|exact jY|fail) only[ja i2,ja i3,ja i4,ja i10,ja i31,ja hi,ja hn,uW,e,eL,g1,g2,gx,C0.q,C1.q,C.q,C0.r,C1.r,C.r,r8,γ,δ,ζ,η,θ]));all_goals clear zz)
      have hC2:Cl (Go.Sy.wr (Go.Sy.wr (Go.Sy.nw s [.int .i64 0,.int .i64 0,.int .i64 0,.str [],.nils,.int .i64 0,.int .i64 0]) s.nx 0 (seE mv.acts[k])) b mv.acts[k].var.toNat [.int .i64 n]) b ((out.set mv.acts[k].var.toNat n).map (.int .i64)):=by
       rw[<-Uv _ _ _ om];exact((C.nw _).wrO om _ _).wr _ _
      refine⟨⟨⟨_,.slice b 0 out.length out.length 1 ex,h2,by simp[h3],.inr ⟨b,ex,by rw[Qbc],hC2,hb2⟩,?_⟩,AS1.wr2 om _ _,?_,?_,?_,VS1.wr om _ _,?_,?_,?_,?_⟩,?_,?_⟩;all_goals first
       |(simp(disch:=decide) only[jb,jf,Qbc];done)
       |(simp(disch:=decide) only[jb,Qbc];assumption)
       |(simp only[ji,jo];omega)
       |exact((C0.nw _).wrO om _ _).wrO om _ _
       |exact((C1.nw _).wrO om _ _).wrO om _ _
       |omega
  ·obtain⟨⟨out,v,h2,h3,O,i10⟩,AS,n2,C0,C1,VS,i2,i3,i4,i31⟩:=hI;rw[QbN,Xz] at h2;rw[h2] at hd;dsimp only at hd;have E25:=λK Kp=>(Wx hb m out hm om).xb (st:=s) (zU (by simp[pa,pc,zC]) (qK O.lend zJ)) (λst=>hb.no 25 dc _ _) K Kp;unfold mdE at E25
   (have zz:=aI C0.r C1.r;(repeat'(first|apply jc<;>intro _|simp(disch:=first|exact jY|fail) only[ja i2,ja i3,ja i4,ja i10,E25,Jl,C0.q,C1.q,C0.r,C1.r,r8,γ,δ,ζ,η,θ]));all_goals clear zz)
   first
    |exact fin AS.bar (by rw[hd];exact O.fz om) (by rw[hd])
    |exact fin AS (by rw[hd];exact O.fz om) (by rw[hd])
 ·have EH:∀ K Kp,XB ε base 17 [.agg (eE mv.when),x] (nw (nw st.bare (mdE m)) (moE mv)) K Kp=K (.tup [.bool false,.bool (qX sv mv.when).isSome]) (nw (nw st.bare (mdE m)) (moE mv)):=by simpa[Jl,h1] using EH
  rw[if_neg h1] at hd;repeat'(first|apply jc<;>intro _|simp(disch:=first|exact dzG|fail) only[hbn,fW,EH,Jl,r8,γ,δ,ζ,η,θ])
  all_goals first|exact fin A0.bar (by rw[hd];exact FzD.nil0) (by rw[hd])|exact fin A0 (by rw[hd];exact FzD.nil0) (by rw[hd])
abbrev SvT:=List Int
def svE (s:SvT):List AV:=[svV s]
theorem Ws (s:SvT):(svE s).length=1:=nr rfl
theorem jml (s:SvT)(k:Nat):(svE s).getD k .bad=([svV s]:List AV).getD k .bad:=nr rfl
theorem jmn (s:SvT)(k:Nat):(svE s).drop k=([svV s]:List AV).drop k:=nr rfl
theorem Ku (s:SvT):(svE s).all pc=true:=by simp[svE,jhj]
theorem jfi (s:SvT):lall AV.cell (svE s)=true:=nr rfl
theorem jmm {st:St}{K:AV->St->Prop}{xs:List SvT}{i:Nat}(h:i<xs.length):jp (zr 1 (.lptr (fl svE xs) (i * 1)) st) K=K (.agg (svE xs[i])) st:=J9 Ws h
theorem jhk {st:St}{K:AV->St->Prop}{xs:List SvT}{i:Nat}(h:i<xs.length){k:Nat}(hk:k<1):jp (q9 (.lptr (fl svE xs) (i * 1+k)) st) K=K ((svE xs[i]).getD k .bad) st:=ye Ws h hk
theorem jbH {st:St}{K:AV->St->Prop}{xs:List SvT}{i:Nat}(h:i<xs.length):jp (q9 (.lptr (fl svE xs) (i * 1)) st) K=K ((svE xs[i]).getD 0 .bad) st:=ye (k:=0) Ws h dc
theorem jS:type_of% (aI @Ws (aI @jml (aI @jmn (aI @jfi (aI @jmm (aI @jbH @jhk)))))):=aI @Ws (aI @jml (aI @jmn (aI @jfi (aI @jmm (aI @jbH @jhk)))))
theorem jam {ls:List SvT}{k:Nat}{st:St}{K:AV->St->Prop}(h:k<ls.length):jp (q9 (.lptr (fl svE ls) k) st) K=K (svV ls[k]) st:=by
 have:=jbH (st:=st) (K:=K) h;rw[Qbg] at this;exact this
theorem jrk (hb:NB base)(a b:List Int)(ha:a.length<=1099511627776)(hb2:b.length<=1099511627776):Tot base 48 [svV a,svV b] (.bool (decide (a=b))):=hb.tot (jog hb a b ha hb2) rfl rfl
theorem r11:type_of%(aI @je (aI @jh (aI @jg (aI @jd (aI @jj (aI @jk (aI @jm (aI @jn (aI @jl (aI @jS @rzZ)))))))))):=aI @je (aI @jh (aI @jg (aI @jd (aI @jj (aI @jk (aI @jm (aI @jn (aI @jl (aI @jS @rzZ)))))))))
theorem jsI (hb:NB base)(a b:List Int)(ha:a.length<=1099511627776)(hb2:b.length<=1099511627776):Tot base 47 [svV a,.lptr [svV b] 0] (.bool (decide (a=b))):=by
 refine hb.tot ?_ (by unfold svV;simp[pa,pc,yb]) rfl;have e:=jrk hb a b ha hb2;generalize svV a=va at *;generalize svV b=vb at *;refine jE js9 (by rfl) (hb.pur 47 1 dc) ?_;simp only[joN,jt,κ,μ,ν,ξ];rw[(by unfold jjq;simp only[qq];rfl:jjq=_)];repeat'(first|apply jc<;>intro _|simp(disch:=first|exact dzG|fail) only[Jd,e,r11,γ,δ,ζ,η,θ])
 exact G0.v rfl rfl
theorem jsR (hb:NB base)(a b:List Int)(ha:a.length<=1099511627776)(hb2:b.length<=1099511627776):Tot base 51 [svV a,.lptr [svV b] 0] (.bool (decide (a=b))):=by
 refine hb.tot ?_ (by unfold svV;simp[pa,pc,yb]) rfl;have e:=jrk hb a b ha hb2;generalize svV a=va at *;generalize svV b=vb at *;refine jE js5 (by rfl) (hb.pur 51 1 dc) ?_;simp only[joJ,jt,κ,μ,ν,ξ];rw[(by unfold jjm;simp only[qq];rfl:jjm=_)];repeat'(first|apply jc<;>intro _|simp(disch:=first|exact dzG|fail) only[Jd,e,r11,γ,δ,ζ,η,θ])
 exact G0.v rfl rfl
theorem jsM (hb:NB base)(f:Nat)(ls:List SvT)(hl:ls.length<=BIG)(t:SvT)(hf:∀ x∈ls,Tot base f [svV x,.lptr [svV t] 0] (.bool (decide (x=t)))):PL ε base 63 [.lst ls.length (fl svE ls),.fn f [.lptr [svV t] 0]] (.ok (.int .i64 (fi (λx=>decide (x=t)) ls))):=by
 refine zg js4 (by rfl) (hb.pur 63 5 dc) rfl ?_;simp only[joI,jt,κ,μ,ν,ξ];rw[(by unfold jjl;simp only[qq];rfl:jjl=_)];unfold BIG at hl;repeat'(first|apply jc<;>intro _|simp(disch:=first|exact dzG|fail) only[r11,γ,δ,ζ,η,θ])
 refine jZ ls.length (λk L s=>(∀ j (hj:j<ls.length),j<k->(λx=>decide (x=t)) ls[j]=false)/\Has L 0 (.lst ls.length (fl svE ls))/\Has L 1 (.fn f [.lptr [svV t] 0])) (by first|assumption|omega) dc (by simp(disch:=decide) only[jf,jb]) (by simp(disch:=decide) only[jf,jb]) ?_ (λk L s v h=>by simp(disch:=decide) only[jb];exact h) (λk L s v h=>by simp(disch:=decide) only[jb];exact h) (λk L s hk hI hi hn=>?_) (λL s hI=>?_)
 ·refine⟨λj _ hj=>absurd hj (Qaw _),?_⟩;simp(disch:=decide) only[h12]
 ·obtain⟨h0,i0,i1⟩:=hI;have e:=hf ls[k] (Qac hk);repeat'(first|apply jc<;>intro _|simp(disch:=first|exact dzG|fail) only[ja i0,ja i1,ja hi,ja hn,jam,e,r11,γ,δ,ζ,η,θ])
  ·rename_i h;exact G0.v (congrArg _ (ui hk (λj hj=>h0 j om hj) (by simpa using h)).symm) rfl
  ·rename_i h;refine⟨⟨λj hj hjk=>?_,?_⟩,?_⟩
   ·rcases Qau j k with h2|h2
    ·have:=h0 j hj h2;simpa using this
    ·have:j=k:=om
     subst this;simpa using h
   ·simp(disch:=decide) only[h12,i0,i1]
   ·simp(disch:=decide) only[h12,hi,hn]
 ·obtain⟨h0,i0,i1⟩:=hI;repeat'(first|apply jc<;>intro _|simp(disch:=first|exact dzG|fail) only[r11,γ,δ,ζ,η,θ])
  exact G0.v (congrArg _ (uh λj hj=>h0 j hj hj).symm) rfl
theorem jiD {t:SvT}:∀ {ls:List SvT},decide (0<=fi (λx=>decide (x=t)) ls)=decide (t∈ls)
 |[]=>by simp[fi]
 |x :: xs=>by
  have ih:=jiD (t:=t) (ls:=xs);by_cases h:x=t
  ·simp[fi,h]
  ·have h2:t∈x :: xs↔t∈xs:=by simp[Ne.symm h]
   rw[decide_eq_decide] at ih ⊢;rw[h2,<-ih];have e:fi (λx=>decide (x=t)) (x :: xs)=if fi (λx=>decide (x=t)) xs<0 then -1 else fi (λx=>decide (x=t)) xs+1:=by simp[fi,h]
   rw[e];split<;>omega
theorem jsO (hb:NB base)(f:Nat)(ls:List SvT)(hl:ls.length<=BIG)(t:SvT)(hf:∀ x∈ls,Tot base f [svV x,.lptr [svV t] 0] (.bool (decide (x=t)))):PL ε base 46 [.lst ls.length (fl svE ls),.fn f [.lptr [svV t] 0]] (.ok (.bool (decide (t∈ls)))):=by
 refine zg jta (by rfl) (hb.pur 46 5 dc) rfl ?_;simp only[joO,jt,κ,μ,ν,ξ];rw[(by unfold jjr;simp only[qq];rfl:jjr=_)];have e:∀ (st:St) (K Kp:AV->St->Prop),XB ε base 63 [.lst ls.length (fl svE ls),.fn f [.lptr [svV t] 0]] st K Kp=_:=λst K Kp=>(jsM hb f ls hl t hf).xb (zU (by simp[pa,pc,yZ Ku]) (qK rfl rfl)) (λst=>hb.no 63 dc _ _) K Kp;have:=jiD (ls:=ls) (t:=t);repeat'(first|apply jc<;>intro _|simp(disch:=first|exact dzG|fail) only[e,r11,γ,δ,ζ,η,θ])
 exact G0.v (congrArg AV.bool this) rfl
theorem Ht {vars:List VarT}{sv:List Int}:∀ {xs ys:List MoveT} {out:List (List Int)},yB vars sv (xs ++ ys) out=yB vars sv ys (yB vars sv xs out)
 |[],ys,out=>rfl
 |x :: xs,ys,out=>by rw[Qag,yB,yB,Ht]
theorem jea {vars:List VarT}{sv:List Int}{xs:List MoveT}{k:Nat}(hk:k<xs.length){out:List (List Int)}(h:yB vars sv (xs.take k) []=out):yB vars sv (xs.take (k+1)) []=if(yP vars xs[k] sv).2=true/\(yP vars xs[k] sv).1∉out then out ++ [(yP vars xs[k] sv).1] else out:=by
 rw[yI hk,Ht,h,yB,yB]
theorem jmX (hb:NB base)(f:Nat)(ls:List SvT)(hl:ls.length<=BIG)(t:SvT)(hf:∀ x∈ls,Tot base f [svV x,.lptr [svV t] 0] (.bool (decide (x=t)))){v:AV}{st:St}{q n:Nat}(hn:n=ls.length)(h:Lr st v n (fl svE ls))(C:Cl st q [svV t])(K Kp:AV->St->Prop) :
  XB ε base 46 [v,.fn f [.ptr q 0]] st K Kp=K (.bool (decide (t∈ls))) st:=by
 subst hn;refine(jsO hb f ls hl t hf).xb (qK (h.lend (yZ Ku ls)) (qK ?_ zJ)) (λst=>hb.no 46 dc _ _) K Kp;show(Qo st.h [.ptr q 0]).map (AV.fn f)=_;have:ZS st.h (.ptr q 0)=some (.lptr (svE t) 0):=vC C (VW (Ku t) (jfi t));simp only[Qo,this];rfl
theorem V1.up {p q:Nat}{s:St}{v:AV}{sv:List Int}(h:V1 p s v sv)(hq:p<=q):V1 q s v sv:=h.imp id λ⟨c,ex,e,C,hc⟩=>⟨c,ex,e,C,om⟩
theorem Lv.apl {lo hi lo2 n z:Nat}{s s':St}{v:AV}{cs:List AV}(h:Lv lo hi s v n cs z)(a:ApL lo2 s s')(hh:hi<=lo2):Lv lo hi s' v n cs z:=h.imp id λ⟨c,h1,h2,h3,h4,h5,h6⟩=>⟨c,h1,h2,h3,a.cl c _ om h4,h5,h6⟩
set_option maxHeartbeats 8000000 in
theorem jjg (hb:NB base)(hC:CloneP base)(m:ModT)(B:ModB m)(sv:SvT)(hs:sv.length<=1000000000000){st:St}{x:AV}(V:V1 st.nx st x sv){K Kp:AV->St->Prop}(hK:∀ s',ApL st.nx st s'->K (.lst (zo m sv).length (fl svE (zo m sv))) s'):XB ε base 27 [.agg (mdE m),x] st K Kp:=by
 have hm:=B.vars;have hmv:=B.moves;have hd:zo m sv=if qg m.vars sv=true then(if(yB m.vars sv m.moves []).length=0 then [sv] else yB m.vars sv m.moves []) else []:=rfl
 have hbn:st.bare.nx=st.nx:=rfl;have fin:∀ {s:St} {v:AV},ApL st.nx st.bare s->FzD st.nx 9 s v (.lst (zo m sv).length (fl svE (zo m sv)))->∃ u ks,fz 9 s.h v=some (u,ks)/\K u (back st (kills ks s)):=λa f=>jmK f a hK;have C0:Cl (nw st.bare (mdE m)) st.nx (mdE m):=Cl.new st.bare (mdE m);have A0:ApL st.nx st.bare (nw st.bare (mdE m)):=(ApL.refl st.nx st.bare).nw2 _;have V0:V1 st.nx (nw st.bare (mdE m)) x sv:=V.bar.nw _;have E25:=λK Kp=>(Wx hb m sv hm om).xb (st:=nw st.bare (mdE m)) (aZ':=[.agg (mdE m),x]) (zU (by simp[pa,pc,zC]) (qK V0.lend zJ)) (λst=>hb.no 25 dc _ _) K Kp;have n0:(nw st.bare (mdE m)).nx=st.nx+1:=rfl;refine WU jtj (by rfl) (hb.pur 27 2 dc) (hb.no 27 dc _ _) ?_;simp only[joX,jt,κ,μ,ν,ξ];rw[(by unfold jjA;simp only[qq];rfl:jjA=_)];generalize hp:st.nx=p at *;cases hr:qg m.vars sv with
 |false=>
  rw[hr] at E25 hd;rw[if_neg dc] at hd;repeat'(first|apply jc<;>intro _|simp(disch:=first|exact dzG|fail) only[hbn,E25,Jl,r11,γ,δ,ζ,η,θ])
  all_goals exact fin (by assumption) (by rw[hd];exact FzD.nils)
 |true=>
  rw[hr] at E25 hd;rw[if_pos rfl] at hd;repeat'(first|apply jc<;>intro _|simp(disch:=first|exact dzG|fail) only[hbn,E25,Jl,r11,γ,δ,ζ,η,θ])
  refine jZ m.moves.length (λk L s=>(∃ out v,yB m.vars sv (m.moves.take k) []=out/\out.length<=k/\Lv (p+1) s.nx s v out.length (fl svE out) 1/\Has L 5 v)/\ApL p st.bare s/\p+1<=s.nx/\Cl s p (mdE m)/\V1 p s x sv/\Has L 1 x/\Has L 2 (.ptr p 0)/\Has L 15 (.lst m.moves.length (fl moE m.moves))) (by first|assumption|omega) dc (by simp(disch:=decide) only[jf,jb]) (by simp(disch:=decide) only[jf,jb]) ?_ (λk L s v h=>(by obtain⟨⟨out,v,a1,a2,a3,a4⟩,b1,b2,b3,b4,a7,a8,a9⟩:=h;refine⟨⟨out,v,a1,a2,a3,?_⟩,b1,b2,b3,b4,?_,?_,?_⟩<;>simp(disch:=decide) only[jb]<;>assumption)) (λk L s v h=>(by obtain⟨⟨out,v,a1,a2,a3,a4⟩,b1,b2,b3,b4,a7,a8,a9⟩:=h;refine⟨⟨out,v,a1,a2,a3,?_⟩,b1,b2,b3,b4,?_,?_,?_⟩<;>simp(disch:=decide) only[jb]<;>assumption)) (λk L s hk hI hi hn=>?_) (λL s hI=>?_)
  ·refine⟨⟨[],.nils,rfl,τ _,Lv.nil,?_⟩,A0,om,C0,V0,?_,?_,?_⟩<;>simp(disch:=decide) only[jb,jf]
  ·obtain⟨⟨out,v,h1,h2,VL,i5⟩,AS,n1,CS,VS,i1,i2,i15⟩:=hI;have b:=B.acts m.moves[k] (Qac hk);have hS:=jea hk h1;have hR:(yP m.vars m.moves[k] sv).2=true->qg m.vars (yP m.vars m.moves[k] sv).1=true:=λh=>wM (mv:=m.moves[k]) (s:=sv) (by rw[<-h]);have hO:∀ x∈out,x.length=m.vars.length:=λx hx=>by
    rw[<-h1] at hx;rcases YM hx with h|⟨w,_,e⟩
    · cases h
    · exact(yu.1 (wM e)).1
   obtain⟨u,hu⟩:∃ u,u=Go.Sy.wr (Go.Sy.nw s [AV.int IntKind.i64 0,AV.int IntKind.i64 0,AV.str [],AV.nils,AV.int IntKind.i64 0,AV.int IntKind.i64 0,AV.nils]) s.nx 0 (moE m.moves[k]):=⟨_,rfl⟩;have un:u.nx=s.nx+1:=by rw[hu];rfl
   have AU:ApL p st.bare u:=by rw[hu];exact(AS.nw2 _).wr2 om _ _
   have CU:Cl u p (mdE m):=by rw[hu];exact(CS.nw _).wrO om _ _
   have VU:V1 p u x sv:=by rw[hu];exact(VS.nw _).wr om _ _
   have LU:Lv (p+1) s.nx u v out.length (fl svE out) 1:=by
    rw[hu];simp(disch:=first|omega|(simp only[ji,jo];omega)) only[jF,jA];exact VL
   (have zz:=@CS.r;(repeat'(first|apply jc<;>intro _|simp(disch:=first|exact jY|fail) only[ja i1,ja i2,ja i5,ja i15,ja hi,ja hn,CS.q,CS.r,r11,γ,δ,ζ,η,θ]));all_goals clear zz)
   rw[<-hu];clear hu;refine jrq hb hC m hm m.moves[k] b.1 b.2.1 b.2.2 sv hs (VU.up om) λu2 a=>?_;have n2:=a.nx;have A2:ApL p st.bare u2:=AU.to a om;have C2:Cl u2 p (mdE m):=a.cl p _ om CU;have V2:=VU.keep a om;have L2:=LU.apl a om;obtain⟨p2,hp2⟩:∃ p2,p2=s.nx:=⟨_,rfl⟩;rw[<-hp2] at L2;clear AU CU VU LU AS CS VS VL a;generalize yP m.vars m.moves[k] sv=d at hS hR;obtain⟨t,q⟩:=d;dsimp only at hS hR;have tp:(svV t).plain=true:=rfl;have tcl:(svV t).cells.length=1:=rfl;have tc:(svV t).cells=[svV t]:=rfl;have tl:lall AV.cell [svV t]=true:=rfl;have tl':lall AV.cell (svV t).cells=true:=rfl;obtain⟨S,hSt⟩:∃ S,S=Go.Sy.wr (Go.Sy.nw u2 [AV.nils]) u2.nx 0 [svV t]:=⟨_,rfl⟩;have VS:Lv (p+1) p2 S v out.length (fl svE out) 1:=by
    rw[hSt];simp(disch:=first|omega|(simp only[ji,jo];omega)) only[jF,jA];exact L2
   have AS:ApL p st.bare S:=by rw[hSt];exact(A2.nw2 _).wr2 om _ _
   have CS:Cl S p (mdE m):=by rw[hSt];exact(C2.nw _).wrO om _ _
   have US:V1 p S x sv:=by rw[hSt];exact(V2.nw _).wr om _ _
   have CX:Cl S u2.nx [svV t]:=by
    rw[hSt];exact(Cl.new u2 [AV.nils]).wr0 rfl
   have nS:S.nx=u2.nx+1:=by rw[hSt];rfl
   cases q with
   |false=>
    rw[if_neg (by simp)] at hS;repeat'(first|apply jc<;>intro _|simp(disch:=first|exact dzG|fail) only[ja i1,ja i2,ja i5,ja i15,ja hi,ja hn,tc,r11,γ,δ,ζ,η,θ])
    rw[<-hSt];refine⟨⟨⟨out,v,hS,om,VS.up om,?_⟩,AS,om,CS,US,?_,?_,?_⟩,?_,?_⟩<;>simp(disch:=decide) only[jb]<;>assumption
   |true=>
    have ht:=(yu.1 (hR rfl)).1;repeat'(first|apply jc<;>intro _|simp(disch:=first|exact dzG|fail) only[ja i1,ja i2,ja i5,ja i15,ja hi,ja hn,tc,r11,γ,δ,ζ,η,θ])
    rw[<-hSt];clear hSt;refine Eq.mpr (jmX hb 47 out (by unfold BIG;omega) t (λx hx=>jsI hb x t (by have:=hO x hx;omega) om) rfl VS.lr CX _ _) ?_;have A:=λst bv xc xx K h hv=>@JS (p+1) p2 out.length 1 st v (fl svE out) K 24 bv xc xx h dc om om hv;by_cases hin:t∈out
    · rw[if_neg (λh=>h.2 hin)] at hS;rw[decide_eq_true hin];repeat'(first|apply jc<;>intro _|simp(disch:=first|exact dzG|fail) only[ja i1,ja i2,ja i5,ja i15,ja hi,ja hn,r11,γ,δ,ζ,η,θ])
      refine⟨⟨⟨out,v,hS,om,VS.up om,?_⟩,AS,om,CS,US,?_,?_,?_⟩,?_,?_⟩<;>simp(disch:=decide) only[jb]<;>assumption
    · rw[if_pos ⟨rfl,hin⟩] at hS;rw[decide_eq_false hin];have hX:rat S.h u2.nx 0=svV t:=CX.cell 0 (by simp)
      (have zz:=aI @VS (aI @jF (aI @jA @CX.r));(repeat'(first|apply jc<;>intro _|simp(disch:=first|exact jY|fail) only[ja i1,ja i2,ja i5,ja i15,ja hi,ja hn,hX,tc,A,CX.q,VS,jF,jA,CX.r,r11,γ,δ,ζ,η,θ]));all_goals clear zz)
      have VN:Lv (p+1) p2 (Go.Sy.nw S [svV t]) v out.length (fl svE out) 1:=by
       simp(disch:=omega) only[jF];exact VS
      have V3:=VN.put (news:=[svV t]) rfl (by rw[ji];omega) (m:=S.nx+1+1) (by rw[ji]);have e3:fl svE (out ++ [t])=fl svE out ++ [svV t]:=by rw[QX,JZ];rfl
      have AN:ApL p st.bare (aps v (Go.Sy.nw S [svV t]) [svV t]):=⟨by rw[jr,ji];have:=AS.nx;omega,by rw[Zc];exact AS.fr,λc cs hc C=>((AS.cl c cs hc C).nw _).aps VN (.inl om)⟩;have UN:V1 p (aps v (Go.Sy.nw S [svV t]) [svV t]) x sv:=US.imp id λ⟨c,ex,e,C,hc⟩=>⟨c,ex,e,(C.nw _).aps VN (.inl om),hc⟩;refine⟨⟨⟨out ++ [t],apv 1 v (Go.Sy.nw S [svV t]),hS,by simp;omega,?_,?_⟩,AN,?_,(CS.nw _).aps VN (.inl om),UN,?_,?_,?_⟩,?_,?_⟩;all_goals first
       |(rw[e3,ψ];exact V3)
       |(simp(disch:=decide) only[jb,jf];done)
       |(simp(disch:=decide) only[jb];assumption)
       |omega
  ·obtain⟨⟨out,v,h1,h2,VL,i5⟩,AS,n1,CS,VS,i1,i2,i15⟩:=hI;rw[Qaf] at h1;rw[h1] at hd;rcases VL with ⟨rfl,h0,_⟩|⟨b,rfl,h0,_,C,hb1,hb2⟩
   ·rw[if_pos h0] at hd;repeat'(first|apply jc<;>intro _|simp(disch:=first|exact dzG|fail) only[ja i1,ja i2,ja i5,r11,γ,δ,ζ,η,θ])
    refine jeG (sv:=sv) hb hC hs VS λw u O q=>?_;have AU:=AS.to q om;have wp:w.plain=true/\w.cells=[w]/\lall AV.cell [w]=true:=by
      rcases O with ⟨_,rfl⟩|⟨b,ex,rfl,_⟩<;>exact⟨rfl,rfl,rfl⟩
    obtain⟨wp,wc,wl⟩:=wp;have wcl:w.cells.length=1:=by rw[wc];rfl
    have A:=λst bv xc xx K hv=>@JS 1 u.nx 0 1 st .nils [] K 24 bv xc xx Lv.nil dc dc dc hv;have un:=q.nx;repeat'(first|apply jc<;>intro _|simp(disch:=first|exact dzG|fail) only[A,wc,r11,γ,δ,ζ,η,θ])
    have C3:Cl (aps AV.nils (Go.Sy.nw u [w]) [w]) (Go.Sy.nw u [w]).nx [w]:=Cl.new (Go.Sy.nw u [w]) [w];have AE:ApL p st.bare (aps AV.nils (Go.Sy.nw u [w]) [w]):=(AU.nw2 _).nw2 _;have O2:OutV s.nx (aps AV.nils (Go.Sy.nw u [w]) [w]) w sv:=(O.nwO [w]).nwO [w];have F:FzD p 9 (aps AV.nils (Go.Sy.nw u [w]) [w]) (apv 1 AV.nils (Go.Sy.nw u [w])) (.lst 1 [svV sv]):=by
      refine FzD.slice C3.rw_ (by simp) (by rw[ji];omega) ?_;exact FzsD.cons (O2.fz om) .nil
    first
      |exact fin AE.bar (by rw[hd];exact F)
      |exact fin AE (by rw[hd];exact F)
   ·have h0':¬ (out.length:Int)=0:=om
    rw[if_neg om] at hd;repeat'(first|apply jc<;>intro _|simp(disch:=first|exact dzG|fail) only[ja i1,ja i2,ja i5,h0',r11,γ,δ,ζ,η,θ])
    have F:FzD p 9 s (.slice b 0 out.length out.length 1 false) (.lst (zo m sv).length (fl svE (zo m sv))):=by
     rw[hd];refine FzD.slice C.rw_ (by rw[Jh Ws];exact τ _) om ?_;rw[<-Jh Ws,Qaf];exact FzsD.pc (yZ Ku _)
    first
      |exact fin AS.bar F
      |exact fin AS F
theorem VD {m:ModT}{sv x:SvT}(h:x∈zo m sv):x.length=m.vars.length:=by
 unfold zo at h;split at h
 ·rename_i hr;split at h
  ·simp only[Qbh] at h;rw[h];exact(yu.1 hr).1
  ·rcases YM h with h|⟨w,_,e⟩
   ·cases h
   ·exact(yu.1 (wM e)).1
 ·cases h
theorem Hs {m:ModT}{sv:SvT}:(zo m sv).length<=m.moves.length+1:=by
 unfold zo;split
 ·split
  ·simp
  ·have:=@VE m.vars sv m.moves [];simp at this;omega
 ·simp
set_option maxHeartbeats 4000000 in
theorem jjj (hb:NB base)(hC:CloneP base)(m:ModT)(B:ModB m)(sv t:SvT)(hs:sv.length<=1000000000000)(ht:t.length<=1000000000000):Tot base 30 [.agg (mdE m),svV sv,svV t] (.bool (decide (t∈zo m sv))):=by
 refine hb.tot ?_ (by unfold svV;simp[pa,pc,zC,yb]) rfl;have hm:=B.vars;have hmv:=B.moves;have hf:=@Hs m sv;have tp:(svV t).plain=true:=rfl;have tcl:(svV t).cells.length=1:=rfl;have tc:(svV t).cells=[svV t]:=rfl;have tl:lall AV.cell [svV t]=true:=rfl;have tl':lall AV.cell (svV t).cells=true:=rfl;have H:=λ(st:St) q C K Kp=>jmX hb 51 (zo m sv) (by unfold BIG;omega) t (λx hx=>jsR hb x t (by have:=VD hx;omega) om) (v:=.lst (zo m sv).length (fl svE (zo m sv))) (st:=st) (q:=q) rfl (.inl rfl) C K Kp;have f1:(nw st0 (mdE m)).nx=1:=rfl;have CX:=Cl.new (nw st0 (mdE m)) [svV t];rw[f1] at CX;have n2:(nw (nw st0 (mdE m)) [svV t]).nx=2:=rfl;generalize svV t=vt at *;obtain⟨vs,hvs⟩:∃ vs,vs=svV sv:=⟨_,rfl⟩;rw[<-hvs];refine jE jtg (by rfl) (hb.pur 30 1 dc) ?_;simp only[joU,jt,κ,μ,ν,ξ];rw[(by unfold jjx;simp only[qq];rfl:jjx=_)];repeat'(first|apply jc<;>intro _|simp(disch:=first|exact dzG|fail) only[tc,r11,γ,δ,ζ,η,θ])
 refine jjg hb hC m B sv hs (.inl hvs) λs' a=>?_;have H1:=H s' 1 (a.cl 1 _ (by rw[n2];decide) CX);repeat'(first|apply jc<;>intro _|simp(disch:=first|exact dzG|fail) only[H1,r11,γ,δ,ζ,η,θ])
 all_goals exact G0.v rfl rfl
set_option maxHeartbeats 4000000 in
theorem GJ (hb:NB base)(a b:List Int)(ha:a.length<=1099511627776)(hb2:b.length<=1099511627776):PX ε base 29 [svV a,svV b] (.ok (.bool (decide (a=b)))):=by
 unfold svV;have hl:((a.length:Int)=(b.length:Int))=(a.length=b.length):=by rw[eq_iff_iff];omega
 refine jE jth (by rfl) (hb.pur 29 1 dc) ?_;simp only[joV,jt,κ,μ,ν,ξ];rw[(by unfold jjy;simp only[qq];rfl:jjy=_)];repeat'(first|apply jc<;>intro _|simp(disch:=first|exact dzG|fail) only[hl,r11,γ,δ,ζ,η,θ])
 ·rename_i h;exact G0.v (congrArg AV.bool (decide_eq_false λk=>h (by rw[k])).symm) rfl
 ·rename_i h;have h:a.length=b.length:=by simpa using h
  refine jZ a.length (λk L st=>(∀ j (h1:j<a.length) (h2:j<b.length),j<k->a[j]=b[j])/\Has L 0 (.lst a.length (a.map (.int .i64)))/\Has L 1 (.lst b.length (b.map (.int .i64)))) (by first|assumption|omega) dc (by simp(disch:=decide) only[jf,jb]) (by simp(disch:=decide) only[jf,jb]) ?_ (λk L s v h=>by simp(disch:=decide) only[jb];exact h) (λk L s v h=>by simp(disch:=decide) only[jb];exact h) (λk L s hk hI hi hn=>?_) (λL s hI=>?_)
  ·refine⟨λj h1 h2 hj=>absurd hj (Qaw _),?_,?_⟩<;>simp(disch:=decide) only[jb,jf]
  ·obtain⟨h0,i0,i1⟩:=hI;have hks:k<b.length:=om
   repeat'(first|apply jc<;>intro _|simp(disch:=first|exact dzG|fail) only[ja i0,ja i1,ja hi,ja hn,Jt,r11,γ,δ,ζ,η,θ])
   ·rename_i h3;exact G0.v (congrArg AV.bool (decide_eq_false λw=>h3 (by subst w;rfl)).symm) rfl
   ·rename_i h3;refine⟨⟨λj h1 h2 hj=>?_,?_,?_⟩,?_,?_⟩
    ·by_cases e:j=k
     ·subst e;simpa using h3
     ·exact h0 j h1 h2 om
    all_goals(simp(disch:=decide) only[jb];assumption)
  ·obtain⟨h0,i0,i1⟩:=hI;repeat'(first|apply jc<;>intro _|simp(disch:=first|exact dzG|fail) only[r11,γ,δ,ζ,η,θ])
   exact G0.v (congrArg AV.bool (decide_eq_true (Qbi h λi h1 h2=>h0 i h1 h2 h1)).symm) rfl
theorem jf6 (hb:NB base)(a b:List Int)(ha:a.length<=1099511627776)(hb2:b.length<=1099511627776):Tot base 29 [svV a,svV b] (.bool (decide (a=b))):=hb.tot (GJ hb a b ha hb2) rfl rfl
theorem joE (hb:NB base)(ls:List SvT)(hl:ls.length<=BIG)(t:SvT)(ht:t.length<=1099511627776)(hx:∀ x∈ls,x.length<=1099511627776):PL ε base 32 [.lst ls.length (fl svE ls),svV t] (.ok (.bool (decide (t∈ls)))):=by
 unfold BIG at hl;obtain⟨vt,hvt⟩:∃ vt,vt=svV t:=⟨_,rfl⟩;rw[<-hvt];refine zg jte (by rfl) (hb.pur 32 5 dc) rfl ?_;simp only[joS,jt,κ,μ,ν,ξ];rw[(by unfold jjv;simp only[qq];rfl:jjv=_)];repeat'(first|apply jc<;>intro _|simp(disch:=first|exact dzG|fail) only[r11,γ,δ,ζ,η,θ])
 refine jZ ls.length (λk L s=>(∀ j (hj:j<ls.length),j<k->ls[j]≠t)/\Has L 1 vt/\Has L 7 (.lst ls.length (fl svE ls))) (by first|assumption|omega) dc (by simp(disch:=decide) only[jf,jb]) (by simp(disch:=decide) only[jf,jb]) ?_ (λk L s v h=>by simp(disch:=decide) only[jb];exact h) (λk L s v h=>by simp(disch:=decide) only[jb];exact h) (λk L s hk hI hi hn=>?_) (λL s hI=>?_)
 ·refine⟨λj _ hj=>absurd hj (Qaw _),?_⟩;simp(disch:=decide) only[h12]
 ·obtain⟨h0,i1,i7⟩:=hI;have e:=jf6 hb ls[k] t (hx _ (Qac hk)) ht;rw[<-hvt] at e;repeat'(first|apply jc<;>intro _|simp(disch:=first|exact dzG|fail) only[ja i1,ja i7,ja hi,ja hn,jam,<-hvt,e,r11,γ,δ,ζ,η,θ])
  ·rename_i h;exact G0.v (congrArg AV.bool (decide_eq_true (h▸Qac hk)).symm) rfl
  ·rename_i h;refine⟨⟨λj hj hjk=>?_,?_,?_⟩,?_,?_⟩
   ·by_cases e:j=k
    ·subst e;exact h
    ·exact h0 j hj om
   all_goals(simp(disch:=decide) only[jb];assumption)
 ·obtain⟨h0,i1,i7⟩:=hI;repeat'(first|apply jc<;>intro _|simp(disch:=first|exact dzG|fail) only[r11,γ,δ,ζ,η,θ])
  refine G0.v (congrArg AV.bool (decide_eq_false λh=>?_).symm) rfl;obtain⟨j,hj,e⟩:=Qbs.1 h;exact h0 j hj hj e
set_option maxHeartbeats 4000000 in
theorem Xt (hb:NB base)(m:ModT)(sv:SvT)(hm:m.vars.length<=1000000)(hs:sv.length<=1099511627776):Tot base 13 [.agg (mdE m),svV sv] (.bool (qg m.vars sv)):=by
 refine hb.tot ?_ (by unfold svV;simp[pa,pc,zC,yb]) rfl;unfold svV;have hl:((sv.length:Int)=(m.vars.length:Int))=(sv.length=m.vars.length):=by rw[eq_iff_iff];omega
 refine jE jtr (by rfl) (hb.pur 13 1 dc) ?_;simp only[jo5,jt,κ,μ,ν,ξ];rw[(by unfold jjI;simp only[qq];rfl:jjI=_)];repeat'(first|apply jc<;>intro _|simp(disch:=first|exact dzG|fail) only[hl,r11,γ,δ,ζ,η,θ])
 refine zu (λmm L s=>∃ (k:Nat) (q:Bool),k<=sv.length/\mm=sv.length - k/\(0<k->sv.length=m.vars.length)/\(q=true↔sv.length=m.vars.length/\∀ j (h1:j<m.vars.length) (h2:j<sv.length),j<k->m.vars[j].lo<=sv[j]/\sv[j]<=m.vars[j].hi)/\1<=s.nx/\Cl s 0 (mdE m)/\Has L 1 (.lst sv.length (sv.map (.int .i64)))/\Has L 2 (.ptr 0 0)/\Has L 5 (.bool q)/\Has L 6 (.int .i64 (k:Int))) ?_ sv.length ?_
 ·rintro mm L s ⟨k,q,hk,rfl,h1,h2,n1,C0,i1,i2,i5,i6⟩;unfold GW;by_cases hlt:k<sv.length
  ·have hlt':(k:Int)<(sv.length:Int):=om
   have e1:((k+1:Nat):Int)=(k:Int)+1:=om
   cases q with
   |false=>
    (have zz:=C0.r;(repeat'(first|apply jc<;>intro _|simp(disch:=first|exact jY|fail) only[ja i1,ja i2,ja i5,ja i6,hlt',C0.q,C0.r,r11,γ,δ,ζ,η,θ]));all_goals clear zz)
    refine G0.v (congrArg AV.bool (ZZ λw=>?_).symm) rfl;exact absurd (h2.2 ⟨w.1,λj a b _=>w.2 j a b⟩) dc
   |true=>
    have hq:=h2.1 rfl;have hkv:k<m.vars.length:=om
    (have zz:=C0.r;(repeat'(first|apply jc<;>intro _|simp(disch:=first|exact jY|fail) only[ja i1,ja i2,ja i5,ja i6,hlt',Jt,C0.q,C0.r,r11,γ,δ,ζ,η,θ]));all_goals clear zz)
    ·rename_i h3;refine⟨sv.length - (k+1),om,k+1,decide (sv[k]<=m.vars[k].hi),om,rfl,λ_=>hq.1,?_,n1,C0,?_,?_,?_,?_⟩
     ·rw[decide_eq_true_eq];refine⟨λh=>⟨hq.1,λj a b hj=>?_⟩,λh=>(h.2 k hkv hlt om).2⟩;by_cases e:j=k
      ·subst e;exact⟨h3,h⟩
      ·exact hq.2 j a b om
     all_goals first
      |(rw[e1];simp(disch:=decide) only[jb,jf];done)
      |(simp(disch:=decide) only[jb,jf];done)
      |(simp(disch:=decide) only[jb];assumption)
    ·rename_i h3;refine⟨sv.length - (k+1),om,k+1,false,om,rfl,λ_=>hq.1,?_,n1,C0,?_,?_,?_,?_⟩
     ·exact⟨(λh=>by cases h),λh=>absurd (h.2 k hkv hlt om).1 h3⟩
     all_goals first
      |(rw[e1];simp(disch:=decide) only[jb,jf];done)
      |(simp(disch:=decide) only[jb,jf];done)
      |(simp(disch:=decide) only[jb];assumption)
  ·have hlt':¬ (k:Int)<(sv.length:Int):=om
   have hke:k=sv.length:=om
   have hqr:qg m.vars sv=q:=by
    cases q with
    |true=>exact yu.2 ⟨(h2.1 rfl).1,λj a b=>(h2.1 rfl).2 j a b om⟩
    |false=>exact ZZ λw=>absurd (h2.2 ⟨w.1,λj a b _=>w.2 j a b⟩) dc
   rw[hqr]
   (have zz:=C0.r;(repeat'(first|apply jc<;>intro _|simp(disch:=first|exact jY|fail) only[ja i1,ja i2,ja i5,ja i6,hlt',C0.q,C0.r,r11,γ,δ,ζ,η,θ]));all_goals clear zz)
   all_goals exact G0.v rfl rfl
 ·refine⟨0,decide (sv.length=m.vars.length),om,rfl,λh=>absurd h (Qbb _),?_,by(first|omega|(simp only[ji,jo,ju,jr,jq];first|done|omega)),by(first|exact cyG|fail),?_,?_,?_,?_⟩
  ·rw[decide_eq_true_eq];exact⟨λh=>⟨h,λj a b hj=>absurd hj (Qaw _)⟩,λh=>h.1⟩
  all_goals first
   |(simp(disch:=decide) only[jb,jf];done)
   |(rw[show((0:Nat):Int)=0 from rfl];simp only[jf])
theorem jug:Go.Ev.isAgg ε 3=some false:=by kernel_rfl
theorem juf:Go.Ev.sizeOf ε 3=some 1:=by kernel_rfl
theorem sq3 {b o:Nat}{v:AV}{h:T AO}(ho:o<qv h b)(hv:rat h b o=v)(hc:eqs v=true):(j9 ε 3 (.ptr b o) v h=true)=True:=eq_true (Qk jug juf ho hv hc)
theorem G5 {sv:List Int}:∀ {xs ys:List SetT} {out:List Int},yN sv (xs ++ ys) out=yN sv ys (yN sv xs out)
 |[],ys,out=>rfl
 |x :: xs,ys,out=>by rw[Qag,yN,yN,G5]
theorem jdV {sv:List Int}{xs:List SetT}{k:Nat}(hk:k<xs.length){out:List Int}(h:yN sv (xs.take k) sv=out):yN sv (xs.take (k+1)) sv=out.set xs[k].var.toNat (yT sv xs[k].to):=by
 rw[yI hk,G5,h,yN,yN]
theorem G4 {sv:List Int}:∀ {xs:List SetT} {out:List Int},(yN sv xs out).length=out.length
 |[],out=>rfl
 |x :: xs,out=>by rw[yN,G4,Qbc]
set_option maxHeartbeats 8000000 in
theorem jup (hb:NB base)(m:ModT){enums:List EnumT}(hm:m.vars.length<=1000000)(mv:MoveT)(K:MoveK m.vars enums mv)(hw:szE mv.when<=BIG)(hto:∀ a∈mv.acts,szE a.to<=BIG)(sv t:SvT)(hs:sv.length<=1000000000000)(ht:t.length<=1000000000000) :
  Tot base 33 [.agg (mdE m),.agg (moE mv),svV sv,svV t] (.bool (byM m.vars mv sv t)):=by
 refine hb.tot ?_ (by unfold svV;simp[pa,pc,zC,Za,yb]) rfl;have E1:=Xt hb m sv hm om;have E2:=Xt hb m t hm om;have fW:=jbW (Cl.new (nw st0 (mdE m)) (moE mv));have f1:(nw st0 (mdE m)).nx=1:=rfl;rw[f1] at fW;have hd:byM m.vars mv sv t=(qg m.vars sv && qg m.vars t && decide (yT sv mv.when=1) && decide (yN sv mv.acts sv=t)):=rfl;have hal:=K.len;unfold svV at *;refine jE jtd (by rfl) (hb.pur 33 1 dc) ?_;simp only[joR,jt,κ,μ,ν,ξ];rw[(by unfold jju;simp only[qq];rfl:jju=_)];cases h1:qg m.vars sv with
 |false=>
  rw[h1] at E1 hd;repeat'(first|apply jc<;>intro _|simp(disch:=first|exact dzG|fail) only[fW,E1,r11,γ,δ,ζ,η,θ])
  all_goals exact G0.v (by rw[hd];rfl) rfl
 |true=>
  have hl:=(yu.1 h1).1;rw[h1] at E1 hd;cases h2:qg m.vars t with
  |false=>
   rw[h2] at E2 hd;repeat'(first|apply jc<;>intro _|simp(disch:=first|exact dzG|fail) only[fW,E1,E2,r11,γ,δ,ζ,η,θ])
   all_goals exact G0.v (by rw[hd];rfl) rfl
  |true=>
   rw[h2] at E2 hd;have E3:=vq hb sv om mv.when hw (by rw[hl];exact K.when.numb);unfold svV at E3;by_cases h3:yT sv mv.when=1
   ·rw[h3] at E3;rw[decide_eq_true h3,QaQ,QaQ,QaQ] at hd;obtain⟨v',s',e,w,q⟩:=jgs (s:=nw (nw (nw st0 (mdE m)) (moE mv)) []) (lo:=2) (hi:=3) (bytes:=8) (z:=1) (n:=0) (cs:=[]) (cs2:=sv.map (.int .i64)) (n2:=sv.length) (v:=.slice 2 0 0 0 1 true) (Lw.new (s:=nw (nw st0 (mdE m)) (moE mv)) (z:=1) (τ _) (Qbo _)) (τ _) (by simp) dc om om;have f2:(nw (nw st0 (mdE m)) (moE mv)).nx=2:=rfl;have C1:Cl s' 1 (moE mv):=q.cl 1 _ dc ((f1▸Cl.new (nw st0 (mdE m)) (moE mv)).nw _);have n2:2<=s'.nx:=by
     have:=q.nx;rw[ji,f2] at this;omega
    obtain⟨b0,ex0,rfl,_,_,C,hb0,_⟩:=w;rw[Qal] at C;rw[Qak] at e
    (have zz:=C1.r;(repeat'(first|apply jc<;>intro _|simp(disch:=first|exact jY|fail) only[fW,E1,E2,E3,e,C1.q,C1.r,r11,γ,δ,ζ,η,θ]));all_goals clear zz)
    refine jZ mv.acts.length (λk L s=>(∃ out b ex,yN sv (mv.acts.take k) sv=out/\out.length=sv.length/\Cl s b (out.map (.int .i64))/\2<=b/\Has L 9 (.slice b 0 out.length out.length 1 ex))/\2<=s.nx/\Has L 2 (.lst sv.length (sv.map (.int .i64)))/\Has L 3 (.lst t.length (t.map (.int .i64)))/\Has L 33 (.lst mv.acts.length (fl seE mv.acts))) (by first|assumption|omega) dc (by simp(disch:=decide) only[jf,jb]) (by simp(disch:=decide) only[jf,jb]) ?_ (λk L s v h=>(by obtain⟨⟨out,b,ex,a1,a2,a3,a4,a5⟩,a6,a7,a8,a9⟩:=h;refine⟨⟨out,b,ex,a1,a2,a3,a4,?_⟩,a6,?_,?_,?_⟩<;>simp(disch:=decide) only[jb]<;>assumption)) (λk L s v h=>(by obtain⟨⟨out,b,ex,a1,a2,a3,a4,a5⟩,a6,a7,a8,a9⟩:=h;refine⟨⟨out,b,ex,a1,a2,a3,a4,?_⟩,a6,?_,?_,?_⟩<;>simp(disch:=decide) only[jb]<;>assumption)) (λk L s hk hI hi hn=>?_) (λL s hI=>?_)
    ·refine⟨⟨sv,b0,ex0,rfl,rfl,C,hb0,?_⟩,n2,?_,?_,?_⟩<;>simp(disch:=decide) only[jb,jf]
    ·obtain⟨⟨out,b,ex,a1,a2,C,hb2,i9⟩,n2,i2,i3,i33⟩:=hI;have ka:=K.acts _ (Qac hk);have E18:=vq hb sv om mv.acts[k].to (hto _ (Qac hk)) (by rw[hl];exact ka.2.2.numb);unfold svV at E18;have hS:=jdV hk a1;have CA:Cl (Go.Sy.wr (Go.Sy.nw s [AV.int IntKind.i64 0,AV.int IntKind.i64 0,AV.int IntKind.i64 0,AV.str [],AV.nils,AV.int IntKind.i64 0,AV.int IntKind.i64 0]) s.nx 0 (seE mv.acts[k])) s.nx (seE mv.acts[k]):=(Cl.new s _).wr0 (by rw[Qb];rfl);have sm:=sq3 (h:=(Go.Sy.wr (Go.Sy.nw s [AV.int IntKind.i64 0,AV.int IntKind.i64 0,AV.int IntKind.i64 0,AV.str [],AV.nils,AV.int IntKind.i64 0,AV.int IntKind.i64 0]) s.nx 0 (seE mv.acts[k])).h) (b:=s.nx) (o:=0) (v:=.int .i64 mv.acts[k].var) (by rw[CA.len,Qb];decide) ((CA.cell 0 (by rw[Qb];decide)).trans rfl) rfl;have hbn:=C.lt;have hlen:qv s.h b=out.length:=by rw[C.len,Qap]
     have gv0:=ka.1;have gv1:mv.acts[k].var<(out.length:Int):=om
     have hz:mv.acts[k].var.toNat+1<=out.length:=om
     generalize yT sv mv.acts[k].to=n at E18 hS;repeat'(first|apply jc<;>intro _|simp(disch:=first|exact dzG|fail) only[ja i2,ja i3,ja i9,ja i33,ja hi,ja hn,uW,E18,sm,r11,γ,δ,ζ,η,θ])
     have hC2:Cl (Go.Sy.wr (Go.Sy.wr (Go.Sy.nw s [AV.int IntKind.i64 0,AV.int IntKind.i64 0,AV.int IntKind.i64 0,AV.str [],AV.nils,AV.int IntKind.i64 0,AV.int IntKind.i64 0]) s.nx 0 (seE mv.acts[k])) b mv.acts[k].var.toNat [AV.int IntKind.i64 n]) b ((out.set mv.acts[k].var.toNat n).map (.int .i64)):=by
      rw[<-Uv _ _ _ om];exact((C.nw _).wrO om _ _).wr _ _
     refine⟨⟨⟨_,b,ex,hS,by rw[Qbc];exact a2,hC2,hb2,?_⟩,om,?_,?_,?_⟩,?_,?_⟩;all_goals first
      |(simp(disch:=decide) only[jb,jf,Qbc];done)
      |(simp(disch:=decide) only[jb,Qbc];assumption)
    ·obtain⟨⟨out,b,ex,a1,a2,C,hb2,i9⟩,n2,i2,i3,i33⟩:=hI;rw[Qaf] at a1;have F:Fza s [.slice b 0 out.length out.length 1 ex,svV t] [.lst out.length (out.map (.int .i64)),svV t] [b]:=Fza.sl C (by simp) (yb _) (Fza.pa rfl .nil);have E29:=λK Kp=>(GJ hb out t om om).xf F (λst=>hb.no 29 dc _ _) K Kp;unfold svV at E29;repeat'(first|apply jc<;>intro _|simp(disch:=first|exact dzG|fail) only[ja i2,ja i3,ja i9,E29,Jl,r11,γ,δ,ζ,η,θ])
     exact G0.v (by rw[hd,a1]) rfl
   ·rw[decide_eq_false h3] at hd;repeat'(first|apply jc<;>intro _|simp(disch:=first|exact dzG|fail) only[fW,E1,E2,E3,h3,r11,γ,δ,ζ,η,θ])
    all_goals first|exact G0.v (by rw[hd];simp) rfl
theorem jsE:Go.Ev.isAgg ε 35=some true:=by kernel_rfl
theorem jsD:Go.Ev.sizeOf ε 35=some 3:=by kernel_rfl
theorem jas {b:Nat}{m:ModT}{h:T AO}(ho:3<=qv h b)(hv:rats h b 0 3=mdE m):(j9 ε 35 (.ptr b 0) (.agg (mdE m)) h=true)=True:=eq_true (Y4 jsE jsD dc om hv rfl)
theorem jaA {s:St}{m:ModT}{c:List AV}{q p:Bool}(h:FzsD 0 7 s c (mdE m))(h2:q=p):G0 (.tup [.agg (mdE m),.bool p]) (.tup [.agg c,.bool q]) s:=by
 subst h2;exact FzD.tup (.cons (.agg h) (.cons (.pc rfl) .nil))
theorem jh1 {s:St}:FzsD 0 7 s [.nils,.nils,.nils] (mdE md0):=.cons .nils (.cons .nils (.cons .nils .nil))
set_option maxHeartbeats 8000000 in
theorem jqB (hb:NB base)(hP:PI base)(src:SrcT)(wr:WrS src):Tot base 10 [.agg (srE src)] (.tup [.agg (mdE (ZN src).1),.bool (ZN src).2]):=by
 refine hb.tot ?_ (by simp[pa,Kv]) rfl;have E35:=jjd hb src wr;unfold jfg at E35;have hd:ZN src=match QH src with|none=>(md0,false)|some t=>if 5000<t.length then(md0,false) else((Ja t [116,114,117,101]).m,decide ((Ja t [116,114,117,101]).c=0/\(Ja t [116,114,117,101]).l=0/\(Ja t [116,114,117,101]).k=0) && decide (Qj (Ja t [116,114,117,101]).m.vars<=300)):=rfl
 refine jE jts (by rfl) (hb.pur 10 1 dc) ?_;simp only[jo6,jt,κ,μ,ν,ξ];rw[(by unfold jjJ;simp only[qq];rfl:jjJ=_)];cases hs:QH src with
 |none=>
  rw[hs] at E35 hd;have E35:Tot base 35 [.agg (srE src)] (.tup [.str [],.int .i64 141]):=E35;dsimp only at hd;rw[hd];repeat'(first|apply jc<;>intro _|simp(disch:=first|exact dzG|fail) only[E35,r11,γ,δ,ζ,η,θ])
  all_goals exact jaA jh1 rfl
 |some t=>
  rw[hs] at E35 hd;have E35:Tot base 35 [.agg (srE src)] (.tup [.str t,.int .i64 0]):=E35;dsimp only at hd;by_cases h5:5000<t.length
  ·have h5':(5000:Int)<(t.length:Int):=om
   rw[if_pos h5] at hd;rw[hd];repeat'(first|apply jc<;>intro _|simp(disch:=first|exact dzG|fail) only[E35,h5',r11,γ,δ,ζ,η,θ])
   all_goals exact jaA jh1 rfl
  ·have h5':¬ (5000:Int)<(t.length:Int):=om
   rw[if_neg h5] at hd;rw[hd];have E34:=jrY hb hP t [116,114,117,101] om dc;have ok:=λh=>jbV (l:=t) (f:=[116,114,117,101]) h;unfold Kr at E34;generalize Ja t [116,114,117,101]=r at E34 ok;obtain⟨m,x,c,l,k⟩:=r;dsimp only at E34 ok ⊢;have E34:Tot base 34 [.str t,.str [116,114,117,101]] (.tup [.agg (mdE m),.agg (eE x),.agg [.int .i64 c,.int .i64 l,.int .i64 k]]):=E34;by_cases hz:c=0/\l=0/\k=0
   ·have V:=(ok hz.1).1;have E36:=λst K Kp=>(jbJ hb m.vars V.len m.enums.length m.moves.length (fl enE m.enums) (fl moE m.moves)).pa (by simp[pa,pc]) (λst=>hb.no 36 dc _ _) st K Kp;rw[decide_eq_true hz,QaQ];have E36:∀ (st:St) (K Kp:AV->St->Prop),XB ε base 36 [.agg (mdE m)] st K Kp=K (.int .i64 (Qj m.vars)) st:=E36;have f2:(nw (nw st0 (srE src)) [AV.nils,AV.nils,AV.nils]).nx=2:=rfl;have CX:=((((((f2▸Cl.new (nw (nw st0 (srE src)) [AV.nils,AV.nils,AV.nils]) [AV.nils,AV.nils,AV.nils]:Cl (nw (nw (nw st0 (srE src)) [AV.nils,AV.nils,AV.nils]) [AV.nils,AV.nils,AV.nils]) 2 [AV.nils,AV.nils,AV.nils]).nw [AV.int .i64 0,AV.int .i64 0,AV.str [],AV.nils,AV.int .i64 0,AV.int .i64 0]).nw [AV.int .i64 0,AV.int .i64 0,AV.int .i64 0]).wr0 (c':=mdE m) rfl).wrO (c:=3) dc 0 (eE x)).wrO (c:=4) dc 0 [AV.int .i64 0,AV.int .i64 0,AV.int .i64 0]);have sm:=jas (by rw[CX.len];exact τ 3) (CX.rats0 rfl);obtain⟨rfl,rfl,rfl⟩:=hz;repeat'(first|apply jc<;>intro _|simp(disch:=first|exact dzG|fail) only[E35,h5',E34,jmf,jme,jmd,fEq,E36,sm,r11,γ,δ,ζ,η,θ])
    all_goals exact jaA (FzsD.pc (zC m)) rfl
   ·rw[decide_eq_false hz,Bool.false_and];repeat'(first|apply jc<;>intro _|simp(disch:=first|exact dzG|fail) only[E35,h5',E34,jmf,jme,jmd,fEq,hz,r11,γ,δ,ζ,η,θ])
    all_goals exact jaA (FzsD.pc (zC m)) rfl
def zs6:XC:=(Oe (T0 3 6) [Ip 10 9 [],OV 11 10] 11 (Th 6) (Oe [TZ 13 3,Ox 14 10 13,oz 12 14,Tw 15 12,Tx 16 12,o8 7 [.nils,.nils,.nils],o5 3 7 15,oy 8 16] [oz 17 8,TM 18 17,oz 19 18,IH 20 19 1,TQ 21 19 20,O6 22 19 .gtr 21 40,Tc 23 19 22,oz 24 23,IH 25 24 2,TQ 26 24 25,O6 27 24 .gtr 26 40,Lc 28 24 27] 28 [Ta 6] (oX [TI 29 0 oB [],OY 30,Oq 31 1 8 29 30,oy 9 31] (Or [T8 32 3 7 7 35,Tq 33 9,(Ix (OA 34 25 32 33) 0 [],some [OP 34,Ij (TZ 35 7) 7 35 [(0,0)],IJ 36 1 0,OP 37,OP 38,OP 39,OP 40,OP 41,OP 42,OP 43,OP 44,OP 45,OP 46,OP 47,OP 48,OP 49,OP 50,OP 51,OP 52,OP 53,OP 54,OP 55,OP 56,OP 57,OP 58,OP 59,OP 60,OP 61,OP 62,o9 (Ia 63 Iq) 0]),ON 35 3 7 7 35 [(0,0)],IO (OY 36),(Ix (OA 37 13 35 36) 0 [],OJ),IO (ol 38 (TO .neq 4 34 37)),Tq 39 38,IB (O0 40 39 3 7) 7 35 [],IO (IH 41 39 9),(Ix (Lg 42 39 26 [40,41]) 0 [],some [OP 42,Ij (O0 43 39 3 7) 7 35 [(0,0)],o9 (IH 44 39 1) 0,OP 45,OP 46,OP 47,OP 48,OP 49,OP 50,OP 51,OP 52,OP 53,OP 54,OP 55,OP 56,OP 57,OP 58,OP 59,OP 60,OP 61,OP 62,o9 (Ia 63 Iq) 0]),IB (O0 43 39 3 7) 7 35 [(0,0)],IO (IH 44 39 1),(Ix (Lg 45 39 20 [43,44]) 0 [],OJ),IO (If 46 39 (TO .neq 4 42 45)),IO (Tc 47 39 46),Tq 48 47,IB (O0 49 48 3 7) 7 35 [],IO (IH 50 48 9),(Ix (Lg 51 48 27 [49,50]) 0 [],some [OP 51,Ij (O0 52 48 3 7) 7 35 [(0,0)],o9 (IH 53 48 1) 0,OP 54,OP 55,OP 56,OP 57,OP 58,OP 59,OP 60,OP 61,OP 62,o9 (Ia 63 Iq) 0]),IB (O0 52 48 3 7) 7 35 [(0,0)],IO (IH 53 48 1),(Ix (Lg 54 48 28 [52,53]) 0 [],OJ),(Ix (Lg 55 48 24 [51,54]) 0 [],OJ),IO (TS 56 48 55),IO (Tc 57 48 56),Tq 58 57,IO (IH 59 58 9),IO (IH 60 58 1),(Ix (Lg 61 58 29 [59,60]) 0 [],OJ),IO (TS 62 58 61),IO (Lc 63 58 62)] (Ti 63 (Th 6) .skip)) (Lh [T8 64 3 7 7 35,IO (OY 65),Tq 66 2,(Ix (Ip 67 30 [64,65,66]) 0 [],some [OP 67,Ij (TZ 68 7) 7 35 [(0,0)],IJ 69 1 0,IJ 70 2 0,OP 71,OP 72,o9 (Ia 6 Iq) 0]),ON 68 3 7 7 35 [(0,0)],IO (OY 69),Tq 70 2,(Ix (Ip 71 31 [68,69,70]) 0 [],OJ),IO (ol 72 (TO .eql 4 67 71)),IO (oy 6 72)]))))
def ys6:XF:=⟨[0,1,2],zs6,[(.t 6)]⟩
theorem xs6:jx ε 6=some ys6:=by kernel_rfl
def jjE:XC:=(Oe (T0 2 4) [TZ 7 2,OY 8,OA 9 13 7 8,OV 10 9] 10 Tu (OW (Ob [OO 11 2,Oh 12 11,IP 13 12,I0 14] 0 (Tn 15 14 13) 15 0 1 (oX [oz 16 14,Ik 17 7 12 14,oU 18 7 17,o8 6 [oJ,oB,oJ,oB,oB,Tj,oB],oy 5 16,o5 7 6 18] (.cops [IE (oE 19 5 6),OQ 20 19,TB 21 20,IE (Oy 22 21 6 6),IE (Ow 23 21 22),IE (IZ 24 21 1),IE (IZ 25 21 5),IE (Ig 26 21 (.idxS 1 24 25)),IE (Ow 27 21 26),IE (Ig 28 21 (.bin .neq 23 27)),IE (I6 29 21 28 oW)]) (Ti 29 Tu .skip)) 30 14 1 14 30) [Ta 4]))
def jo1:XF:=⟨[0,1],jjE,[(.t 4)]⟩
theorem jtn:jx ε 20=some jo1:=by kernel_rfl
def jjD:XC:=(Oe Tu [IY 6,I4 7 6,OY 8,I4 9 8,Iw 10 .neq 7 9] 10 Tu (OW (Ob [IY 11,IP 12 11,I0 13] 0 (Tn 14 13 12) 14 0 1 (oX (Tf 15 13 5 15) (.cops [La 16,TB 17 5,IE (Li 18 16 17),OQ 19 18,IE (OY 20),TB 21 5,IE (Li 22 20 21),OQ 23 22,(OA 24 29 19 23,OJ),IE (OV 25 24)]) (Ti 25 Tu .skip)) 26 13 1 13 26) [Ta 4]))
def jo0:XF:=⟨[0,1],jjD,[(.t 4)]⟩
theorem jtm:jx ε 24=some jo0:=by kernel_rfl
def jjB:XC:=(Oe (T0 2 4) [TZ 7 2,OY 8,OA 9 25 7 8,OV 10 9] 10 Tu (OW (Ob [OO 11 2,Oh 12 11,IP 13 12,I0 14] 0 (Tn 15 14 13) 15 0 1 (oX [oz 16 14,Ik 17 7 12 14,oU 18 7 17,o8 6 [oJ,oB,oJ,oB,oB,Tj,oB],oy 5 16,o5 7 6 18] (.cops [IE (oE 19 5 6),OQ 20 19,TB 21 20,IE (IZ 22 21 1),IE (IZ 23 21 5),IE (Ig 24 21 (.idxS 1 22 23)),IE (Ow 25 21 24),IE (Oy 26 21 6 6),IE (Ow 27 21 26),IE (Ig 28 21 (.bin .neq 25 27)),IE (I6 29 21 28 oW)]) (Ti 29 Tu .skip)) 30 14 1 14 30) [Ta 4]))
def joY:XF:=⟨[0,1],jjB,[(.t 4)]⟩
theorem jtk:jx ε 26=some joY:=by kernel_rfl
def jjz:XC:=(ov [TT 2,O5 4] (Oe (IK (Ll 11 0 []) 5 11) [TZ 12 2,OY 13,OA 14 13 12 13,OV 15 14] 15 (Tf 16 5 4 16) (.seq (T6 [Ld 17 2,Oh 18 17,IP 19 18,I0 20] 0 21 20 19 21 0 1 [Ik 22 7 18 20,oU 23 7 22,o8 7 [oB,oB,oJ,.nils,oB,oB,.nils],o5 7 7 23] (Ic [TZ 24 2,oU 25 7 7,OY 26,T4 27 (oQ 50 []) [24,25,26]] 27 (oX [TI 28 0 oB [],OY 29,Oq 30 1 8 28 29,oy 8 30] (T6 [oE 31 6 7,Oh 32 31,IP 33 32,I0 34] 2 35 34 33 35 2 3 [Ik 36 7 32 34,oU 37 7 36,o8 10 [oB,oB,oB,oJ,.nils,oB,oB],o5 7 10 37] (.dops [Tq 38 8,IX 39 0 10,Ts 40 39 39 3,IX 41 1 10,T8 42 6 41 41 29,IO (OY 43),(Ix (OA 44 18 42 43) 0 [(3,3)],OJ),IO (Li 45 38 40),TU 1 45 44]) 46 34 34 46) (Oz [Lb 47,oz 48 8,OA 49 32 47 48,OV 50 49] 50 [Lb 51,oz 52 8,Ll 53 1 [((0,1),52)],Oq 54 1 24 51 53,oy 5 54]))) 55 20 20 55) (OW (Oz [Lb 56,I4 57 56,ow 58 (TJ 57)] 58 [Lb 59,OY 60,Ll 61 1 [((0,1),60)],Oq 62 1 24 59 61,oy 5 62]) (Tf 63 5 4 63)))))
def joW:XF:=⟨[0,1],jjz,[(.t 4)]⟩
theorem jti:jx ε 28=some joW:=by kernel_rfl
def jjw:XC:=(Oe (T0 3 6) [TZ 10 3,OY 11,OA 12 13 10 11,OV 13 12] 13 (Th 6) (OU [Ta 7] (T6 [Ld 14 3,Oh 15 14,IP 16 15,I0 17] 0 18 17 16 18 0 1 [Ik 19 7 15 17,oU 20 7 19,o8 9 [oB,oB,oJ,.nils,oB,oB,.nils],o5 7 9 20] (Ic [TZ 21 3,oU 22 7 9,OY 23,T4 24 (oQ 50 []) [21,22,23]] 24 (ov (Th 7) (Iy [TZ 25 3,oU 26 7 9,OY 27,oz 28 2,T4 29 (oQ 33 []) [25,26,27,28]] 29 [Ta 6]))) 30 17 17 30) [oz 31 7,oz 32 31,IZ 33 32 1,IZ 34 32 2,Tm 35 (32,true) 29 [33,34],Tb 36 32 35,oy 6 36]))
def joT:XF:=⟨[0,1,2],jjw,[(.t 6)]⟩
theorem jtf:jx ε 31=some joT:=by kernel_rfl
def jjn:XC:=(Oe [TT 3,ID 4 1,Ol 6] [TZ 10 3,oz 11 2,OA 12 13 10 11,TM 13 12,oz 14 13,Oo 15 14 0 4,O0 16 14 6 15,IH 17 14 2,Lg 18 14 18 [16,17],O6 19 14 .neq 18 1,Lc 20 14 19] 20 (Th 6) (OW (T6 [oE 21 6 4,Oh 22 21,IP 23 22,I0 24] 0 25 24 23 25 0 1 [Ik 26 7 22 24,oU 27 7 26,o8 8 [oB,oB,oB,oJ,.nils,oB,oB],o5 7 8 27] (ov [Tv 28 8,O9 29 28,oz 30 2,OA 31 18 29 30,oy 9 31] (Iy [oz 32 9,OO 33 3,oH 34 33,OO 35 8,oH 36 35,Ik 37 7 34 36,Tl 38 37,oH 39 38,IW 40 .lss 32 39,oz 41 40,IH 42 41 9,Oo 43 41 0 3,Ov 44 41 43,Oo 45 41 0 8,Ov 46 41 45,If 47 41 (.idxS 7 44 46),Oo 48 41 4 47,Ov 49 41 48,If 50 41 (.bin .gtr 42 49),Lc 51 41 50] 51 (Th 6))) 52 24 24 52) [Ta 6]))
def joK:XF:=⟨[0,1,2],jjn,[(.t 6)]⟩
theorem js6:jx ε 50=some joK:=by kernel_rfl
def Lx (lo hi:Nat)(s:St)(v w:AV)(n:Nat)(cs:List AV)(z:Nat):Prop:=Lv lo hi s w n cs z/\(v=w\/(w=.nils/\∃ b,v=.slice b 0 0 0 z true/\Cl s b []/\lo<=b/\b<hi))
theorem jrV {lo hi n z bytes bv xc:Nat}{s:St}{v w:AV}{cs:List AV}{xx:Bool}{K:AV->St->Prop}(h:Lx lo hi s v w n cs z)(hz:0<z)(hby:(n+1) * bytes<=140737488355328)(h63:n+1<=9223372036854775807)(hv:z<=qv s.h bv) :
  jp (J7 z bytes v (.slice bv 0 1 xc z xx) s) K=K (apv z w s) (aps w s (rats s.h bv 0 z)):=by
 obtain⟨V,rfl|⟨rfl,b,rfl,C,_,_⟩⟩:=h
 ·exact JS V hz hby h63 hv
 ·have hn:n=0:=by
   rcases V with ⟨_,h0,_⟩|⟨b,e,_⟩
   ·exact h0
   ·cases e
  subst hn;obtain⟨m,zl,zz,ks,hg⟩:=QB (h:=s.h) (b:=bv) om;rw[zb hg] at hv;have e0:Qcv 1 z=z:=Qbv z;have e1:Qct (Qcu 0 z) m=true:=qG (by show 0+z<=m;omega);have er:jQ zl zz ks z 0=rats s.h bv 0 z:=by
   rw[QZ,qu];exact QaY λi _=>by rw[Qm hg]
  have el:(rats s.h bv 0 z).length=z:=J5 _ _ _ _;have e3:Qcr (jP (rats s.h bv 0 z)) z=true:=Zk (by rw[jN,el]);obtain⟨m',zl',zz',ks',hg'⟩:=C.row;have h4l:=C.len;rw[zb hg'] at h4l;have f4:Qct (Qcu 0 1) 0=false:=rfl;have f5:Qct (Qcv (Qcu 0 1) bytes) 140737488355328=true:=qG hby;have f6:Qct (Qcu 0 1) 9223372036854775807=true:=rfl;have e7:Qct (Qcu 0 (Qcv 0 z)) m'=true:=qG (by show 0+0 * z<=m';omega);have e8:jQ zl' zz' ks' (Qcv 0 z) 0=[]:=by rw[qu,show Qcv 0 z=0 from QaN z];rfl
  have e9:∀ l:List AV,yV [] l=l:=λl=>by rw[yz];rfl
  have e10:Qcv (Qcu 0 1) z=z:=by show(0+1) * z=z;omega
  simp only[J7,Jk,firstCells,hg,hg',yo,jG,e0,e1,cond_true,er,q7,e3,f4,f5,f6,cond_false,e7,e8,e9,e10,St.alloc_eq,jp];unfold apv Go.Sy.aps nw;rw[el]
section
def vz0:VarT:=⟨[],0,[],0,0,false,0⟩
def inB (vars:List VarT)(s:List Int)(a:SetT):Bool:=decide ((vars.getD a.var.toNat vz0).lo<=yT s a.to) && decide (yT s a.to<=(vars.getD a.var.toNat vz0).hi)
def Jz (vars:List VarT)(mv:MoveT)(s:List Int):Bool:=qg vars s && decide (yT s mv.when=1) && mv.acts.all (inB vars s)
theorem jbN {vars:List VarT}{enums:List EnumT}(hv:J8 vars){s:List Int}(hs:qg vars s=true):∀ {l:List SetT} {out:List Int},(∀ a∈l,0<=a.var/\a.var<(vars.length:Int)/\OfK vars enums a.to)->Xz s l out=some (yN s l out)
 |[],out,_=>rfl
 |a :: l,out,h=>by
  obtain⟨h1,h2,h3⟩:=h a (by simp);obtain⟨n,e⟩:=h3.som hs;rw[Xz,e,yN,h3.val hv hs e];show(if a.var<0\/(s.length:Int)<=a.var then none else Xz s l (out.set a.var.toNat n))=_;rw[if_neg (by have:=(vp hs).1;omega)];exact jbN hv hs λb hb=>h b (by simp[hb])
theorem Vr {s:List Int}{i:Nat}:∀ {l:List SetT} {out:List Int},(∀ a∈l,a.var.toNat≠i)->(yN s l out).getD i 0=out.getD i 0
 |[],out,_=>rfl
 |a :: l,out,h=>by
  rw[yN,Vr λb hb=>h b (by simp[hb])];rw[Qam,Qam,List.getElem?_set_ne (h a (by simp))]
theorem kK {s:List Int}:∀ {l:List SetT} {out:List Int} {a:SetT},a∈l->(l.map (·.var)).Nodup->(∀ b∈l,0<=b.var/\b.var<(out.length:Int))->(yN s l out).getD a.var.toNat 0=yT s a.to
 |b :: l,out,a,h,hn,hb=>by
  rw[κ,List.nodup_cons] at hn;rw[yN];have hbb:=hb b (by simp);rcases QaS.1 h with rfl|h
  ·rw[Vr]
   ·rw[Qam,List.getElem?_set_self om];rfl
   ·intro c hc e;have hcc:=hb c (by simp[hc]);have:c.var=a.var:=om
    exact hn.1 (this▸QaJ.2 ⟨c,hc,rfl⟩)
  ·exact kK h hn.2 λc hc=>by rw[Qbc];exact hb c (by simp[hc])
theorem jhz {vars:List VarT}{s:List Int}(hl:s.length=vars.length)(h:∀ i,i<vars.length->(vars.getD i vz0).lo<=s.getD i 0/\s.getD i 0<=(vars.getD i vz0).hi):qg vars s=true:=by
 unfold qg;rw[Qaa,decide_eq_true_eq,Qaj];refine⟨hl,λi hi=>?_⟩;have:=h i (Qbn.1 hi);unfold vz0 at this;simpa using this
theorem jfp {vars:List VarT}{s:List Int}(hs:qg vars s=true){l:List SetT}(hn:(l.map (·.var)).Nodup)(hb:∀ b∈l,0<=b.var/\b.var<(vars.length:Int)):qg vars (yN s l s)=l.all (inB vars s):=by
 obtain⟨r1,r2⟩:=vp hs;have hb':∀ b∈l,0<=b.var/\b.var<(s.length:Int):=λb h=>by have:=hb b h;omega
 rw[QaA,Qaj];constructor
 ·intro h a ha;obtain⟨q1,q2⟩:=vp h;have:=q2 a.var.toNat (by have:=hb a ha;omega);rw[kK ha hn hb'] at this;unfold inB vz0;simpa using this
 ·intro h;refine jhz (by rw[G4,r1]) λi hi=>?_;by_cases e:∃ a∈l,a.var.toNat=i
  ·obtain⟨a,ha,rfl⟩:=e;rw[kK ha hn hb'];have:=h a ha;unfold inB at this;simpa using this
  ·rw[Vr λa ha e2=>e ⟨a,ha,e2⟩];have:=r2 i hi;unfold vz0;exact this
theorem jcN {vars:List VarT}{enums:List EnumT}(hv:J8 vars){mv:MoveT}(K:MoveK vars enums mv){s:List Int}(hs:qg vars s=true):(yP vars mv s).2=Jz vars mv s/\(Jz vars mv s=true->(yP vars mv s).1=yN s mv.acts s):=by
 obtain⟨n,e⟩:=K.when.som hs;have v:=K.when.val hv hs e;have S:=jbN (out:=s) hv hs K.acts;have R:=jfp hs K.nd λb hb=>⟨(K.acts b hb).1,(K.acts b hb).2.1⟩;unfold yP Jz;rw[e,v,S,hs,<-R];by_cases h:n=1
 ·subst h;rw[if_pos rfl];exact⟨by simp,λ_=>rfl⟩
 ·rw[if_neg (by simpa using h),decide_eq_false h];exact⟨rfl,λh=>by cases h⟩
theorem KY {vars:List VarT}{s t:List Int}:∀ {l:List MoveT} {out:List (List Int)},t∈out->t∈yB vars s l out
 |[],out,h=>h
 |mv :: l,out,h=>by
  rw[yB];refine KY ?_;split
  ·exact Qch _ h
  ·exact h
theorem VG {vars:List VarT}{s t:List Int}:∀ {l:List MoveT} {out:List (List Int)} {mv:MoveT},mv∈l->yP vars mv s=(t,true)->t∈yB vars s l out
 |w :: l,out,mv,h,e=>by
  rw[yB];rcases QaS.1 h with rfl|h
  ·refine KY ?_;rw[e];split
   ·simp
   ·rename_i c;by_cases ht:t∈out
    ·exact ht
    ·exact absurd ⟨rfl,ht⟩ c
  ·exact VG h e
def jlk (m:ModT)(s t:List Int):Bool:=qg m.vars s && ((m.moves.any λmv=>Jz m.vars mv s && byM m.vars mv s t) ||(!(m.moves.any λmv=>Jz m.vars mv s) && decide (s=t)))
theorem jlj {m:ModT}(M:ModK m)(s t:List Int):decide (t∈zo m s)=jlk m s t:=by
 unfold jlk zo;cases hs:qg m.vars s with
 |false=>simp
 |true=>
  rw[if_pos rfl,QaQ];have D:=λmv hm=>jcN M.vars (M.moves mv hm) hs;have hE:(yB m.vars s m.moves []).length=0↔(m.moves.any λmv=>Jz m.vars mv s)=false:=by
   rw[QbX,QbY];constructor
   ·intro h mv hm hc;have:=VG (out:=[]) hm (show yP m.vars mv s=((yP m.vars mv s).1,true) by rw[<-(D mv hm).1.trans hc]);rw[h] at this;cases this
   ·intro h;refine List.eq_nil_iff_forall_not_mem.2 λx hx=>?_;rcases YM hx with hx|⟨mv,hm,e⟩
    ·cases hx
    ·exact h mv hm (by rw[<-(D mv hm).1,e])
  have hB:∀ mv∈m.moves,(Jz m.vars mv s && byM m.vars mv s t)=true↔yP m.vars mv s=(t,true):=λmv hm=>by
   obtain⟨d1,d2⟩:=D mv hm;constructor
   ·intro h;rw[Qaa] at h;have hb:=h.2;unfold byM at hb;simp only[Qaa,decide_eq_true_eq] at hb;refine Prod.ext ?_ ?_
    ·rw[d2 h.1,hb.2]
    ·rw[d1,h.1]
   ·intro h;have hc:Jz m.vars mv s=true:=by rw[<-d1,h]
    rw[hc,QaQ];exact joi M.vars (M.moves mv hm) hs h
  by_cases h0:(yB m.vars s m.moves []).length=0
  ·rw[if_pos h0,hE.1 h0];have:(m.moves.any λmv=>Jz m.vars mv s && byM m.vars mv s t)=false:=by
    rw[QbX];intro mv hm h;rw[Qaa] at h;exact QbX.1 (hE.1 h0) mv hm h.1
   rw[this];simp[eq_comm]
  ·have h1:(m.moves.any λmv=>Jz m.vars mv s)=true:=by
    cases h:m.moves.any λmv=>Jz m.vars mv s with
    |true=>rfl
    |false=>exact absurd (hE.2 h) h0
   rw[if_neg h0,h1,QbG,Bool.false_and,Bool.or_false,QaA,decide_eq_true_eq,List.any_eq_true];constructor
   ·intro h;rcases YM h with h|⟨mv,hm,e⟩
    ·cases h
    ·exact⟨mv,hm,(hB mv hm).2 e⟩
   ·rintro ⟨mv,hm,h⟩;exact VG hm ((hB mv hm).1 h)
def ZX (m:ModT)(s:List Int):Bool:=qg m.vars s && (Qan m.vars.length).all λi=>!((m.vars.getD i vz0).beg && decide (s.getD i 0≠(m.vars.getD i vz0).first))
theorem Wv {m:ModT}{s:List Int}(hr:qg m.vars s=true):ZX m s=true↔∀ i (h1:i<m.vars.length) (h2:i<s.length),m.vars[i].beg=true->s[i]=m.vars[i].first:=by
 unfold ZX;rw[hr,QaQ,Qaj];have hl:=(yu.1 hr).1;refine⟨λb i h1 h2 hb=>?_,λb i hi=>?_⟩
 ·have:=b i (Qbn.2 h1);rw[Qam,Qai h1,Qam,Qai h2] at this;simpa[hb] using this
 ·have h1:=Qbn.1 hi;have:=b i h1 om;rw[Qam,Qai h1,Qam,Qai (show i<s.length by omega)];cases hb:m.vars[i].beg with
  |false=>simp[hb]
  |true=>simp[hb,this hb]
theorem G3 {m:ModT}{s:List Int}{i:Nat}(hr:qg m.vars s=true)(h1:i<m.vars.length)(h2:i<s.length)(hb:m.vars[i].beg=true)(hn:¬ s[i]=m.vars[i].first):ZX m s=false:=by
 rw[Qcm];exact λk=>hn ((Wv hr).1 k i h1 h2 hb)
end
end Go.Sy
end
