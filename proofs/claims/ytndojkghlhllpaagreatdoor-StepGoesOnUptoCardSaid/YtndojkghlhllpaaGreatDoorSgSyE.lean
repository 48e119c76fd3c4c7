/-
  Contracts: the code lowered, what it does told by rules, and the contracts of the functions that the law reaches.
-/
import Derived.Test.YtndojkghlhllpaaGreatDoorSgSyD
import Derived.Test.YtndojkghlhllpaaGreatDoorProg
import Derived.KernelRfl
import Derived.Shelf.LaysC
import Derived.Shelf.Strconv.ParseIntPublic10
import Derived.Shelf.RegionOpenPlain
import Derived.WalkKit
import Derived.Deep.LoopGhost
import Derived.Lib.Walk
import Derived.Lib.SliceRun
set_option linter.unusedVariables false
set_option linter.unusedSimpArgs false
open Int renaming reduceToNat → Qaa, natCast_zero → Qam, zero_add → Qaq, ofNat → Qbi, eq_ofNat_of_zero_le → Qbt, natCast_nonneg → Qci
open Nat renaming reduceAdd → Qab, reduceSub → Qac, reduceMul → Qad, reduceBEq → Qae, le_refl → Qao, ble → Qap, beq → Qas, mul → Qav, le_trans → Qaw, add → QaC, succ → QaE, zero_le → QaG, le_max_right → QaI, zero_add → QaK, le_max_left → QaL, mul_le_mul_right → QaM, lt_of_lt_of_le → QaO, lt_or_ge → QaT, not_lt_zero → QaZ, sub → Qbh, sub_zero → Qbj, add_mul → Qbn, zero_mul → Qbp, succ_pos → Qbr, succ_mul → Qbw, le_of_eq → QbC, lt_irrefl → QbD, mod_eq_of_lt → QbP, lt_succ_self → QbR, succ_lt_succ → QbS, min_eq_left → QbU, add_assoc → QbW, add_zero → Qcm, add_comm → Qco, ne_of_lt → Qcq, mul_one → Qcs, le_of_lt → Qcx, lt_trichotomy → QcD, le_succ_of_le → QcE
open Go.Proofs.Tryz renaming prog → Qaf
open List renaming getD_cons_zero → Qag, getD_cons_succ → Qah, map_cons → Qai, map_nil → Qaj, length_cons → Qak, length_append → Qal, length_nil → Qan, getElem_mem → Qat, getElem?_eq_getElem → Qau, getD_eq_getElem?_getD → Qax, cons_append → Qay, take_length → Qaz, all_eq_true → QaA, nil_append → QaF, length_take → QaH, range' → QaJ, getD → QaN, length_map → QaP, eq_nil_of_length_eq_zero → QaQ, length_drop → QaR, range → QaU, mem_append → QaV, append_assoc → QaY, cons → Qba, take_zero → Qbd, all_cons → Qbe, append_nil → Qbk, all_append → Qbl, mem_map → Qbo, mem_singleton → Qbq, take_append_drop → Qbs, mem_iff_getElem → Qbu, mem_cons → Qbv, drop_zero → Qbx, getElem_cons_zero → Qby, map_congr_left → Qbz, range'_succ → QbB, getElem_cons_succ → QbG, getElem_cons_drop → QbH, ext_getElem → QbI, map_map → QbL, mem_of_mem_take → QbM, length_pos_iff → QbO, getElem?_take → QbT, map_append → QbV, getElem?_append_right → QbX, getElem?_map → QbY, getElem?_append_left → QbZ, mem_cons_of_mem → Qca, drop_eq_getElem_cons → Qcb, drop_drop → Qcc, map_toArray → Qcd, drop_length → Qce, getElem?_drop → Qch, length_set → Qcj, take_add_one → Qck, foldl_append → Qcl, countP_singleton → Qcp, take_succ_cons → Qcu, foldr_cons → Qcw, take_take → Qcz, mem_range → QcA, flatMap_cons → QcC
open Bool renaming and_eq_true → Qar, eq_iff_iff → QaW, or_eq_true → QaX, not_eq_true' → Qbb, false_eq_true → Qbc, true_eq_false → QbK, or_eq_false_iff → QbN, true_and → Qcg, and_eq_false_iff → Qcn
open Array renaming length_toList → QaB, getElem?_eq_some_iff → QaD, replicate → Qbg, getD_eq_getD_getElem? → QbE, getElem?_toList → QbJ, toList_map → QbQ, getElem?_setIfInBounds_ne → Qcf, mem_toList_iff → Qcr, toList_append → Qct, getElem?_eq_getElem → Qcv
open Option renaming map_some → QaS, getD_some → Qbf, bind_some → Qbm, map_none → QbA, map_eq_some_iff → QbF, isSome_iff_exists → Qcy
open Function renaming comp_def → QcB
noncomputable section
set_option maxRecDepth 100000
namespace Go.Sy
open Go.Ev Go.Proofs
variable {base:Bs}
set_option maxHeartbeats 4000000 in
theorem k8 (hb:NB base){p mb:Nat}{v1 v2 v3:AV}{fm:Bool}{ts:List (List Nat)}{st:St}(C:Cl st p [v1,v2,v3,.map mb,.bool fm])(M:Mp st mb ts)(nm:List Nat)(l c:Int)(K Kp:AV->St->Prop)
  (hK:if nm∈ts then Kp (kf 162 l c) st else K (.tup []) (mp st mb (mpl (ts ++ [nm])))):XB Qaf base 70 [.ptr p 0,.str nm,.int .i64 l,.int .i64 c] st K Kp:=by
 refine zW x63 (by rfl) (hb.at0 70 (by decide) (by decide) _ _) ?_;simp only[y63,jt,Qai,Qaj,Qag,Qah];rw[(by unfold z63;simp only[qq];rfl:z63=_)];have M:Mp st.bare mb ts:=⟨M.lt,M.get⟩;have hK:if nm∈ts then Kp (kf 162 l c) (bk st st.bare) else K (.tup []) (bk st (mp st.bare mb (mpl (ts ++ [nm])))):=hK
 have C:=C.bar;have hbk:bk st st.bare=st:=rfl;have hbc:back st st.bare=st:=rfl;have hbb:st.bare.bare=st.bare:=rfl;generalize st.bare=s0 at *;have L1:=λK nm=>jpd (st:=s0) (K:=K) M nm;by_cases h:nm∈ts
 ·rw[if_pos h] at hK
  (have zz:=C.r;(repeat'(first|(apply jc<;>intro _)|simp(disch:=first|exact jY|fail) only[jhN,jl5,L1,h,if_true,zQ hb,C.q,C.r,je,ji,jh,jd,jm,jn,jp,jq,jo,rzZ,Qab,Qac,Qad,Qaa,Qae]));(all_goals(clear zz)))
  exact hK
 ·rw[if_neg h] at hK;have U1:=λK=>jrj (st:=s0) (K:=K) M h
  (have zz:=C.r;(repeat'(first|(apply jc<;>intro _)|simp(disch:=first|exact jY|fail) only[jhN,jl5,L1,U1,h,if_false,show((0:Int)+1)=1 from rfl,zQ hb,C.q,C.r,je,ji,jh,jd,jm,jn,jp,jq,jo,rzZ,Qab,Qac,Qad,Qaa,Qae]));(all_goals(clear zz)))
  exact hK
end Go.Sy
end
noncomputable section
set_option maxRecDepth 100000
namespace Go.Sy
open Go.Ev Go.Proofs
variable {base:Bs}
structure Kq (p mb lo:Nat)(s s':St):Prop where
 nx:s.nx<=s'.nx
 fr:s'.fr=s.fr
 get:∀ b,b<lo->b≠p->b≠mb->jx s'.h b=jx s.h b
section
variable {p mb lo:Nat} {s t u:St}
theorem Kq.refl:Kq p mb lo s s:=⟨Qao _,rfl,λ_ _ _ _=>rfl⟩
theorem Kq.trans (h:Kq p mb lo s t)(k:Kq p mb lo t u):Kq p mb lo s u:=⟨Qaw h.nx k.nx,k.fr.trans h.fr,λb h1 h2 h3=>(k.get b h1 h2 h3).trans (h.get b h1 h2 h3)⟩
theorem Kq.nw (h:Kq p mb lo s t)(hl:lo<=t.nx)(ds:List AV):Kq p mb lo s (Go.Sy.nw t ds):=⟨QcE h.nx,h.fr,λb h1 h2 h3=>(Jt (by omega)).trans (h.get b h1 h2 h3)⟩
theorem Kq.wr (h:Kq p mb lo s t){c:Nat}(hc:c=p\/lo<=c)(o:Nat)(vs:List AV):Kq p mb lo s (Go.Sy.wr t c o vs):=⟨h.nx,h.fr,λb h1 h2 h3=>(Jc (by omega)).trans (h.get b h1 h2 h3)⟩
theorem Kq.kl (h:Kq p mb lo s t){c:Nat}(hc:lo<=c):Kq p mb lo s (Go.Sy.kl c t):=⟨h.nx,h.fr,λb h1 h2 h3=>(vq (by omega)).trans (h.get b h1 h2 h3)⟩
theorem Kq.mp (h:Kq p mb lo s t)(es:List (AV×AV)):Kq p mb lo s (Go.Sy.mp t mb es):=⟨h.nx,h.fr,λb h1 h2 h3=>by rw[K2,if_neg h3];exact h.get b h1 h2 h3⟩
theorem Kq.aps (h:Kq p mb lo s t){hi n z:Nat}{v:AV}{ds:List AV}{u:St}(V:Lv lo hi u v n ds z)(hl:lo<=t.nx)(news:List AV):Kq p mb lo s (Go.Sy.aps v t news):=⟨by rw[jr];exact QcE h.nx,by rw[uX];exact h.fr,λb h1 h2 h3=>(V.get t news b (.inl h1) (by omega)).trans (h.get b h1 h2 h3)⟩
theorem Kq.keep (h:Kq p mb lo s t)(k:Keep p t u)(hl:lo<=t.nx):Kq p mb lo s u:=⟨Qaw h.nx k.nx,k.fr.trans h.fr,λb h1 h2 h3=>(k.get b (by omega) h2).trans (h.get b h1 h2 h3)⟩
theorem Kq.cl (h:Kq p mb lo s t){b:Nat}{cs:List AV}(C:Cl s b cs)(h1:b<lo)(h2:b≠p)(h3:b≠mb):Cl t b cs:=C.keep h.nx (h.get b h1 h2 h3)
theorem Kq.bk (h:Kq p mb lo s.bare t):Kq p mb lo s (bk s t):=⟨h.nx,rfl,h.get⟩
end
theorem Mp.nw {s:St}{b:Nat}{ts:List (List Nat)}(h:Mp s b ts)(ds:List AV):Mp (Go.Sy.nw s ds) b ts:=h.keep (Nat.le_succ _) (Jt (by have:=h.lt;omega))
theorem Mp.wr {s:St}{b:Nat}{ts:List (List Nat)}(h:Mp s b ts){c:Nat}(hc:b≠c)(o:Nat)(ds:List AV):Mp (Go.Sy.wr s c o ds) b ts:=h.keep (Qao _) (Jc hc)
theorem WQ {s:St}{b c:Nat}{es:List (AV×AV)}{cs:List AV}(h:c≠b):Cl (mp s b es) c cs=Cl s c cs:=propext ⟨λC=>C.keep (QbC (je5 s b es)) (by rw[K2,if_neg h]),λC=>C.keep (Qao _) (by rw[K2,if_neg h])⟩
structure MS (p mb lo hi:Nat)(m:ModT)(ts:List (List Nat))(v1 v2 v3:AV)(s:St):Prop where
 cp:Cl s p [v1,v2,v3,.map mb,.bool false]
 mp:Mp s mb ts
 l1:Lv lo hi s v1 m.vars.length (fl vaE m.vars) 7
 l2:Lv lo hi s v2 m.enums.length (fl enE m.enums) 4
 l3:Lv lo hi s v3 m.moves.length (fl moE m.moves) 7
 d12:Df v1 v2
 d13:Df v1 v3
 d23:Df v2 v3
 hp:p<lo
 hm:mb<lo
 pm:p≠mb
 lo:lo<=hi
 hi:hi<=s.nx
def MX (p mb lo:Nat)(m:ModT)(ts:List (List Nat))(s:St):Prop:=∃ v1 v2 v3,MS p mb lo s.nx m ts v1 v2 v3 s
section
variable {p mb lo hi:Nat} {m:ModT} {ts us:List (List Nat)} {v1 v2 v3:AV} {s t:St}
theorem Lv.mp {n z:Nat}{v:AV}{cs:List AV}{es:List (AV×AV)}(h:Lv lo hi s v n cs z)(hm:mb<lo):Lv lo hi (Go.Sy.mp s mb es) v n cs z:=h.imp id λ⟨c,h1,h2,h3,h4,h5,h6⟩=>⟨c,h1,h2,h3,by rw[WQ (by omega)];exact h4,h5,h6⟩
theorem MS.nw (S:MS p mb lo hi m ts v1 v2 v3 s)(ds:List AV):MS p mb lo hi m ts v1 v2 v3 (Go.Sy.nw s ds):=by
 obtain⟨C,M,l1,l2,l3,d12,d13,d23,hp,hm,pm,h1,h2⟩:=S;exact⟨by(first|exact C|(simp(disch:=first|assumption|decide|(first|omega|(simp only[jg,jj,ju,jr,jk];first|done|omega))) only[jB,jD,jz,jQ,jA,jF,jG,jJ];exact C)),M.nw ds,by(first|exact l1|(simp(disch:=first|assumption|decide|(first|omega|(simp only[jg,jj,ju,jr,jk];first|done|omega))) only[jB,jD,jz,jQ,jA,jF,jG,jJ];exact l1)),by(first|exact l2|(simp(disch:=first|assumption|decide|(first|omega|(simp only[jg,jj,ju,jr,jk];first|done|omega))) only[jB,jD,jz,jQ,jA,jF,jG,jJ];exact l2)),by(first|exact l3|(simp(disch:=first|assumption|decide|(first|omega|(simp only[jg,jj,ju,jr,jk];first|done|omega))) only[jB,jD,jz,jQ,jA,jF,jG,jJ];exact l3)),d12,d13,d23,hp,hm,pm,h1,by rw[jg];omega⟩
theorem MS.wr (S:MS p mb lo hi m ts v1 v2 v3 s){c:Nat}(hc:hi<=c)(o:Nat)(ds:List AV):MS p mb lo hi m ts v1 v2 v3 (Go.Sy.wr s c o ds):=by
 obtain⟨C,M,l1,l2,l3,d12,d13,d23,hp,hm,pm,h1,h2⟩:=S;exact⟨by(first|exact C|(simp(disch:=first|assumption|decide|(first|omega|(simp only[jg,jj,ju,jr,jk];first|done|omega))) only[jB,jD,jz,jQ,jA,jF,jG,jJ];exact C)),M.wr (by omega) o ds,by(first|exact l1|(simp(disch:=first|assumption|decide|(first|omega|(simp only[jg,jj,ju,jr,jk];first|done|omega))) only[jB,jD,jz,jQ,jA,jF,jG,jJ];exact l1)),by(first|exact l2|(simp(disch:=first|assumption|decide|(first|omega|(simp only[jg,jj,ju,jr,jk];first|done|omega))) only[jB,jD,jz,jQ,jA,jF,jG,jJ];exact l2)),by(first|exact l3|(simp(disch:=first|assumption|decide|(first|omega|(simp only[jg,jj,ju,jr,jk];first|done|omega))) only[jB,jD,jz,jQ,jA,jF,jG,jJ];exact l3)),d12,d13,d23,hp,hm,pm,h1,by rw[jj];omega⟩
theorem MS.take (S:MS p mb lo hi m ts v1 v2 v3 s)(us:List (List Nat)):MS p mb lo hi m us v1 v2 v3 (Go.Sy.mp s mb (mpl us)):=by
 obtain⟨C,M,l1,l2,l3,d12,d13,d23,hp,hm,pm,h1,h2⟩:=S;exact⟨by rw[WQ pm];exact C,M.put,l1.mp hm,l2.mp hm,l3.mp hm,d12,d13,d23,hp,hm,pm,h1,h2⟩
theorem MS.keep (S:MS p mb lo hi m ts v1 v2 v3 s)(k:Keep p s t)(C':Cl t p [v1,v2,v3,.map mb,.bool false]):MS p mb lo hi m ts v1 v2 v3 t:=by
 obtain⟨C,M,l1,l2,l3,d12,d13,d23,hp,hm,pm,h1,h2⟩:=S;exact⟨C',M.keep k.nx (k.get mb M.lt (by omega)),k.lv l1 (.inl hp),k.lv l2 (.inl hp),k.lv l3 (.inl hp),d12,d13,d23,hp,hm,pm,h1,Qaw h2 k.nx⟩
theorem MS.up (S:MS p mb lo hi m ts v1 v2 v3 s){hi':Nat}(h:hi<=hi')(h2:hi'<=s.nx):MS p mb lo hi' m ts v1 v2 v3 s:=by
 obtain⟨C,M,l1,l2,l3,d12,d13,d23,hp,hm,pm,h1,h3⟩:=S;exact⟨C,M,l1.up h,l2.up h,l3.up h,d12,d13,d23,hp,hm,pm,Qaw h1 h,h2⟩
theorem MS.bare (S:MS p mb lo hi m ts v1 v2 v3 s):MS p mb lo hi m ts v1 v2 v3 s.bare:=by
 obtain⟨C,M,l1,l2,l3,d12,d13,d23,hp,hm,pm,h1,h2⟩:=S;exact⟨C.bar,⟨M.lt,M.get⟩,by rw[jG];exact l1,by rw[jG];exact l2,by rw[jG];exact l3,d12,d13,d23,hp,hm,pm,h1,h2⟩
theorem MS.ofbk {u:St}(S:MS p mb lo hi m ts v1 v2 v3 s):MS p mb lo hi m ts v1 v2 v3 (bk u s):=by
 obtain⟨C,M,l1,l2,l3,d12,d13,d23,hp,hm,pm,h1,h2⟩:=S;have e:∀ b cs,Cl s b cs->Cl (bk u s) b cs:=λb cs h=>⟨h.lt,h.row,h.len,h.cell⟩;have el:∀ v n cs z,Lv lo hi s v n cs z->Lv lo hi (bk u s) v n cs z:=λv n cs z h=>h.imp id λ⟨c,h1,h2,h3,h4,h5,h6⟩=>⟨c,h1,h2,h3,e _ _ h4,h5,h6⟩;exact⟨e _ _ C,⟨M.lt,M.get⟩,el _ _ _ _ l1,el _ _ _ _ l2,el _ _ _ _ l3,d12,d13,d23,hp,hm,pm,h1,h2⟩
theorem MS.enum (S:MS p mb lo hi m ts v1 v2 v3 s)(e:EnumT):MS p mb lo (s.nx+1) { m with enums:=m.enums ++ [e] } ts v1 (apv 4 v2 s) v3 (Go.Sy.wr (Go.Sy.aps v2 s (enE e)) p 1 [apv 4 v2 s]):=by
 obtain⟨C,M,l1,l2,l3,d12,d13,d23,hp,hm,pm,h1,h2⟩:=S;have h4:=C.lt;have hn:(Go.Sy.wr (Go.Sy.aps v2 s (enE e)) p 1 [apv 4 v2 s]).nx=s.nx+1:=by rw[jj,jr]
 refine⟨?_,?_,?_,?_,?_,(Df.put l1 h2).2,d13,(Df.put l3 h2).1,hp,hm,pm,by omega,by rw[hn];exact Qao _⟩
 ·exact(cast (l2.cl s (enE e) _ p (.inl hp) h4).symm C:Cl (Go.Sy.aps v2 s (enE e)) p _).wr 1 [apv 4 v2 s]
 ·exact M.keep (by rw[hn];omega) (by rw[Jc (λh=>pm h.symm)];exact l2.get s (enE e) mb (.inl hm) M.lt)
 ·rw[jA (.inl hp)];exact(l1.apsD (Df.symm d12)).up (by omega)
 ·rw[jA (.inl hp),Qal,QH,JL];exact l2.put (JX e) (by omega) rfl
 ·rw[jA (.inl hp)];exact(l3.apsD d23).up (by omega)
end
def KM (p mb lo:Nat)(st:St)(r:KR (ModT×List (List Nat)))(K Kp:AV->St->Prop):Prop:=match r with
 |.ok y=>∀ s',Kq p mb lo st s'->MX p mb lo y.1 y.2 s'->K (.tup []) s'
 |.er c l k=>∀ s',Kq p mb lo st s'->Kp (kf c l k) s'
def Xi (ts:List (List Nat))(nm:List Nat)(l c:Int):KR (List (List Nat)):=if nm∈ts then .er 162 l c else .ok (ts ++ [nm])
def zm (l c:Int):List (List Nat)->List (List Nat)->KR (List (List Nat))
 |ts,[]=>.ok ts
 |ts,n :: ns=>match Xi ts n l c with
  |.er a b d=>.er a b d
  |.ok ts=>zm l c ts ns
def wy (m:ModT)(ts:List (List Nat))(e:EnumT):KR (ModT×List (List Nat)):=match zm e.line e.col ts (e.name :: e.vals) with
 |.er a b d=>.er a b d
 |.ok ts=>.ok ({ m with enums:=m.enums ++ [e] },ts)
theorem Wl {l c:Int}:∀ {xs ys:List (List Nat)} {ts:List (List Nat)},zm l c ts (xs ++ ys)=match zm l c ts xs with | .er a b d=>.er a b d | .ok us=>zm l c us ys
 |[],ys,ts=>rfl
 |x :: xs,ys,ts=>by
  simp only[Qay,zm];cases Xi ts x l c with
  |er a b d=>rfl
  |ok us=>exact Wl
set_option maxHeartbeats 4000000 in
theorem jqx (hb:NB base)(hcl:∀ vs:List (List Nat),0<vs.length->vs.length<=1000000->Tot base 91 [.lst vs.length (vs.map .str)] (.lst vs.length (vs.map .str))){p mb lo:Nat}{m:ModT}{ts:List (List Nat)}{st:St}(e:EnumT)(hv:0<e.vals.length)(hv2:e.vals.length<=1000000)(hE:m.enums.length<=1000000)(H:MX p mb lo m ts st)(K Kp:AV->St->Prop)(hK:KM p mb lo st (wy m ts e) K Kp):XB Qaf base 68 [.ptr p 0,.agg (enE e)] st K Kp:=by
 obtain⟨v1,v2,v3,S⟩:=H;obtain⟨C,M,l1,l2,l3,d12,d13,d23,hp,hm,pm,lo0,hi0⟩:=id S;refine zW x61 (by rfl) (hb.at0 68 (by decide) (by decide) _ _) ?_;simp only[y61,jt,Qai,Qaj,Qag,Qah];rw[(by unfold z61;simp only[qq];rfl:z61=_)];have q0:Kq p mb lo st.bare st.bare:=Kq.refl;have hnx:st.bare.nx=st.nx:=rfl;have S0:=S.bare.nw (enE e);have q1:=q0.nw lo0 (enE e);have Cb:Cl (Go.Sy.nw st.bare (enE e)) st.nx (enE e):=Cl.new st.bare (enE e);unfold wy at hK;repeat'(first|(apply jc<;>intro _)|simp(disch:=first|exact dzG|fail) only[je,ji,jh,jd,jm,jn,jp,jq,jo,rzZ,Qab,Qac,Qad,Qaa,Qae])
 refine k8 hb S0.cp S0.mp _ _ _ _ _ ?_;by_cases h:e.name∈ts
 ·rw[if_pos h];have e1:zm e.line e.col ts (e.name :: e.vals)=.er 162 e.line e.col:=by simp only[zm,Xi,if_pos h]
  rw[e1] at hK;exact hK _ q1.bk
 ·rw[if_neg h];have e1:zm e.line e.col ts (e.name :: e.vals)=zm e.line e.col (ts ++ [e.name]) e.vals:=by simp only[zm,Xi,if_neg h]
  rw[e1] at hK
  replace S0:=S0.take (ts ++ [e.name])
  replace q1:=q1.mp (mpl (ts ++ [e.name]))
  have Cb:Cl (Go.Sy.mp (Go.Sy.nw st.bare (enE e)) mb (mpl (ts ++ [e.name]))) st.nx (enE e):=by rw[WQ (by omega)];exact Cb
  have hn1:(Go.Sy.mp (Go.Sy.nw st.bare (enE e)) mb (mpl (ts ++ [e.name]))).nx=st.nx+1:=rfl;generalize Go.Sy.mp (Go.Sy.nw st.bare (enE e)) mb (mpl (ts ++ [e.name]))=s1 at *
  (have zz:=@Cb.r;(repeat'(first|(apply jc<;>intro _)|simp(disch:=first|exact jY|fail) only[Cb.q,Cb.r,je,ji,jh,jd,jm,jn,jp,jq,jo,rzZ,Qab,Qac,Qad,Qaa,Qae]));(all_goals(clear zz)))
  refine qb e.vals.length (λk L s=>∃ us,zm e.line e.col (ts ++ [e.name]) (e.vals.take k)=.ok us/\MS p mb lo st.nx m us v1 v2 v3 s/\Kq p mb lo st.bare s/\st.nx+1<=s.nx/\Cl s st.nx (enE e)/\Has L 0 (.ptr p 0)/\Has L 3 (.ptr st.nx 0)/\Has L 15 (.lst e.vals.length (e.vals.map .str))) (by first|assumption|omega) (by decide) (by simp(disch:=decide) only[jf,jb]) (by simp(disch:=decide) only[jf,jb]) ?_ (λk L s v h=>(by obtain⟨us,h1,h2,h3,h4,h5,h6,h7,h8⟩:=h;refine⟨us,h1,h2,h3,h4,h5,?_,?_,?_⟩<;>simp(disch:=decide) only[jb]<;>assumption)) (λk L s v h=>(by obtain⟨us,h1,h2,h3,h4,h5,h6,h7,h8⟩:=h;refine⟨us,h1,h2,h3,h4,h5,?_,?_,?_⟩<;>simp(disch:=decide) only[jb]<;>assumption)) (λk L s hk hI hi hn=>?_) (λL s hI=>?_)
  ·refine⟨_,by rw[Qbd,zm],S0,q1,by omega,Cb,?_,?_,?_⟩<;>simp(disch:=decide) only[jb,jf]
  ·obtain⟨us,h1,S1,q1,hnn,Cb,i0,i3,i15⟩:=hI;have tk:e.vals.take (k+1)=e.vals.take k ++ [e.vals[k]]:=yE hk
   (have zz:=@Cb.r;(repeat'(first|(apply jc<;>intro _)|simp(disch:=first|exact jY|fail) only[ja i0,ja i3,ja i15,ja hi,ja hn,jgk hk,Cb.q,Cb.r,je,ji,jh,jd,jm,jn,jp,jq,jo,rzZ,Qab,Qac,Qad,Qaa,Qae]));(all_goals(clear zz)))
   refine k8 hb S1.cp S1.mp _ _ _ _ _ ?_;by_cases h:e.vals[k]∈us
   ·rw[if_pos h];have e2:zm e.line e.col (ts ++ [e.name]) e.vals=.er 162 e.line e.col:=by
     have e3:e.vals=e.vals.take k ++ (e.vals[k] :: e.vals.drop (k+1)):=by rw[QbH,Qbs]
     rw[e3,Wl,h1];simp only[zm,Xi,if_pos h]
    rw[e2] at hK;exact hK _ q1.bk
   ·rw[if_neg h];have e2:zm e.line e.col (ts ++ [e.name]) (e.vals.take (k+1))=.ok (us ++ [e.vals[k]]):=by
     rw[tk,Wl,h1];simp only[zm,Xi,if_neg h]
    repeat'(first|(apply jc<;>intro _)|simp(disch:=first|exact dzG|fail) only[je,ji,jh,jd,jm,jn,jp,jq,jo,rzZ,Qab,Qac,Qad,Qaa,Qae])
    refine⟨⟨_,e2,S1.take _,q1.mp _,by rw[je5];exact hnn,by rw[WQ (by omega)];exact Cb,?_,?_,?_⟩,?_,?_⟩<;>simp(disch:=decide) only[jb]<;>assumption
  ·obtain⟨us,h1,S1,q1,hnn,Cb,i0,i3,i15⟩:=hI;rw[Qaz] at h1;rw[h1] at hK;have T:=λ(h:0<e.vals.length)=>hcl e.vals h hv2;have Cp:=S1.cp;have V2:=S1.l2;have ve2:=V2.eqs;have Ap:=λst' bv xc xx K h hv=>@J0 lo st.nx m.enums.length 4 st' v2 (fl enE m.enums) K 56 bv xc xx h (by decide) (by omega) (by omega) hv;have hqp:st.nx≠p:=by omega
   have S2:=(S1.nw (enE e)).enum e;have S2:=(S2.up (by(first|omega|(simp only[jg,jj,ju,jr,jk];first|done|omega))) (Qao _)).ofbk (u:=st);have q2:=(((q1.nw (by omega) (enE e)).aps V2 (by(first|omega|(simp only[jg,jj,ju,jr,jk];first|done|omega))) (enE e)).wr (.inl rfl) 1 [apv 4 v2 (Go.Sy.nw s (enE e))]).bk;have g0:rat s.h st.nx 0=.str e.name:=(Cb.cell 0 (by rw[JX];decide)).trans (by rw[WO];rfl);have g2:rat s.h st.nx 2=.int .i64 e.line:=(Cb.cell 2 (by rw[JX];decide)).trans (by rw[WO];rfl);have g3:rat s.h st.nx 3=.int .i64 e.col:=(Cb.cell 3 (by rw[JX];decide)).trans (by rw[WO];rfl);have gp:rat s.h p 1=v2:=Cp.cell 1 (by simp only[Qak,Qan];omega);have ln:qt s.h st.nx=4:=by rw[Cb.len,JX]
   (have zz:=aI V2.ln (aI V2.rts (aI @jA (aI @jF (aI @jJ (aI @V2 (aI @jC (aI @jI (aI @jL (aI @Cb.r @Cp.r)))))))));(repeat'(first|(apply jc<;>intro _)|simp(disch:=first|exact jY|fail) only[ja i0,ja i3,T hv,Ap,gO,sm9,gN,sm3,ve2,V2.at,jC,Cb.q,Cp.q,V2.ln,V2.rts,jA,jF,jJ,V2,jC,jI,jL,Cb.r,Cp.r,je,ji,jh,jd,jm,jn,jp,jq,jo,rzZ,Qab,Qac,Qad,Qaa,Qae]));(all_goals(clear zz)))
   have a9:=(sm9 (by omega) g0 rfl).mpr trivial;have a2:=(sm3 (by omega) g2 rfl).mpr trivial;have a3:=(sm3 (by omega) g3 rfl).mpr trivial;have a23:=(gO (by rw[Cp.len];simp only[Qak,Qan];omega) gp ve2).mpr trivial;repeat' apply aI
   all_goals first|exact a9|exact a23|exact a2|exact a3|exact hK _ q2 ⟨_,_,_,S2⟩
end Go.Sy
end
noncomputable section
set_option maxRecDepth 100000
namespace Go.Sy
open Go.Ev Go.Proofs
variable {base:Bs}
mutual
def JM:Ex->Option Ex
 |.mk op num name ks l c=>if op=4 then some (.mk op num name ks l c) else zP ks
def zP:List Ex->Option Ex
 |[]=>none
 |x :: xs=>match JM x with
  |some y=>some y
  |none=>zP xs
end
theorem ua (x:Ex):JM x=if x.op=4 then some x else zP x.kids:=by cases x;rw[JM];rfl
theorem uA:∀ {xs ys:List Ex},zP (xs ++ ys)=match zP xs with|some y=>some y|none=>zP ys
 |[],ys=>rfl
 |x :: xs,ys=>by
  simp only[Qay,zP];cases JM x with
  |some y=>rfl
  |none=>exact uA
def Jh (x:Ex):Ex×Bool:=match JM x with
 |some y=>(y,true)
 |none=>(x,false)
theorem G0.exb {s:St}{a:List AV}{b:Bool}{u:AV}(h:u=.tup [.agg a,.bool b])(ha:a.all pc=true):G0 u (.tup [.agg a,.bool b]) s:=by
 subst h;exact FzD.tup (.cons (.agg (.pc ha)) (.cons (.pc rfl) .nil))
set_option maxHeartbeats 4000000 in
theorem jnv (hb:NB base):∀ x:Ex,wb x=true->Tot base 95 [.agg (eE x)] (.tup [.agg (eE (Jh x).1),.bool (Jh x).2]):=by
 refine Ex.indk λx ih hw=>?_;have hw':x.kids.length<=1000000/\YI x.kids=true:=by cases x;rw[wb,Qar,decide_eq_true_eq] at hw;exact hw
 refine hb.tot ?_ (by first|rfl|simp[pa,pc,qY,QW,JN,Ju,YK,wh,YX,Jj,ZH]) rfl;refine jE jtc (by rfl) (hb.pur 95 1 (by decide)) ?_;simp only[joX,jt,Qai,Qaj,Qag,Qah];rw[(by unfold jjM;simp only[qq];rfl:jjM=_)];repeat'(first|(apply jc<;>intro _)|simp(disch:=first|exact dzG|fail) only[je,ji,jh,jd,jm,jn,jp,jq,jo,rzZ,Qab,Qac,Qad,Qaa,Qae])
 ·rename_i h;have e:Jh x=(x,true):=by unfold Jh;rw[ua,if_pos h]
  rw[e];exact G0.exb rfl (qY x)
 rename_i h;have e0:JM x=zP x.kids:=by rw[ua,if_neg h]
 refine qb x.kids.length (λk L s=>zP (x.kids.take k)=none/\2<=s.nx/\Cl s 0 (eE x)/\Cl s 1 z6/\Has L 1 (.ptr 0 0)/\Has L 2 (.ptr 1 0)/\Has L 13 (.lst x.kids.length (fl eE x.kids))) (by first|assumption|omega) (by decide) (by simp(disch:=decide) only[jf,jb]) (by simp(disch:=decide) only[jf,jb]) ?_ (λk L s v h=>(by obtain⟨h1,h2,h3,h4,h5,h6,h7⟩:=h;refine⟨h1,h2,h3,h4,?_,?_,?_⟩<;>simp(disch:=decide) only[jb]<;>assumption)) (λk L s v h=>(by obtain⟨h1,h2,h3,h4,h5,h6,h7⟩:=h;refine⟨h1,h2,h3,h4,?_,?_,?_⟩<;>simp(disch:=decide) only[jb]<;>assumption)) (λk L s hk hI hi hn=>?_) (λL s hI=>?_)
 ·refine⟨by rw[Qbd,zP],by(first|omega|(simp only[jg,jj,ju,jr,jk];first|done|omega)),?_,Cl.new _ _,?_,?_,?_⟩
  ·have n0:=Cl.new st0 (eE x);exact n0.nw _
  all_goals simp(disch:=decide) only[jb,jf]
 ·obtain⟨h1,h2,C0,C1,i1,i2,i13⟩:=hI;have E:=ih x.kids[k] (Qat hk) (W6 hk hw'.2);have tk:x.kids.take (k+1)=x.kids.take k ++ [x.kids[k]]:=yE hk;cases hf:JM x.kids[k] with
  |some y=>
   have e:Jh x=(y,true):=by
    unfold Jh;have e3:x.kids=x.kids.take k ++ (x.kids[k] :: x.kids.drop (k+1)):=by rw[QbH,Qbs]
    rw[e0,e3,uA,h1];simp only[zP,hf]
   have e2:Jh x.kids[k]=(y,true):=by unfold Jh;rw[hf]
   rw[e2] at E;unfold z6 at C1
   (have zz:=aI C0.r C1.r;(repeat'(first|(apply jc<;>intro _)|simp(disch:=first|exact jY|fail) only[ja i1,ja i2,ja i13,ja hi,ja hn,E,C0.q,C1.q,C0.r,C1.r,je,ji,jh,jd,jm,jn,jp,jq,jo,rzZ,Qab,Qac,Qad,Qaa,Qae]));(all_goals(clear zz)))
   rw[e];exact G0.exb rfl (qY y)
  |none=>
   have e2:Jh x.kids[k]=(x.kids[k],false):=by unfold Jh;rw[hf]
   rw[e2] at E
   (have zz:=aI C0.r C1.r;(repeat'(first|(apply jc<;>intro _)|simp(disch:=first|exact jY|fail) only[ja i1,ja i2,ja i13,ja hi,ja hn,E,C0.q,C1.q,C0.r,C1.r,je,ji,jh,jd,jm,jn,jp,jq,jo,rzZ,Qab,Qac,Qad,Qaa,Qae]));(all_goals(clear zz)))
   refine⟨⟨?_,by(first|omega|(simp only[jg,jj,ju,jr,jk];first|done|omega)),by(first|exact C0|(simp(disch:=first|assumption|decide|(first|omega|(simp only[jg,jj,ju,jr,jk];first|done|omega))) only[jB,jD,jz,jQ,jA,jF,jG,jJ];exact C0)),by(first|exact C1|(simp(disch:=first|assumption|decide|(first|omega|(simp only[jg,jj,ju,jr,jk];first|done|omega))) only[jB,jD,jz,jQ,jA,jF,jG,jJ];exact C1)),?_,?_,?_⟩,?_,?_⟩
   ·rw[tk,uA,h1];simp only[zP,hf]
   all_goals(simp(disch:=decide) only[jb];assumption)
 ·obtain⟨h1,h2,C0,C1,i1,i2,i13⟩:=hI;rw[Qaz] at h1;have e:Jh x=(x,false):=by unfold Jh;rw[e0,h1]
  unfold z6 at C1
  (have zz:=aI C0.r C1.r;(repeat'(first|(apply jc<;>intro _)|simp(disch:=first|exact jY|fail) only[ja i1,ja i2,C0.q,C1.q,C0.r,C1.r,je,ji,jh,jd,jm,jn,jp,jq,jo,rzZ,Qab,Qac,Qad,Qaa,Qae]));(all_goals(clear zz)))
  rw[e,<-qG];exact G0.exb rfl (qY x)
end Go.Sy
end
noncomputable section
set_option maxRecDepth 100000
namespace Go.Sy
open Go.Ev Go.Proofs
variable {base:Bs}
section
variable {st:St} {K:AV->St->Prop}
theorem jgF (k:IntKind)(a b:Int):jl (Jg .add (.int k a) (.int k b) st) K=K (.int k (qT k (a+b))) st:=by
 cases k<;>rfl
theorem jgj (k:IntKind)(a b:Int):jl (Jg .sub (.int k a) (.int k b) st) K=K (.int k (qT k (a - b))) st:=by
 cases k<;>rfl
theorem jgs (k:IntKind)(a b:Int):jl (Jg .mul (.int k a) (.int k b) st) K=K (.int k (qT k (a * b))) st:=by
 cases k<;>rfl
theorem jpc (k:IntKind)(a:Int):jl (unV .neg (.int k a) st) K=K (.int k (qT k (-a))) st:=by
 have e:k.wrap (0 - a)=qT k (-a):=by rw[<-Yj,Int.zero_sub]
 simp only[unV,XZ,O,e,jl]
theorem jgD (k j:IntKind)(a:Int):jl (jqI k (.int j a) st) K=K (.int k (qT k a)) st:=by
 cases k<;>cases j<;>rfl
end
def kJ (b:Bool):Int:=if b then 1 else 0
def jfL (op num a b:Int):Int:=
 if op=5 then qT .i64 (-a) else if op=6 then qT .i64 (1 - a) else if op=14 then qT .i64 (a * b) else if op=15 then qT .i64 (a+b) else if op=16 then qT .i64 (a - b)
 else if op=17\/op=30 then kJ (decide (a=b)) else if op=18 then kJ (decide (a≠b)) else if op=19 then kJ (decide (a<b)) else if op=20\/op=29 then kJ (decide (a<=b))
 else if op=21 then kJ (decide (b<a)) else if op=22 then kJ (decide (b<=a)) else if op=27 then qT .i64 (a * b) else if op=28 then max a b else num
mutual
def Ji:Ex->Int
 |.mk op num _ ks _ _=>jfL op num ((Qb ks).getD 0 0) ((Qb ks).getD 1 0)
def Qb:List Ex->List Int
 |[]=>[]
 |x :: xs=>Ji x :: Qb xs
end
mutual
def JV:Ex->Bool
 |.mk _ _ _ ks _ _=>decide (ks.length<=2) && JH ks
def JH:List Ex->Bool
 |[]=>true
 |x :: xs=>JV x && JH xs
end
theorem jir (x:Ex):Ji x=jfL x.op x.num ((Qb x.kids).getD 0 0) ((Qb x.kids).getD 1 0):=by cases x;rw[Ji];rfl
theorem GB:∀ {xs:List Ex} {k:Nat} (h:k<xs.length),JH xs=true->JV xs[k]=true
 |x :: xs,0,_,h=>by rw[JH,Qar] at h;exact h.1
 |x :: xs,k+1,hk,h=>by rw[JH,Qar] at h;exact GB (xs:=xs) (k:=k) (by simpa using hk) h.2
theorem K7:∀ {xs:List Ex} {k:Nat} (h:k<xs.length),zP xs=none->JM xs[k]=none
 |x :: xs,0,_,h=>by
  rw[zP] at h;cases hx:JM x with
  |none=>exact hx
  |some y=>rw[hx] at h;cases h
 |x :: xs,k+1,hk,h=>by
  rw[zP] at h;cases hx:JM x with
  |none=>rw[hx] at h;exact K7 (xs:=xs) (k:=k) (by simpa using hk) h
  |some y=>rw[hx] at h;cases h
def kM (ks:List Ex)(k:Nat):List AV:=[.int .i64 ((Qb (ks.take k)).getD 0 0),.int .i64 ((Qb (ks.take k)).getD 1 0)]
theorem jcG (ks:List Ex)(k:Nat):(kM ks k).length=2:=nr rfl
theorem jnK {ks:List Ex}{k:Nat}(hk:k<ks.length)(h2:ks.length<=2):upd (kM ks k) k [.int .i64 (Ji ks[k])]=kM ks (k+1):=by
 match ks,k with
 |[a],0=>rfl
 |[a,b],0=>rfl
 |[a,b],1=>rfl
 |[a],k+1=>simp at hk
 |[a,b],k+2=>exact absurd hk (by simp)
 |a :: b :: c :: l,_=>simp at h2
theorem jr5 (hb:NB base)(q:Bool):Tot base 124 [.bool q] (.int .i64 (kJ q)):=by
 refine hb.tot ?_ rfl rfl;refine jE jsQ (by rfl) (hb.pur 124 1 (by decide)) ?_;simp only[joB,jt,Qai,Qaj,Qag,Qah];rw[(by unfold jjq;simp only[qq];rfl:jjq=_)];repeat'(first|(apply jc<;>intro _)|simp(disch:=first|exact dzG|fail) only[je,ji,jh,jd,jm,jn,jp,jq,jo,rzZ,Qab,Qac,Qad,Qaa,Qae])
 ·rename_i h;subst h;exact G0.v rfl rfl
 ·rename_i h;have h:q=false:=by simpa using h
  subst h;exact G0.v rfl rfl
set_option maxHeartbeats 4000000 in
theorem jfN (hb:NB base):∀ x:Ex,JV x=true->JM x=none->Tot base 96 [.agg (eE x)] (.int .i64 (Ji x)):=by
 refine Ex.indk λx ih ht hf=>?_;have ht':x.kids.length<=2/\JH x.kids=true:=by cases x;rw[JV,Qar,decide_eq_true_eq] at ht;exact ht
 have hop:x.op≠4:=λh=>by rw[ua,if_pos h] at hf;cases hf
 rw[ua,if_neg hop] at hf;refine hb.tot ?_ (by first|rfl|simp[pa,pc,qY,QW,JN,Ju,YK,wh,YX,Jj,ZH]) rfl;refine jE jtb (by rfl) (hb.pur 96 1 (by decide)) ?_;simp only[joW,jt,Qai,Qaj,Qag,Qah];rw[(by unfold jjL;simp only[qq];rfl:jjL=_)];repeat'(first|(apply jc<;>intro _)|simp(disch:=first|exact dzG|fail) only[je,ji,jh,jd,jm,jn,jp,jq,jo,rzZ,Qab,Qac,Qad,Qaa,Qae])
 refine qb x.kids.length (λk L s=>2<=s.nx/\Cl s 0 (eE x)/\Cl s 1 (kM x.kids k)/\Has L 1 (.ptr 0 0)/\Has L 3 (.ptr 1 0)/\Has L 8 (.lst x.kids.length (fl eE x.kids))) (by first|assumption|omega) (by decide) (by simp(disch:=decide) only[jf,jb]) (by simp(disch:=decide) only[jf,jb]) ?_ (λk L s v h=>(by obtain⟨h2,h3,h4,h5,h6,h7⟩:=h;refine⟨h2,h3,h4,?_,?_,?_⟩<;>simp(disch:=decide) only[jb]<;>assumption)) (λk L s v h=>(by obtain⟨h2,h3,h4,h5,h6,h7⟩:=h;refine⟨h2,h3,h4,?_,?_,?_⟩<;>simp(disch:=decide) only[jb]<;>assumption)) (λk L s hk hI hi hn=>?_) (λL s hI=>?_)
 ·refine⟨by(first|omega|(simp only[jg,jj,ju,jr,jk];first|done|omega)),?_,Cl.new _ _,?_,?_,?_⟩
  ·have n0:=Cl.new st0 (eE x);exact n0.nw _
  all_goals simp(disch:=decide) only[jb,jf]
 ·obtain⟨h2,C0,C1,i1,i3,i8⟩:=hI;have E:=ih x.kids[k] (Qat hk) (GB hk ht'.2) (K7 hk hf);have ap:=jnK hk ht'.1;have hk2:k<2:=by omega
  (have zz:=aI @jcG (aI C0.r C1.r);(repeat'(first|(apply jc<;>intro _)|simp(disch:=first|exact jY|fail) only[ja i1,ja i3,ja i8,ja hi,ja hn,E,jcG,C0.q,C1.q,jcG,C0.r,C1.r,je,ji,jh,jd,jm,jn,jp,jq,jo,rzZ,Qab,Qac,Qad,Qaa,Qae]));(all_goals(clear zz)))
  refine⟨⟨by(first|omega|(simp only[jg,jj,ju,jr,jk];first|done|omega)),by(first|exact C0|(simp(disch:=first|assumption|decide|(first|omega|(simp only[jg,jj,ju,jr,jk];first|done|omega))) only[jB,jD,jz,jQ,jA,jF,jG,jJ];exact C0)),Cl.cv (Cl.wr (?_:Cl _ 1 (kM x.kids k)) k _) ap,?_,?_,?_⟩,?_,?_⟩
  ·(first|exact C1|(simp(disch:=first|assumption|decide|(first|omega|(simp only[jg,jj,ju,jr,jk];first|done|omega))) only[jB,jD,jz,jQ,jA,jF,jG,jJ];exact C1))
  all_goals(simp(disch:=decide) only[jb];assumption)
 ·obtain⟨h2,C0,C1,i1,i3,i8⟩:=hI;have hc:=jir x;have ea:kM x.kids x.kids.length=[.int .i64 ((Qb x.kids).getD 0 0),.int .i64 ((Qb x.kids).getD 1 0)]:=by unfold kM;rw[Qaz]
  rw[ea] at C1;generalize (Qb x.kids).getD 0 0=a at *;generalize (Qb x.kids).getD 1 0=b at *;rw[hc];have B:=jr5 hb
  (have zz:=aI C0.r C1.r;(repeat'(first|(apply jc<;>intro _)|simp(disch:=first|exact jY|fail) only[ja i1,ja i3,ja i8,B,jpc,jgj,jgs,jgF,C0.q,C1.q,C0.r,C1.r,je,ji,jh,jd,jm,jn,jp,jq,jo,rzZ,Qab,Qac,Qad,Qaa,Qae]));(all_goals(clear zz)))
  all_goals(refine G0.v (congrArg _ ?_) rfl;unfold jfL;simp_all)
end Go.Sy
end
noncomputable section
set_option maxRecDepth 100000
namespace Go.Sy
open Go.Ev Go.Proofs
variable {base:Bs}
def stW (n:Int)(v:VarT):Int:=qT .u64 (n * qT .u64 (qT .u64 (qT .u64 v.hi - qT .u64 v.lo)+1))
def Zf (vars:List VarT):Int:=qT .i64 (vars.foldl stW 1)
set_option maxHeartbeats 4000000 in
theorem jbg (hb:NB base)(vars:List VarT)(hl:vars.length<=1000000)(n2 n3:Nat)(c2 c3:List AV):PL Qaf base 36 [.agg [.lst vars.length (fl vaE vars),.lst n2 c2,.lst n3 c3]] (.ok (.int .i64 (Zf vars))):=by
 refine Jr x33 (by rfl) (hb.pur 36 5 (by decide)) rfl ?_;simp only[y33,jt,Qai,Qaj,Qag,Qah];rw[(by unfold z33;simp only[qq];rfl:z33=_)];repeat'(first|(apply jc<;>intro _)|simp(disch:=first|exact dzG|fail) only[je,ji,jh,jd,jm,jn,jp,jq,jo,rzZ,Qab,Qac,Qad,Qaa,Qae])
 refine qb vars.length (λk L s=>1<=s.nx/\Has L 3 (.int .u64 ((vars.take k).foldl stW 1))/\Has L 7 (.lst vars.length (fl vaE vars))) (by first|assumption|omega) (by decide) (by simp(disch:=decide) only[jf,jb]) (by simp(disch:=decide) only[jf,jb]) ?_ (λk L s v h=>(by obtain⟨h1,h2,h3⟩:=h;refine⟨h1,?_,?_⟩<;>simp(disch:=decide) only[jb]<;>assumption)) (λk L s v h=>(by obtain⟨h1,h2,h3⟩:=h;refine⟨h1,?_,?_⟩<;>simp(disch:=decide) only[jb]<;>assumption)) (λk L s hk hI hi hn=>?_) (λL s hI=>?_)
 ·refine⟨by(first|omega|(simp only[jg,jj,ju,jr,jk];first|done|omega)),?_,?_⟩<;>simp(disch:=decide) only[jb,jf,Qbd,List.foldl_nil]
 ·obtain⟨h1,i3,i7⟩:=hI;have tk:vars.take (k+1)=vars.take k ++ [vars[k]]:=yE hk;have A1:=λa b st K=>@jgF st K .u64 a b;have A2:=λa b st K=>@jgj st K .u64 a b;repeat'(first|(apply jc<;>intro _)|simp(disch:=first|exact dzG|fail) only[ja i3,ja i7,ja hi,ja hn,jgD,jgs,A1,A2,je,ji,jh,jd,jm,jn,jp,jq,jo,rzZ,Qab,Qac,Qad,Qaa,Qae])
  refine⟨⟨by(first|omega|(simp only[jg,jj,ju,jr,jk];first|done|omega)),?_,?_⟩,?_,?_⟩
  ·rw[tk,Qcl];exact⟨rfl,rfl⟩
  all_goals(simp(disch:=decide) only[jb];assumption)
 ·obtain⟨h1,i3,i7⟩:=hI;rw[Qaz] at i3;repeat'(first|(apply jc<;>intro _)|simp(disch:=first|exact dzG|fail) only[ja i3,jgD,je,ji,jh,jd,jm,jn,jp,jq,jo,rzZ,Qab,Qac,Qad,Qaa,Qae])
  exact G0.v rfl rfl
end Go.Sy
end
noncomputable section
set_option maxRecDepth 100000
namespace Go.Sy
open Go.Ev Go.Proofs
variable {base:Bs}
def Jn (vars:List VarT)(enums:List EnumT):VarT->List Ex->KR VarT
 |v,[]=>.ok v
 |v,x :: xs=>match yv vars enums false x v.kind v.enum with
  |.er a b c=>.er a b c
  |.ok y=>match JM y with
   |some z=>.er 161 z.line z.col
   |none=>if Ji y<v.lo\/v.hi<Ji y then .er 164 x.line x.col else Jn vars enums { v with beg:=true,first:=Ji y } xs
theorem kK {vars:List VarT}{enums:List EnumT}:∀ {xs ys:List Ex} {v:VarT},Jn vars enums v (xs ++ ys)=match Jn vars enums v xs with | .er a b c=>.er a b c | .ok u=>Jn vars enums u ys
 |[],ys,v=>rfl
 |x :: xs,ys,v=>by
  simp only[Qay,Jn];cases yv vars enums false x v.kind v.enum with
  |er a b c=>rfl
  |ok y=>
   dsimp only;cases JM y with
   |some z=>rfl
   |none=>
    dsimp only;split
    ·rfl
    ·exact kK
def en0:EnumT:=⟨[],[],0,0⟩
def Qz (enums:List EnumT)(nm:List Nat):Int:=fi (λx=>decide (x.name=nm)) enums
def vY (enums:List EnumT)(d:DeclT):KR VarT:=
 if d.ty=[98,111,111,108] then .ok ⟨d.name,2,[],0,1,false,0⟩
 else if 0<=Qz enums d.ty then .ok ⟨d.name,3,d.ty,0,((enums.getD (Qz enums d.ty).toNat en0).vals.length:Int) - 1,false,0⟩
 else if d.ty≠[] then .er 161 d.line d.col
 else if d.hi<d.lo then .er 164 d.line d.col
 else if 1024<=d.hi - d.lo then .er 165 d.line d.col
 else .ok ⟨d.name,1,[],d.lo,d.hi,false,0⟩
def ki (m:ModT)(ts:List (List Nat))(d:DeclT)(v:VarT):KR (ModT×List (List Nat)):=
 if 281474976710656<Zf (m.vars ++ [v]) then .er 165 d.line d.col else .ok ({ m with vars:=m.vars ++ [v] },ts)
def wG (m:ModT)(ts:List (List Nat))(d:DeclT)(v:VarT):KR (ModT×List (List Nat)):=match Jn m.vars m.enums v d.begins with
 |.er a b c=>.er a b c
 |.ok v=>ki m ts d v
def XA (m:ModT)(ts:List (List Nat))(d:DeclT):KR (ModT×List (List Nat)):=match Xi ts d.name d.line d.col with
 |.er a b c=>.er a b c
 |.ok ts=>match vY m.enums d with
  |.er a b c=>.er a b c
  |.ok v=>wG m ts d v
section
variable {p mb lo hi:Nat} {m:ModT} {ts us:List (List Nat)} {v1 v2 v3:AV} {s t:St}
theorem MS.ck (S:MS p mb lo hi m ts v1 v2 v3 s):Ck p v1 v2 v3 (.map mb) m.vars m.enums false s:=by
 obtain⟨C,M,l1,l2,l3,d12,d13,d23,hp,hm,pm,h1,h2⟩:=S;refine⟨C,l1.lr,l2.lr,?_,?_⟩
 ·intro b k z x e;rcases l1 with ⟨h,_⟩|⟨c,h,h2,_⟩
  ·rw[h] at e;cases e
  ·rw[h] at e;cases e;omega
 ·intro b k z x e;rcases l2 with ⟨h,_⟩|⟨c,h,h2,_⟩
  ·rw[h] at e;cases e
  ·rw[h] at e;cases e;omega
theorem MS.var (S:MS p mb lo hi m ts v1 v2 v3 s)(e:VarT):MS p mb lo (s.nx+1) { m with vars:=m.vars ++ [e] } ts (apv 7 v1 s) v2 v3 (Go.Sy.wr (Go.Sy.aps v1 s (vaE e)) p 0 [apv 7 v1 s]):=by
 obtain⟨C,M,l1,l2,l3,d12,d13,d23,hp,hm,pm,h1,h2⟩:=S;have h4:=C.lt;have hn:(Go.Sy.wr (Go.Sy.aps v1 s (vaE e)) p 0 [apv 7 v1 s]).nx=s.nx+1:=by rw[jj,jr]
 refine⟨?_,?_,?_,?_,?_,(Df.put l2 h2).1,(Df.put l3 h2).1,d23,hp,hm,pm,by omega,by rw[hn];exact Qao _⟩
 ·exact(cast (l1.cl s (vaE e) _ p (.inl hp) h4).symm C:Cl (Go.Sy.aps v1 s (vaE e)) p _).wr 0 [apv 7 v1 s]
 ·exact M.keep (by rw[hn];omega) (by rw[Jc (λh=>pm h.symm)];exact l1.get s (vaE e) mb (.inl hm) M.lt)
 ·rw[jA (.inl hp),Qal,QH,JL];exact l1.put (Xg e) (by omega) rfl
 ·rw[jA (.inl hp)];exact(l2.apsD d12).up (by omega)
 ·rw[jA (.inl hp)];exact(l3.apsD d13).up (by omega)
end
def va0:List AV:=[.str [],.int .i64 0,.str [],.int .i64 0,.int .i64 0,.bool false,.int .i64 0]
def dQ (st:St)(K:AV->St->Prop):Out->Prop:=Xa Qaf y62.res λv s=>K v (back st s)
def dP (st:St)(Kp:AV->St->Prop):AV->Sl->St->Prop:=λv _ s=>Kp v (bk st s)
structure DS (p mb lo q:Nat)(m:ModT)(ts:List (List Nat))(v1 v2 v3:AV)(d:DeclT)(v:VarT)(st:St)(L:Sl)(s:St):Prop where
 S:MS p mb lo q m ts v1 v2 v3 s
 k:Kq p mb lo st.bare s
 nx:q+2<=s.nx
 c3:Cl s q (qh d)
 c4:Cl s (q+1) (vaE v)
 i0:Has L 0 (.ptr p 0)
 i3:Has L 3 (.ptr q 0)
 i4:Has L 4 (.ptr (q+1) 0)
theorem jj7 (hb:NB base)(vars:List VarT)(hl:vars.length<=1000000){st:St}{v1 v2 v3:AV}{n2 n3:Nat}{c2 c3:List AV}(h1:Lr st v1 vars.length (fl vaE vars))(h2:Lr st v2 n2 c2)(h3:Lr st v3 n3 c3)(p2:c2.all pc=true)(p3:c3.all pc=true)(K Kp:AV->St->Prop) :
  XB Qaf base 36 [.agg [v1,v2,v3]] st K Kp=K (.int .i64 (Zf vars)) st:=by
 refine(jbg hb vars hl n2 n3 c2 c3).xb (yC (jhD (jfk (h1.fz (d:=6) (yT YK vars)) (jfk (h2.fz (d:=6) p2) (jfk (h3.fz (d:=6) p3) jrY)))) Yy) (λst=>hb.no 36 (by decide) _ _) K Kp
set_option maxHeartbeats 4000000 in
theorem jqF (hb:NB base){p mb lo q:Nat}{m:ModT}{ts:List (List Nat)}{v1 v2 v3:AV}{d:DeclT}{v:VarT}{st:St}{L:Sl}{s:St}(D:DS p mb lo q m ts v1 v2 v3 d v st L s)(hV:m.vars.length<=900000)(K Kp:AV->St->Prop)(hK:KM p mb lo st (ki m ts d v) K Kp):xC Qaf base jeu L s (dQ st K) (dP st Kp):=by
 obtain⟨S,k,nx,C3,C4,i0,i3,i4⟩:=D;obtain⟨C,M,l1,l2,l3,d12,d13,d23,hp,hm,pm,lo0,hi0⟩:=id S;have ve1:=l1.eqs;have Ap:=λst' bv xc xx K h hv=>@J0 lo q m.vars.length 7 st' v1 (fl vaE m.vars) K 72 bv xc xx h (by decide) (by omega) (by omega) hv;have hqp:q≠p:=by omega
 have hqp1:q+1≠p:=by omega
 have S3:=(S.nw (vaE v)).var v;have q2:=(((k.nw (by omega) (vaE v)).aps l1 (by(first|omega|(simp only[jg,jj,ju,jr,jk];first|done|omega))) (vaE v)).wr (.inl rfl) 0 [apv 7 v1 (Go.Sy.nw s (vaE v))]).bk;have S33:=λK Kp=>jj7 hb (m.vars ++ [v]) (by simp;omega) S3.l1.lr S3.l2.lr S3.l3.lr (yT JN _) (yT YX _) K Kp;have S2:=(S3.up (by(first|omega|(simp only[jg,jj,ju,jr,jk];first|done|omega))) (Qao _)).ofbk (u:=st);have gp:rat s.h p 0=v1:=C.cell 0 (by simp only[Qak,Qan];omega);clear S3;simp only[Wh] at S33;unfold dQ dP y62;rw[(by unfold jeu;simp only[qq];rfl:jeu=_)];unfold ki at hK;by_cases hs:281474976710656<Zf (m.vars ++ [v])
 ·rw[if_pos hs] at hK
  (have zz:=aI @l1.ln (aI @l1.rts (aI @jA (aI @jF (aI @jJ (aI @l1 (aI @jC (aI @jI (aI @jL (aI C3.r (aI C4.r C.r))))))))));(repeat'(first|(apply jc<;>intro _)|simp(disch:=first|exact jY|fail) only[ja i0,ja i3,ja i4,Ap,l1.at,S33,hs,zQ hb,jC,C3.q,C4.q,C.q,l1.ln,l1.rts,jA,jF,jJ,l1,jC,jI,jL,C3.r,C4.r,C.r,je,ji,jh,jd,jm,jn,jp,jq,jo,rzZ,Qab,Qac,Qad,Qaa,Qae]));(all_goals(clear zz)))
  exact hK _ q2
 ·rw[if_neg hs] at hK
  (have zz:=aI @l1.ln (aI @l1.rts (aI @jA (aI @jF (aI @jJ (aI @l1 (aI @jC (aI @jI (aI @jL (aI C3.r (aI C4.r C.r))))))))));(repeat'(first|(apply jc<;>intro _)|simp(disch:=first|exact jY|fail) only[ja i0,ja i3,ja i4,Ap,l1.at,S33,hs,jC,C3.q,C4.q,C.q,l1.ln,l1.rts,jA,jF,jJ,l1,jC,jI,jL,C3.r,C4.r,C.r,je,ji,jh,jd,jm,jn,jp,jq,jo,rzZ,Qab,Qac,Qad,Qaa,Qae]));(all_goals(clear zz)))
  exact hK _ q2 ⟨_,_,_,S2⟩
end Go.Sy
end
noncomputable section
set_option maxRecDepth 100000
namespace Go.Sy
open Go.Ev Go.Proofs
variable {base:Bs}
mutual
theorem KV {vars:List VarT}{enums:List EnumT}:∀ (fm:Bool) (x y:Ex) (m:MtT),JV x=true->yd vars enums fm x=.ok (y,m)->JV y=true
 |fm,.mk op num name ks l c,y,m,ht,h=>by
  rw[yd] at h;split at h
  ·cases h;exact ht
  ·split at h
   ·cases h;exact ht
   ·split at h
    ·unfold zq at h;split at h
     ·cases h;rfl
     ·split at h
      ·cases h
      ·cases h;rfl
    ·split at h
     ·cases h
     ·rename_i r hr;rw[JV,Qar,decide_eq_true_eq] at ht;have h2:=UX _ _ r.1 r.2 ht.2 hr;have h3:r.1.length=ks.length:=(Jl hr).1;unfold Yq at h;have e:∀ o n nm l c,JV (.mk o n nm r.1 l c)=true:=λo n nm l c=>by rw[JV,Qar,decide_eq_true_eq];exact⟨by omega,h2⟩
      split at h
      ·cases h
      ·split at h
       ·cases h;exact e _ _ _ _ _
       ·split at h
        ·cases h
        ·cases h;exact e _ _ _ _ _
theorem UX {vars:List VarT}{enums:List EnumT}:∀ (fm:Bool) (xs ys:List Ex) (ms:List MtT),JH xs=true->qk vars enums fm xs=.ok (ys,ms)->JH ys=true
 |fm,[],ys,ms,_,h=>by rw[qk] at h;cases h;rfl
 |fm,x :: xs,ys,ms,ht,h=>by
  rw[JH,Qar] at ht;rw[qk] at h;cases hx:yd vars enums fm x with
  |er a b d=>rw[hx] at h;cases h
  |ok y=>
   rw[hx] at h;cases hr:qk vars enums fm xs with
   |er a b d=>rw[hr] at h;cases h
   |ok r=>
    rw[hr] at h;cases h;rw[JH,Qar];exact⟨KV fm x y.1 y.2 ht.1 hx,UX fm xs r.1 r.2 ht.2 hr⟩
end
theorem jcS {vars:List VarT}{enums:List EnumT}{fm:Bool}{x y:Ex}{w:Int}{en:List Nat}(ht:JV x=true)(h:yv vars enums fm x w en=.ok y):JV y=true:=by
 unfold yv at h;split at h
 ·cases h
 ·rename_i r hr;split at h
  ·cases h
  ·cases h;exact KV fm x r.1 r.2 ht hr
mutual
theorem Yu:∀ x:Ex,JV x=true->wb x=true
 |.mk op num name ks l c,h=>by
  rw[JV,Qar,decide_eq_true_eq] at h;rw[wb,Qar,decide_eq_true_eq];exact⟨by omega,kY ks h.2⟩
theorem kY:∀ xs:List Ex,JH xs=true->YI xs=true
 |[],_=>rfl
 |x :: xs,h=>by
  rw[JH,Qar] at h;rw[YI,Qar];exact⟨Yu x h.1,kY xs h.2⟩
end
def OkE (x:Ex):Prop:=JV x=true/\ZG x=true
section
variable {p mb lo q:Nat} {m:ModT} {ts:List (List Nat)} {v1 v2 v3:AV} {d:DeclT} {v:VarT} {st:St} {L:Sl} {s:St}
theorem DS.push (D:DS p mb lo q m ts v1 v2 v3 d v st L s){c:Nat}{w:AV}(h:c≠0/\c≠3/\c≠4):DS p mb lo q m ts v1 v2 v3 d v st ((c,w) :: L) s:=by
 obtain⟨S,k,nx,c3,c4,i0,i3,i4⟩:=D;exact⟨S,k,nx,c3,c4,by rw[jb h.1];exact i0,by rw[jb h.2.1];exact i3,by rw[jb h.2.2];exact i4⟩
end
set_option maxHeartbeats 4000000 in
theorem jqG (hb:NB base){p mb lo q:Nat}{m:ModT}{ts:List (List Nat)}{v1 v2 v3:AV}{d:DeclT}{v:VarT}{st:St}{L:Sl}{s:St}(D:DS p mb lo q m ts v1 v2 v3 d v st L s)(V:VarsOK m.vars m.enums)(hV:m.vars.length<=900000)(hx:∀ x∈d.begins,OkE x)(hbl:d.begins.length<=1000000)(K Kp:AV->St->Prop)(hK:KM p mb lo st (wG m ts d v) K Kp):xC Qaf base jaQ L s (dQ st K) (dP st Kp):=by
 have i0:=D.i0;have i3:=D.i3;have i4:=D.i4;have C3:=D.c3;have C4:=D.c4;rw[(by unfold jaQ;simp only[qq];rfl:jaQ=_)]
 (have zz:=aI C3.r C4.r;(repeat'(first|(apply jc<;>intro _)|simp(disch:=first|exact jY|fail) only[ja i0,ja i3,ja i4,C3.q,C4.q,C3.r,C4.r,je,ji,jh,jd,jm,jn,jp,jq,jo,rzZ,Qab,Qac,Qad,Qaa,Qae]));(all_goals(clear zz)))
 refine qb d.begins.length (λk L s=>(∃ u,Jn m.vars m.enums v (d.begins.take k)=.ok u/\DS p mb lo q m ts v1 v2 v3 d u st L s)/\Has L 93 (.lst d.begins.length (fl eE d.begins))) (by first|assumption|omega) (by decide) (by simp(disch:=decide) only[jf,jb]) (by simp(disch:=decide) only[jf,jb]) ?_ (λk L s v h=>(by obtain⟨⟨u,h1,h2⟩,h3⟩:=h;refine⟨⟨u,h1,h2.push (by decide)⟩,?_⟩;simp(disch:=decide) only[jb];assumption)) (λk L s v h=>(by obtain⟨⟨u,h1,h2⟩,h3⟩:=h;refine⟨⟨u,h1,h2.push (by decide)⟩,?_⟩;simp(disch:=decide) only[jb];assumption)) (λk L s hk hI hi hn=>?_) (λL s hI=>?_)
 ·refine⟨⟨v,by rw[Qbd,Jn],((D.push (by decide)).push (by decide)).push (by decide)⟩,?_⟩;simp(disch:=decide) only[jb,jf]
 ·obtain⟨⟨u,h1,D⟩,i93⟩:=hI;obtain⟨S,k0,nx,C3,C4,i0,i3,i4⟩:=D;have tk:d.begins.take (k+1)=d.begins.take k ++ [d.begins[k]]:=yE hk;obtain⟨x1,x2⟩:=hx _ (Qat hk);have hqm:q≠p/\q+1≠p:=by have:=S.hp;have:=S.lo;omega
  have hqn:=S.hi;have hlq:=S.lo;have z6l:(eE d.begins[k]).length=([.int .i64 0,.int .i64 0,.str [],.nils,.int .i64 0,.int .i64 0]:List AV).length:=by rw[zx];rfl
  have S1:=(S.nw [.int .i64 0,.int .i64 0,.str [],.nils,.int .i64 0,.int .i64 0]).wr hqn 0 (eE d.begins[k]);have k1:=(k0.nw (by omega) [.int .i64 0,.int .i64 0,.str [],.nils,.int .i64 0,.int .i64 0]).wr (c:=s.nx) (.inr (by omega)) 0 (eE d.begins[k]);have C7:=(Cl.new s [.int .i64 0,.int .i64 0,.str [],.nils,.int .i64 0,.int .i64 0]).wr0 z6l;have D3:Cl (Go.Sy.wr (Go.Sy.nw s [.int .i64 0,.int .i64 0,.str [],.nils,.int .i64 0,.int .i64 0]) s.nx 0 (eE d.begins[k])) q (qh d):=by(first|exact C3|(simp(disch:=first|assumption|decide|(first|omega|(simp only[jg,jj,ju,jr,jk];first|done|omega))) only[jB,jD,jz,jQ,jA,jF,jG,jJ];exact C3))
  have D4:Cl (Go.Sy.wr (Go.Sy.nw s [.int .i64 0,.int .i64 0,.str [],.nils,.int .i64 0,.int .i64 0]) s.nx 0 (eE d.begins[k])) (q+1) (vaE u):=by(first|exact C4|(simp(disch:=first|assumption|decide|(first|omega|(simp only[jg,jj,ju,jr,jk];first|done|omega))) only[jB,jD,jz,jQ,jA,jF,jG,jJ];exact C4))
  (have zz:=aI C3.r C4.r;(repeat'(first|(apply jc<;>intro _)|simp(disch:=first|exact jY|fail) only[ja i0,ja i3,ja i4,ja i93,ja hi,ja hn,C3.q,C4.q,C3.r,C4.r,je,ji,jh,jd,jm,jn,jp,jq,jo,rzZ,Qab,Qac,Qad,Qaa,Qae]));(all_goals(clear zz)))
  have hn1:(Go.Sy.wr (Go.Sy.nw s [.int .i64 0,.int .i64 0,.str [],.nils,.int .i64 0,.int .i64 0]) s.nx 0 (eE d.begins[k])).nx=s.nx+1:=rfl;generalize Go.Sy.wr (Go.Sy.nw s [.int .i64 0,.int .i64 0,.str [],.nils,.int .i64 0,.int .i64 0]) s.nx 0 (eE d.begins[k])=t1 at *;refine Ue hb V _ x2 (Yu _ x1) u.kind u.enum S1.ck _ _ ?_;have e3:d.begins=d.begins.take k ++ (d.begins[k] :: d.begins.drop (k+1)):=by rw[QbH,Qbs]
  have bk1:Jn m.vars m.enums v d.begins=Jn m.vars m.enums u (d.begins[k] :: d.begins.drop (k+1)):=by
   have e:=congrArg (Jn m.vars m.enums v) e3;rw[kK,h1] at e;exact e
  have bk2:Jn m.vars m.enums v (d.begins.take (k+1))=Jn m.vars m.enums u [d.begins[k]]:=by
   rw[tk,kK,h1]
  unfold wG at hK;rw[bk1,Jn] at hK;rw[Jn] at bk2;cases hr:yv m.vars m.enums false d.begins[k] u.kind u.enum with
  |er a b c=>
   rw[hr] at hK;intro s' k2;exact hK _ (k1.keep k2 (by omega)).bk
  |ok y=>
   have y1:=jcS x1 hr;have y2:=Yu _ y1;rw[hr] at hK bk2;dsimp only at hK bk2;intro s' k2 C2;have hs':=k2.nx;have k3:=k1.keep k2 (by omega);have S3:=S1.keep k2 C2;have E3:=k2.cl D3 hqm.1;have E4:=k2.cl D4 hqm.2;have E7:=k2.cl C7 (by have:=S.cp.lt;omega);have F:=jnv hb y y2;clear S1 k1 k2 C2 C7 D3 D4 C3 C4 S k0;cases hf:JM y with
   |some z=>
    rw[show Jh y=(z,true) by unfold Jh;rw[hf]] at F;rw[hf] at hK
    (have zz:=aI E3.r (aI E4.r E7.r);(repeat'(first|(apply jc<;>intro _)|simp(disch:=first|exact jY|fail) only[ja i0,ja i3,ja i4,F,zQ hb,E3.q,E4.q,E7.q,E3.r,E4.r,E7.r,je,ji,jh,jd,jm,jn,jp,jq,jo,rzZ,Qab,Qac,Qad,Qaa,Qae]));(all_goals(clear zz)))
    exact hK _ (((((k3.nw (by omega) _).wr (c:=s'.nx) (.inr (by omega)) 0 _).nw (by(first|omega|(simp only[jg,jj,ju,jr,jk];first|done|omega))) _).wr (.inr (by(first|omega|(simp only[jg,jj,ju,jr,jk];first|done|omega)))) 0 _)).bk
   |none=>
    rw[show Jh y=(y,false) by unfold Jh;rw[hf]] at F;rw[hf] at hK bk2;dsimp only at hK bk2;have G:=jfN hb y y1 hf;by_cases hc:Ji y<u.lo\/u.hi<Ji y
    ·rw[if_pos hc] at hK
     (have zz:=aI E3.r (aI E4.r E7.r);(repeat'(first|(apply jc<;>intro _)|simp(disch:=first|exact jY|fail) only[ja i0,ja i3,ja i4,F,G,zQ hb,E3.q,E4.q,E7.q,E3.r,E4.r,E7.r,je,ji,jh,jd,jm,jn,jp,jq,jo,rzZ,Qab,Qac,Qad,Qaa,Qae]));(all_goals(clear zz)))
     all_goals exact hK _ ((((((k3.nw (by omega) _).wr (c:=s'.nx) (.inr (by omega)) 0 _).nw (by(first|omega|(simp only[jg,jj,ju,jr,jk];first|done|omega))) _).wr (.inr (by(first|omega|(simp only[jg,jj,ju,jr,jk];first|done|omega)))) 0 _).wr (c:=q+1) (.inr (by omega)) 5 _).wr (c:=q+1) (.inr (by omega)) 6 _).bk
    ·rw[if_neg hc] at bk2;have hc1:¬ Ji y<u.lo:=λh=>hc (.inl h);have hc2:¬ u.hi<Ji y:=λh=>hc (.inr h)
     (have zz:=aI E3.r (aI E4.r E7.r);(repeat'(first|(apply jc<;>intro _)|simp(disch:=first|exact jY|fail) only[ja i0,ja i3,ja i4,ja hi,F,G,hc1,hc2,E3.q,E4.q,E7.q,E3.r,E4.r,E7.r,je,ji,jh,jd,jm,jn,jp,jq,jo,rzZ,Qab,Qac,Qad,Qaa,Qae]));(all_goals(clear zz)))
     have S5:=((((((S3.nw [.int .i64 0,.int .i64 0,.str [],.nils,.int .i64 0,.int .i64 0]).wr (c:=s'.nx) (by omega) 0 (eE y)).nw [.int .i64 0,.int .i64 0,.str [],.nils,.int .i64 0,.int .i64 0]).wr (c:=s'.nx+1) (by omega) 0 (eE y)).wr (c:=q+1) (by omega) 5 [.bool true]).wr (c:=q+1) (by omega) 6 [.int .i64 (Ji y)]);have k5:=((((((k3.nw (by omega) [.int .i64 0,.int .i64 0,.str [],.nils,.int .i64 0,.int .i64 0]).wr (c:=s'.nx) (.inr (by omega)) 0 (eE y)).nw (by(first|omega|(simp only[jg,jj,ju,jr,jk];first|done|omega))) [.int .i64 0,.int .i64 0,.str [],.nils,.int .i64 0,.int .i64 0]).wr (c:=s'.nx+1) (.inr (by omega)) 0 (eE y)).wr (c:=q+1) (.inr (by omega)) 5 [.bool true]).wr (c:=q+1) (.inr (by omega)) 6 [.int .i64 (Ji y)]);refine⟨⟨⟨{ u with beg:=true,first:=Ji y },?_,S5,k5,by(first|omega|(simp only[jg,jj,ju,jr,jk];first|done|omega)),?_,Cl.wr (Cl.wr (?_:Cl _ (q+1) (vaE u)) 5 [.bool true]) 6 [.int .i64 (Ji y)],?_,?_,?_⟩,?_⟩,?_,?_⟩
     ·rw[bk2];rfl
     ·(first|exact E3|(simp(disch:=first|assumption|decide|(first|omega|(simp only[jg,jj,ju,jr,jk];first|done|omega))) only[jB,jD,jz,jQ,jA,jF,jG,jJ];exact E3))
     ·(first|exact E4|(simp(disch:=first|assumption|decide|(first|omega|(simp only[jg,jj,ju,jr,jk];first|done|omega))) only[jB,jD,jz,jQ,jA,jF,jG,jJ];exact E4))
     all_goals(simp(disch:=decide) only[jb];assumption)
 ·obtain⟨⟨u,h1,D⟩,i93⟩:=hI;rw[Qaz] at h1;unfold wG at hK;rw[h1] at hK;repeat'(first|(apply jc<;>intro _)|simp(disch:=first|exact dzG|fail) only[je,ji,jh,jd,jm,jn,jp,jq,jo,rzZ,Qab,Qac,Qad,Qaa,Qae])
  exact jqF hb D hV K Kp hK
end Go.Sy
end
noncomputable section
set_option maxRecDepth 100000
namespace Go.Sy
open Go.Ev Go.Proofs
variable {base:Bs}
theorem jfr (hb:NB base)(enums:List EnumT)(hl:enums.length<=1000000)(d:DeclT){v2:AV}(st:St){q:Nat}(h:Lr st v2 enums.length (fl enE enums))(C:Cl st q (qh d))(K Kp:AV->St->Prop) :
  XB Qaf base 92 [v2,.fn 93 [.ptr q 0]] st K Kp=K (.int .i64 (Qz enums d.ty)) st:=by
 refine(jfq hb enums (by unfold BIG;omega) d).xb (yC (h.lend (yT JN enums)) (yC ?_ Yy)) (λst=>hb.no 92 (by decide) _ _) K Kp;show(J7 st.h [.ptr q 0]).map (AV.fn 93)=_;have:ZI st.h (.ptr q 0)=some (.lptr (qh d) 0):=vn C (J9 (WH 8 rfl) rfl (J9 (WH 8 rfl) rfl (J9 (WH 8 rfl) rfl (J9 (WH 8 rfl) rfl (J9 (WH 8 rfl) rfl (J9 (WH 8 rfl) rfl (J9 (WH 8 rfl) rfl Gd)))))));simp only[J7,this];rfl
set_option maxHeartbeats 4000000 in
theorem jqE (hb:NB base){p mb lo:Nat}{m:ModT}{ts:List (List Nat)}{st:St}(d:DeclT)(V:VarsOK m.vars m.enums)(hV:m.vars.length<=900000)(hx:∀ x∈d.begins,OkE x)(hbl:d.begins.length<=1000000)(hlo : -100000000<=d.lo/\d.lo<=100000000)(hhi : -100000000<=d.hi/\d.hi<=100000000)(H:MX p mb lo m ts st)(K Kp:AV->St->Prop)(hK:KM p mb lo st (XA m ts d) K Kp):XB Qaf base 69 [.ptr p 0,.agg (qh d)] st K Kp:=by
 obtain⟨v1,v2,v3,S⟩:=H;obtain⟨C,M,l1,l2,l3,d12,d13,d23,hp,hm,pm,lo0,hi0⟩:=id S;refine zW x62 (by rfl) (hb.at0 69 (by decide) (by decide) _ _) ?_;simp only[y62,jt,Qai,Qaj,Qag,Qah];rw[(by unfold z62;simp only[qq];rfl:z62=_)];have hnx:st.bare.nx=st.nx:=rfl;have S0:=S.bare.nw (qh d);have q1:=(Kq.refl:Kq p mb lo st.bare st.bare).nw (Qaw lo0 hi0) (qh d);have Cb:Cl (Go.Sy.nw st.bare (qh d)) st.nx (qh d):=Cl.new st.bare (qh d);unfold XA Xi at hK;repeat'(first|(apply jc<;>intro _)|simp(disch:=first|exact dzG|fail) only[je,ji,jh,jd,jm,jn,jp,jq,jo,rzZ,Qab,Qac,Qad,Qaa,Qae])
 refine k8 hb S0.cp S0.mp _ _ _ _ _ ?_;by_cases h:d.name∈ts
 ·rw[if_pos h] at hK ⊢;exact hK _ q1.bk
 ·rw[if_neg h] at hK ⊢
  replace S0:=S0.take (ts ++ [d.name])
  replace q1:=q1.mp (mpl (ts ++ [d.name]))
  have Cb:Cl (Go.Sy.mp (Go.Sy.nw st.bare (qh d)) mb (mpl (ts ++ [d.name]))) st.nx (qh d):=by rw[WQ (by omega)];exact Cb
  have hn1:(Go.Sy.mp (Go.Sy.nw st.bare (qh d)) mb (mpl (ts ++ [d.name]))).nx=st.nx+1:=rfl;generalize Go.Sy.mp (Go.Sy.nw st.bare (qh d)) mb (mpl (ts ++ [d.name]))=s1 at *;dsimp only at hK;have Cv:=(Cl.new s1 va0).wr0 (c':=vaE ⟨d.name,1,[],d.lo,d.hi,false,0⟩) rfl;have S1:=(S0.nw va0).wr (c:=s1.nx) (by omega) 0 (vaE ⟨d.name,1,[],d.lo,d.hi,false,0⟩);have q2:=(q1.nw (by omega) va0).wr (c:=s1.nx) (.inr (by omega)) 0 (vaE ⟨d.name,1,[],d.lo,d.hi,false,0⟩);have Cd:Cl (Go.Sy.wr (Go.Sy.nw s1 va0) s1.nx 0 (vaE ⟨d.name,1,[],d.lo,d.hi,false,0⟩)) st.nx (qh d):=by(first|exact Cb|(simp(disch:=first|assumption|decide|(first|omega|(simp only[jg,jj,ju,jr,jk];first|done|omega))) only[jB,jD,jz,jQ,jA,jF,jG,jJ];exact Cb))
  have FE:=λK Kp=>jfr hb m.enums V.len2 d _ S1.l2.lr Cd K Kp;have C0:=S0.cp;have C1:=S1.cp;have hmp:st.nx≠p/\st.nx+1≠p:=by omega
  simp only[Wh,hn1] at FE;simp only[hn1] at S1 q2 Cv Cd C1;unfold va0 at *;have mk:∀ (v:VarT) (L:Sl) (s:St),MS p mb lo st.nx m (ts ++ [d.name]) v1 v2 v3 s->Kq p mb lo st.bare s->st.nx+2<=s.nx->Cl s st.nx (qh d)->Cl s (st.nx+1) (vaE v)->Has L 0 (.ptr p 0)->Has L 3 (.ptr st.nx 0)->Has L 4 (.ptr (st.nx+1) 0)->KM p mb lo st (wG m (ts ++ [d.name]) d v) K Kp->xC Qaf base jaQ L s (dQ st K) (dP st Kp):=λv L s a1 a2 a3 a4 a5 a6 a7 a8 hK=>jqG hb ⟨a1,a2,a3,a4,a5,a6,a7,a8⟩ V hV hx hbl K Kp hK;unfold vY at hK;by_cases h1:d.ty=[98,111,111,108]
  ·rw[if_pos h1] at hK;have S2:=(((S1.wr (c:=st.nx+1) (by omega) 1 [.int .i64 2]).wr (c:=st.nx+1) (by omega) 3 [.int .i64 0]).wr (c:=st.nx+1) (by omega) 4 [.int .i64 1]);have q3:=(((q2.wr (c:=st.nx+1) (.inr (by omega)) 1 [.int .i64 2]).wr (c:=st.nx+1) (.inr (by omega)) 3 [.int .i64 0]).wr (c:=st.nx+1) (.inr (by omega)) 4 [.int .i64 1])
   (have zz:=aI @hn1 (aI @Cb.r C0.r);(repeat'(first|(apply jc<;>intro _)|simp(disch:=first|exact jY|fail) only[FE,h1,hn1,Cb.q,C0.q,hn1,Cb.r,C0.r,je,ji,jh,jd,jm,jn,jp,jq,jo,rzZ,Qab,Qac,Qad,Qaa,Qae]));(all_goals(clear zz)))
   refine mk ⟨d.name,2,[],0,1,false,0⟩ _ _ S2 q3 (by(first|omega|(simp only[jg,jj,ju,jr,jk];first|done|omega))) (by(first|exact Cb|(simp(disch:=first|assumption|decide|(first|omega|(simp only[jg,jj,ju,jr,jk];first|done|omega))) only[jB,jD,jz,jQ,jA,jF,jG,jJ];exact Cb))) ?_ ?_ ?_ ?_ hK
   ·exact((Cv.wr 1 [.int .i64 2]).wr 3 [.int .i64 0]).wr 4 [.int .i64 1]
   all_goals simp(disch:=decide) only[jb,jf]
  rw[if_neg h1] at hK;by_cases h2:0<=Qz m.enums d.ty
  ·rw[if_pos h2] at hK;have hlt:Qz m.enums d.ty<(m.enums.length:Int):=ZJ;have hi2:(Qz m.enums d.ty).toNat<m.enums.length:=by omega
   have eg:m.enums.getD (Qz m.enums d.ty).toNat en0=m.enums[(Qz m.enums d.ty).toNat]:=by simp[QaN,hi2]
   rw[eg] at hK;have Lw:=S0.l2;rcases id Lw with ⟨_,e0,_⟩|⟨b,rfl,b1,b2,Ce,b5,b6⟩
   ·omega
   have gl:qt s1.h b=m.enums.length * 4:=by rw[Ce.len,zY JX]
   have ge:rat s1.h b ((Qz m.enums d.ty).toNat * 4+1)=.lst m.enums[(Qz m.enums d.ty).toNat].vals.length (m.enums[(Qz m.enums d.ty).toNat].vals.map .str):=by
    rw[Ce.cell _ (by rw[zY JX];omega),vu JX hi2 (by decide)];rfl
   have hbp:b≠p/\b≠st.nx/\b≠st.nx+1/\b<s1.nx:=by omega
   have gp:rat s1.h p 1=.slice b 0 m.enums.length m.enums.length 4 false:=C0.cell 1 (by simp only[Qak,Qan];omega);have gd:rat s1.h st.nx 1=.str d.ty:=(Cb.cell 1 (by rw[QK];decide)).trans (by rw[u2];rfl);have hvl:=V.vals _ (Qat hi2)
   (have zz:=aI @hn1 (aI @gl (aI @ge (aI @Cb.r C0.r)));(repeat'(first|(apply jc<;>intro _)|simp(disch:=first|exact jY|fail) only[FE,h1,h2,hn1,ge,sm9,gO,gN,Cb.q,C0.q,hn1,gl,ge,Cb.r,C0.r,je,ji,jh,jd,jm,jn,jp,jq,jo,rzZ,Qab,Qac,Qad,Qaa,Qae]));(all_goals(clear zz)))
   refine⟨?_,?_,?_,?_⟩;rotate_right
   ·have S2:=((((S1.wr (c:=st.nx+1) (by omega) 1 [.int .i64 3]).wr (c:=st.nx+1) (by omega) 2 [.str d.ty]).wr (c:=st.nx+1) (by omega) 3 [.int .i64 0]).wr (c:=st.nx+1) (by omega) 4 [.int .i64 ((m.enums[(Qz m.enums d.ty).toNat].vals.length:Int) - 1)]);have q3:=((((q2.wr (c:=st.nx+1) (.inr (by omega)) 1 [.int .i64 3]).wr (c:=st.nx+1) (.inr (by omega)) 2 [.str d.ty]).wr (c:=st.nx+1) (.inr (by omega)) 3 [.int .i64 0]).wr (c:=st.nx+1) (.inr (by omega)) 4 [.int .i64 ((m.enums[(Qz m.enums d.ty).toNat].vals.length:Int) - 1)]);refine mk ⟨d.name,3,d.ty,0,(m.enums[(Qz m.enums d.ty).toNat].vals.length:Int) - 1,false,0⟩ _ _ S2 q3 (by(first|omega|(simp only[jg,jj,ju,jr,jk];first|done|omega))) (by(first|exact Cb|(simp(disch:=first|assumption|decide|(first|omega|(simp only[jg,jj,ju,jr,jk];first|done|omega))) only[jB,jD,jz,jQ,jA,jF,jG,jJ];exact Cb))) ?_ ?_ ?_ ?_ hK
    ·exact(((Cv.wr 1 [.int .i64 3]).wr 2 [.str d.ty]).wr 3 [.int .i64 0]).wr 4 [.int .i64 ((m.enums[(Qz m.enums d.ty).toNat].vals.length:Int) - 1)]
    all_goals simp(disch:=decide) only[jb,jf]
   all_goals
    repeat' apply aI
    all_goals first
     |exact(gN (by simp(disch:=omega) only[Q5,Xs,gl];omega) (by simp(disch:=omega) only[ZX,vH,ge]) rfl).mpr trivial
     |exact(gO (by simp(disch:=omega) only[Q5,Xs,C0.len,Qak,Qan];omega) (by simp(disch:=omega) only[ZX,vH,gp]) rfl).mpr trivial
     |exact(sm9 (by simp(disch:=omega) only[Q5,Xs,Cb.len,QK];omega) (by simp(disch:=omega) only[ZX,vH,gd]) rfl).mpr trivial
  rw[if_neg h2] at hK;by_cases h3:d.ty≠[]
  ·rw[if_pos h3] at hK
   (have zz:=aI @hn1 (aI @Cb.r C0.r);(repeat'(first|(apply jc<;>intro _)|simp(disch:=first|exact jY|fail) only[FE,h1,h2,h3,hn1,zQ hb,Cb.q,C0.q,hn1,Cb.r,C0.r,je,ji,jh,jd,jm,jn,jp,jq,jo,rzZ,Qab,Qac,Qad,Qaa,Qae]));(all_goals(clear zz)))
   exact hK _ q2.bk
  rw[if_neg h3] at hK;have h3:(d.ty=[])=True:=eq_true (by simpa using h3);by_cases h4:d.hi<d.lo
  ·rw[if_pos h4] at hK
   (have zz:=aI @hn1 (aI @Cb.r C0.r);(repeat'(first|(apply jc<;>intro _)|simp(disch:=first|exact jY|fail) only[FE,h1,h2,h3,h4,hn1,zQ hb,Cb.q,C0.q,hn1,Cb.r,C0.r,je,ji,jh,jd,jm,jn,jp,jq,jo,rzZ,Qab,Qac,Qad,Qaa,Qae]));(all_goals(clear zz)))
   exact hK _ q2.bk
  rw[if_neg h4] at hK;by_cases h5:1024<=d.hi - d.lo
  ·rw[if_pos h5] at hK
   (have zz:=aI @hn1 (aI @Cb.r C0.r);(repeat'(first|(apply jc<;>intro _)|simp(disch:=first|exact jY|fail) only[FE,h1,h2,h3,h4,h5,hn1,zQ hb,Cb.q,C0.q,hn1,Cb.r,C0.r,je,ji,jh,jd,jm,jn,jp,jq,jo,rzZ,Qab,Qac,Qad,Qaa,Qae]));(all_goals(clear zz)))
   exact hK _ q2.bk
  rw[if_neg h5] at hK
  (have zz:=aI @hn1 (aI @Cb.r C0.r);(repeat'(first|(apply jc<;>intro _)|simp(disch:=first|exact jY|fail) only[FE,h1,h2,h3,h4,h5,hn1,Cb.q,C0.q,hn1,Cb.r,C0.r,je,ji,jh,jd,jm,jn,jp,jq,jo,rzZ,Qab,Qac,Qad,Qaa,Qae]));(all_goals(clear zz)))
  refine mk _ _ _ S1 q2 (by(first|omega|(simp only[jg,jj,ju,jr,jk];first|done|omega))) (by(first|exact Cb|(simp(disch:=first|assumption|decide|(first|omega|(simp only[jg,jj,ju,jr,jk];first|done|omega))) only[jB,jD,jz,jQ,jA,jF,jG,jJ];exact Cb))) Cv ?_ ?_ ?_ hK;all_goals simp(disch:=decide) only[jb,jf]
end Go.Sy
end
noncomputable section
set_option maxRecDepth 100000
namespace Go.Sy
open Go.Ev Go.Proofs
variable {base:Bs}
theorem Vx {s:St}:∀ {cs:List AV},cs.all pc=true->lall AV.cell cs=true->Ye (fz 9 s.h) cs=cs
 |[],_,_=>Gd
 |v :: l,hp,hc=>by
  rw[Qbe,Qar] at hp;have h1:v.cell=true/\lall AV.cell l=true:=by
   have:cond v.cell (lall AV.cell l) false=true:=hc;cases h:v.cell with
   |true=>rw[h] at this;exact⟨rfl,this⟩
   |false=>rw[h] at this;cases this
  exact J9 (WH 8 hp.1) h1.1 (Vx hp.2 h1.2)
theorem jlo {α:Type}{enc:α->List AV}{z:Nat}(hz:∀ x,(enc x).length=z){xs:List α}{k:IntKind}{i:Nat}(hi:i<=xs.length){st:St}{K:AV->St->Prop}:jl (w9 z (.lst xs.length (fl enc xs)) none (some (.int k (i:Int))) st) K=K (.lst i (fl enc (xs.take i))) st:=by
 have e1:Qap (Qav i z) (jP (fl enc xs))=true:=by
  rw[jR,zY hz];exact q9 (QaM z hi)
 simp only[w9,optA,gX,q9 hi,q9 (QaG i),e1,cond_true,jl,yb,yX];have e2:(fl enc xs).drop (Qav 0 z)=fl enc xs:=by rw[show Qav 0 z=0 from Qbp z];rfl
 have e3:Qav (Qbh i 0) z=i * z:=rfl;rw[e2,e3,jdW hz];rfl
theorem jnt (hb:NB base)(xs:List AsT)(hl:xs.length<=1000000)(a:AsT)(st:St){q:Nat}(C:Cl st q (asE a))(n:Nat)(hn:n=xs.length)(K Kp:AV->St->Prop) :
  XB Qaf base 98 [.lst n (fl asE xs),.fn 99 [.ptr q 0]] st K Kp=K (.bool (decide (0<=fi (λx=>decide (x.name=a.name)) xs))) st:=by
 subst hn;refine(jns hb xs (by unfold BIG;omega) a).xb (Q4 rfl (yC ?_ Yy)) (λst=>hb.no 98 (by decide) _ _) K Kp;show(J7 st.h [.ptr q 0]).map (AV.fn 99)=_;have:ZI st.h (.ptr q 0)=some (.lptr (asE a) 0):=vn C (Vx (QW a) (gv a));simp only[J7,this];rfl
theorem jeI (hb:NB base){p:Nat}{v1 v2 v3 mm:AV}{vars:List VarT}{enums:List EnumT}{fm:Bool}{st:St}(C:Ck p v1 v2 v3 mm vars enums fm st)(hl:vars.length<=1000000)(s:List Nat)(K Kp:AV->St->Prop) :
  XB Qaf base 97 [.ptr p 0,.str s] st K Kp=K (.int .i64 (qg vars s)) st:=by
 obtain⟨r,hr⟩:=C.lend;exact(kV hb vars (by unfold BIG;omega) s _).xb (yC hr (Q4 rfl Yy)) (λst=>hb.no 97 (by decide) _ _) K Kp
def mvc:List MoveT->List AV->List AV
 |m :: ms,u :: us=>(eE m.when ++ [u]) ++ mvc ms us
 |_,_=>[]
theorem jdG:∀ {ms:List MoveT} {us:List AV} {m:MoveT} {u:AV},us.length=ms.length->mvc (ms ++ [m]) (us ++ [u])=mvc ms us ++ (eE m.when ++ [u])
 |[],[],m,u,_=>by simp[mvc]
 |m' :: ms,u' :: us,m,u,h=>by
  show(eE m'.when ++ [u']) ++ mvc (ms ++ [m]) (us ++ [u])=((eE m'.when ++ [u']) ++ mvc ms us) ++ (eE m.when ++ [u]);rw[jdG (by simpa using h)];simp only[QaY]
 |[],u' :: us,m,u,h=>by simp at h
 |m' :: ms,[],m,u,h=>by simp at h
def UU (lo hi:Nat)(s:St)(v3:AV):List MoveT->List AV->Prop
 |[],[]=>True
 |m :: ms,u :: us=>(Lv lo hi s u m.acts.length (fl seE m.acts) 7/\Df v3 u)/\UU lo hi s v3 ms us
 |_,_=>False
theorem UU.imp {lo hi lo' hi':Nat}{s s':St}{v3 v3':AV}(f:∀ u n cs,Lv lo hi s u n cs 7/\Df v3 u->Lv lo' hi' s' u n cs 7/\Df v3' u):∀ {ms:List MoveT} {us:List AV},UU lo hi s v3 ms us->UU lo' hi' s' v3' ms us
 |[],[],_=>trivial
 |m :: ms,u :: us,h=>⟨f _ _ _ h.1,UU.imp f h.2⟩
theorem UU.len {lo hi:Nat}{s:St}{v3:AV}:∀ {ms:List MoveT} {us:List AV},UU lo hi s v3 ms us->us.length=ms.length
 |[],[],_=>rfl
 |m :: ms,u :: us,h=>by simp[UU.len h.2]
theorem UU.app {lo hi:Nat}{s:St}{v3:AV}{m:MoveT}{u:AV}(hu:Lv lo hi s u m.acts.length (fl seE m.acts) 7/\Df v3 u):∀ {ms:List MoveT} {us:List AV},UU lo hi s v3 ms us->UU lo hi s v3 (ms ++ [m]) (us ++ [u])
 |[],[],_=>⟨hu,trivial⟩
 |m' :: ms,u' :: us,h=>⟨h.1,UU.app hu h.2⟩
structure MR (p mb lo hi:Nat)(m:ModT)(ts:List (List Nat))(v1 v2 v3:AV)(us:List AV)(s:St):Prop where
 cp:Cl s p [v1,v2,v3,.map mb,.bool false]
 mp:Mp s mb ts
 l1:Lv lo hi s v1 m.vars.length (fl vaE m.vars) 7
 l2:Lv lo hi s v2 m.enums.length (fl enE m.enums) 4
 l3:Lv lo hi s v3 m.moves.length (mvc m.moves us) 7
 uu:UU lo hi s v3 m.moves us
 d13:Df v3 v1
 d23:Df v3 v2
 hp:p<lo
 hm:mb<lo
 pm:p≠mb
 lo:lo<=hi
 hi:hi<=s.nx
def MZ (p mb lo:Nat)(m:ModT)(ts:List (List Nat))(s:St):Prop:=∃ v1 v2 v3 us,MR p mb lo s.nx m ts v1 v2 v3 us s
theorem Df.symm2 {v w:AV}(h:Df v w):Df w v:=by
 unfold Df at *;cases v<;>cases w<;>first|trivial|exact λe=>h e.symm
section
variable {p mb lo hi:Nat} {m:ModT} {ts us:List (List Nat)} {v1 v2 v3:AV} {ws:List AV} {s t:St}
theorem MS.mr (S:MS p mb lo hi m ts v1 v2 v3 s)(h:m.moves=[]):MR p mb lo hi m ts v1 v2 v3 [] s:=by
 obtain⟨C,M,l1,l2,l3,d12,d13,d23,hp,hm,pm,h1,h2⟩:=S;refine⟨C,M,l1,l2,?_,?_,Df.symm2 d13,Df.symm2 d23,hp,hm,pm,h1,h2⟩
 ·rw[h] at l3 ⊢;exact l3
 ·rw[h];trivial
theorem MR.ck (S:MR p mb lo hi m ts v1 v2 v3 ws s):Ck p v1 v2 v3 (.map mb) m.vars m.enums false s:=by
 obtain⟨C,M,l1,l2,l3,uu,d13,d23,hp,hm,pm,h1,h2⟩:=S;refine⟨C,l1.lr,l2.lr,?_,?_⟩
 ·intro b k z x e;rcases l1 with ⟨h,_⟩|⟨c,h,h2,_⟩
  ·rw[h] at e;cases e
  ·rw[h] at e;cases e;omega
 ·intro b k z x e;rcases l2 with ⟨h,_⟩|⟨c,h,h2,_⟩
  ·rw[h] at e;cases e
  ·rw[h] at e;cases e;omega
theorem MR.imp (S:MR p mb lo hi m ts v1 v2 v3 ws s){hi':Nat}(C:Cl t p [v1,v2,v3,.map mb,.bool false])(M:Mp t mb us)(f:∀ v n cs z,Lv lo hi s v n cs z->Lv lo hi' t v n cs z)(h1:hi<=hi')(h2:hi'<=t.nx):MR p mb lo hi' m us v1 v2 v3 ws t:=
 ⟨C,M,f _ _ _ _ S.l1,f _ _ _ _ S.l2,f _ _ _ _ S.l3,S.uu.imp λu n cs h=>⟨f _ _ _ _ h.1,h.2⟩,S.d13,S.d23,S.hp,S.hm,S.pm,Qaw S.lo h1,h2⟩
theorem MR.nw (S:MR p mb lo hi m ts v1 v2 v3 ws s)(ds:List AV):MR p mb lo hi m ts v1 v2 v3 ws (Go.Sy.nw s ds):=by
 have C:=S.cp;have h1:=S.hp;have h2:=S.hi;have h3:=S.lo;exact S.imp (by(first|exact C|(simp(disch:=first|assumption|decide|(first|omega|(simp only[jg,jj,ju,jr,jk];first|done|omega))) only[jB,jD,jz,jQ,jA,jF,jG,jJ];exact C))) (S.mp.nw ds) (λv n cs z h=>by(first|exact h|(simp(disch:=first|assumption|decide|(first|omega|(simp only[jg,jj,ju,jr,jk];first|done|omega))) only[jB,jD,jz,jQ,jA,jF,jG,jJ];exact h))) (Qao _) (by rw[jg];omega)
theorem MR.wr (S:MR p mb lo hi m ts v1 v2 v3 ws s){c:Nat}(hc:hi<=c)(o:Nat)(ds:List AV):MR p mb lo hi m ts v1 v2 v3 ws (Go.Sy.wr s c o ds):=by
 have C:=S.cp;have h1:=S.hp;have h2:=S.hi;have h3:=S.lo;have h4:=S.hm;exact S.imp (by(first|exact C|(simp(disch:=first|assumption|decide|(first|omega|(simp only[jg,jj,ju,jr,jk];first|done|omega))) only[jB,jD,jz,jQ,jA,jF,jG,jJ];exact C))) (S.mp.wr (by omega) o ds) (λv n cs z h=>by(first|exact h|(simp(disch:=first|assumption|decide|(first|omega|(simp only[jg,jj,ju,jr,jk];first|done|omega))) only[jB,jD,jz,jQ,jA,jF,jG,jJ];exact h))) (Qao _) (by rw[jj];omega)
theorem MR.take (S:MR p mb lo hi m ts v1 v2 v3 ws s)(us:List (List Nat)):MR p mb lo hi m us v1 v2 v3 ws (Go.Sy.mp s mb (mpl us)):=
 S.imp (by rw[WQ S.pm];exact S.cp) S.mp.put (λv n cs z h=>h.mp S.hm) (Qao _) S.hi
theorem MR.keep (S:MR p mb lo hi m ts v1 v2 v3 ws s)(k:Keep p s t)(C':Cl t p [v1,v2,v3,.map mb,.bool false]):MR p mb lo hi m ts v1 v2 v3 ws t:=
 S.imp C' (S.mp.keep k.nx (k.get mb S.mp.lt (λe=>S.pm e.symm))) (λv n cs z h=>k.lv h (.inl S.hp)) (Qao _) (Qaw S.hi k.nx)
theorem MR.up (S:MR p mb lo hi m ts v1 v2 v3 ws s){hi':Nat}(h:hi<=hi')(h2:hi'<=s.nx):MR p mb lo hi' m ts v1 v2 v3 ws s:=
 S.imp S.cp S.mp (λv n cs z k=>k.up h) h h2
theorem MR.bare (S:MR p mb lo hi m ts v1 v2 v3 ws s):MR p mb lo hi m ts v1 v2 v3 ws s.bare:=
 S.imp S.cp.bar ⟨S.mp.lt,S.mp.get⟩ (λv n cs z h=>by rw[jG];exact h) (Qao _) S.hi
theorem MR.ofbk {u:St}(S:MR p mb lo hi m ts v1 v2 v3 ws s):MR p mb lo hi m ts v1 v2 v3 ws (bk u s):=by
 have e:∀ b cs,Cl s b cs->Cl (bk u s) b cs:=λb cs h=>⟨h.lt,h.row,h.len,h.cell⟩;exact S.imp (e _ _ S.cp) ⟨S.mp.lt,S.mp.get⟩ (λv n cs z h=>h.imp id λ⟨c,h1,h2,h3,h4,h5,h6⟩=>⟨c,h1,h2,h3,e _ _ h4,h5,h6⟩) (Qao _) S.hi
theorem MR.aps (S:MR p mb lo hi m ts v1 v2 v3 ws s){lo' hi' n' z':Nat}{v':AV}{cs':List AV}(V:Lv lo' hi' s v' n' cs' z')(h:hi<=lo')(ds:List AV):MR p mb lo hi m ts v1 v2 v3 ws (Go.Sy.aps v' s ds):=by
 have h0:=S.hp;have h1:=S.hm;have h2:=S.lo;have h3:=S.hi;exact S.imp (S.cp.aps V (.inl (by omega))) (S.mp.keep (by rw[jr];omega) (V.get s ds mb (.inl (by omega)) S.mp.lt)) (λv n cs z k=>k.aps V (.inl h)) (Qao _) (by rw[jr];omega)
theorem Lv.low {lo lo' hi n z:Nat}{s:St}{v:AV}{cs:List AV}(h:Lv lo' hi s v n cs z)(h2:lo<=lo'):Lv lo hi s v n cs z:=h.imp id λ⟨c,h1,h3,h4,h5,h6,h7⟩=>⟨c,h1,h3,h4,h5,by omega,h7⟩
theorem MR.move (S:MR p mb lo hi m ts v1 v2 v3 ws s)(e:MoveT){u:AV}{z:Nat}(V:Lv z s.nx s u e.acts.length (fl seE e.acts) 7)(hz:hi<=z):MR p mb lo (s.nx+1) { m with moves:=m.moves ++ [e] } ts v1 v2 (apv 7 v3 s) (ws ++ [u]) (Go.Sy.wr (Go.Sy.aps v3 s (eE e.when ++ [u])) p 2 [apv 7 v3 s]):=by
 obtain⟨C,M,l1,l2,l3,uu,d13,d23,hp,hm,pm,h1,h2⟩:=S;have h4:=C.lt;have hn:(Go.Sy.wr (Go.Sy.aps v3 s (eE e.when ++ [u])) p 2 [apv 7 v3 s]).nx=s.nx+1:=by rw[jj,jr]
 refine⟨?_,?_,?_,?_,?_,?_,(Df.put l1 h2).1,(Df.put l2 h2).1,hp,hm,pm,by omega,by rw[hn];exact Qao _⟩
 ·exact(cast (l3.cl s (eE e.when ++ [u]) _ p (.inl hp) h4).symm C:Cl (Go.Sy.aps v3 s (eE e.when ++ [u])) p _).wr 2 [apv 7 v3 s]
 ·exact M.keep (by rw[hn];omega) (by rw[Jc (λh=>pm h.symm)];exact l3.get s (eE e.when ++ [u]) mb (.inl hm) M.lt)
 ·rw[jA (.inl hp)];exact(l1.apsD d13).up (by omega)
 ·rw[jA (.inl hp)];exact(l2.apsD d23).up (by omega)
 ·rw[jA (.inl hp),Qal,jdG uu.len];exact l3.put (by rw[Qal,zx];rfl) (by omega) rfl
 ·refine UU.app ?_ (uu.imp λu n cs h=>?_)
  ·rw[jA (.inl hp)];refine⟨((V.aps l3 (.inr hz)).up (by omega)).low (by omega),?_⟩;have V':Lv lo s.nx s u e.acts.length (fl seE e.acts) 7:=V.low (by omega);exact(Df.put V' (Qao _)).1
  ·rw[jA (.inl hp)];exact⟨(h.1.apsD h.2).up (by omega),(Df.put h.1 h2).1⟩
end
end Go.Sy
end
noncomputable section
set_option maxRecDepth 100000
namespace Go.Sy
open Go.Ev Go.Proofs
variable {base:Bs}
def vz:VarT:=⟨[],0,[],0,0,false,0⟩
def Qq (vars:List VarT)(enums:List EnumT):List SetT->List AsT->List AsT->KR (List SetT)
 |acc,done,[]=>.ok acc
 |acc,done,a :: rest=>if qg vars a.name<0 then .er 161 a.line a.col
  else if 0<=fi (λx=>decide (x.name=a.name)) done then .er 162 a.line a.col
  else match yv vars enums false a.to (vars.getD (qg vars a.name).toNat vz).kind (vars.getD (qg vars a.name).toNat vz).enum with
   |.er x y z=>.er x y z
   |.ok y=>Qq vars enums (acc ++ [⟨qg vars a.name,y⟩]) (done ++ [a]) rest
def Xm (m:ModT)(ts:List (List Nat))(r:RuleT):KR (ModT×List (List Nat)):=match yv m.vars m.enums false r.when 2 [] with
 |.er a b c=>.er a b c
 |.ok w=>match Qq m.vars m.enums [] [] r.acts with
  |.er a b c=>.er a b c
  |.ok ss=>.ok ({ m with moves:=m.moves ++ [⟨w,ss⟩] },ts)
def KZ (p mb lo:Nat)(st:St)(r:KR (ModT×List (List Nat)))(K Kp:AV->St->Prop):Prop:=match r with
 |.ok y=>∀ s',Kq p mb lo st s'->MZ p mb lo y.1 y.2 s'->K (.tup []) s'
 |.er c l k=>∀ s',Kq p mb lo st s'->Kp (kf c l k) s'
def moL (w:Ex)(vl:AV):List AV:=[.int .i64 w.op,.int .i64 w.num,.str w.name,.lst w.kids.length (fl eE w.kids),.int .i64 w.line,.int .i64 w.col,vl]
theorem jpX (w:Ex)(vl:AV):eE w ++ [vl]=moL w vl:=by rw[qG];rfl
def rQ (st:St)(K:AV->St->Prop):Out->Prop:=Xa Qaf y64.res λv s=>K v (back st s)
structure RS (p mb lo q z:Nat)(m:ModT)(ts:List (List Nat))(v1 v2 v3:AV)(ws:List AV)(r:RuleT)(w:Ex)(acc:List SetT)(vl:AV)(st:St)(L:Sl)(s:St):Prop where
 S:MR p mb lo q m ts v1 v2 v3 ws s
 k:Kq p mb lo st.bare s
 qz:q<z
 nx:z+1<=s.nx
 c3:Cl s q (ruE r)
 c4:Cl s z (moL w vl)
 lv:Lv (z+1) s.nx s vl acc.length (fl seE acc) 7
 i0:Has L 0 (.ptr p 0)
 i3:Has L 3 (.ptr q 0)
 i4:Has L 4 (.ptr z 0)
theorem RS.push {p mb lo q z:Nat}{m:ModT}{ts:List (List Nat)}{v1 v2 v3:AV}{ws:List AV}{r:RuleT}{w:Ex}{acc:List SetT}{vl:AV}{st:St}{L:Sl}{s:St}(D:RS p mb lo q z m ts v1 v2 v3 ws r w acc vl st L s){c:Nat}{v:AV}(h:c≠0/\c≠3/\c≠4):RS p mb lo q z m ts v1 v2 v3 ws r w acc vl st ((c,v) :: L) s:=by
 obtain⟨S,k,qz,nx,c3,c4,lv,i0,i3,i4⟩:=D;exact⟨S,k,qz,nx,c3,c4,lv,by rw[jb h.1];exact i0,by rw[jb h.2.1];exact i3,by rw[jb h.2.2];exact i4⟩
set_option maxHeartbeats 4000000 in
theorem jpH (hb:NB base){p mb lo q z:Nat}{m:ModT}{ts:List (List Nat)}{v1 v2 v3:AV}{ws:List AV}{r:RuleT}{w:Ex}{acc:List SetT}{vl:AV}{st:St}{L:Sl}{s:St}(D:RS p mb lo q z m ts v1 v2 v3 ws r w acc vl st L s)(hM:m.moves.length<=1000000)(K Kp:AV->St->Prop)
  (hK:KZ p mb lo st (.ok ({ m with moves:=m.moves ++ [⟨w,acc⟩] },ts)) K Kp):xC Qaf base jes L s (rQ st K) (dP st Kp):=by
 obtain⟨S,k,qz,nx,C3,C4,lv,i0,i3,i4⟩:=D;have C:=S.cp;have l3:=S.l3;have hp:=S.hp;have hlo:=S.lo;have hhi:=S.hi;have ve3:=l3.eqs;have vc:∀ l,lall AV.cell (vl :: l)=lall AV.cell l:=λl=>by show cond vl.cell _ false=_;rw[lv.cell];rfl
 have Ap:=λst' bv xc xx K h hv=>@J0 lo q m.moves.length 7 st' v3 (mvc m.moves ws) K 96 bv xc xx h (by decide) (by omega) (by omega) hv;have hqp:q≠p/\z≠p:=by omega
 have lv2:Lv (z+1) (Go.Sy.nw s (moL w vl)).nx (Go.Sy.nw s (moL w vl)) vl acc.length (fl seE acc) 7:=by
  refine Lv.up (hi:=s.nx) ?_ (by(first|omega|(simp only[jg,jj,ju,jr,jk];first|done|omega)))
  (first|exact lv|(simp(disch:=first|assumption|decide|(first|omega|(simp only[jg,jj,ju,jr,jk];first|done|omega))) only[jB,jD,jz,jQ,jA,jF,jG,jJ];exact lv))
 have S3:=(S.nw (moL w vl)).move ⟨w,acc⟩ (u:=vl) lv2 (by omega);rw[jpX] at S3;have q2:=(((k.nw (by omega) (moL w vl)).aps l3 (by(first|omega|(simp only[jg,jj,ju,jr,jk];first|done|omega))) (moL w vl)).wr (.inl rfl) 2 [apv 7 v3 (Go.Sy.nw s (moL w vl))]).bk;have S2:=(S3.up (by(first|omega|(simp only[jg,jj,ju,jr,jk];first|done|omega))) (Qao _)).ofbk (u:=st);have gp:rat s.h p 2=v3:=C.cell 2 (by simp only[Qak,Qan];omega);clear S3 lv2;unfold moL at *;unfold rQ dP y64;rw[(by unfold jes;simp only[qq];rfl:jes=_)]
 (have zz:=aI @vc (aI @l3.ln (aI @l3.rts (aI @jA (aI @jF (aI @jJ (aI @l3 (aI @jC (aI @jI (aI @jL (aI C3.r (aI C4.r C.r)))))))))));(repeat'(first|(apply jc<;>intro _)|simp(disch:=first|exact jY|fail) only[ja i0,ja i3,ja i4,Ap,l3.at,jC,C3.q,C4.q,C.q,vc,l3.ln,l3.rts,jA,jF,jJ,l3,jC,jI,jL,C3.r,C4.r,C.r,je,ji,jW,jh,jd,jm,jn,jp,jq,jo,rzZ,Qab,Qac,Qad,Qaa,Qae]));(all_goals(clear zz)))
 exact hK _ q2 ⟨_,_,_,_,S2⟩
end Go.Sy
end
noncomputable section
set_option maxRecDepth 100000
namespace Go.Sy
open Go.Ev Go.Proofs
variable {base:Bs}
theorem jrw:Go.Ev.isAgg Qaf 67=some false:=by kernel_rfl
theorem jrv:Go.Ev.sizeOf Qaf 67=some 1:=by kernel_rfl
theorem jpz {b o:Nat}{v:AV}{h:T AO}(ho:o<qt h b)(hv:rat h b o=v)(hc:eqs v=true):(jX Qaf 67 (.ptr b o) v h=true)=True:=eq_true (J4 jrw jrv ho hv hc)
def zA9:List AV:=[.str [],.int .i64 0,.int .i64 0,.str [],.nils,.int .i64 0,.int .i64 0,.int .i64 0,.int .i64 0]
theorem jbk {vars:List VarT}{enums:List EnumT}{acc:List SetT}{xs:List AsT}{k:Nat}(hk:k<xs.length):Qq vars enums acc (xs.take k) (xs.drop k)=if qg vars xs[k].name<0 then .er 161 xs[k].line xs[k].col
  else if 0<=fi (λx=>decide (x.name=xs[k].name)) (xs.take k) then .er 162 xs[k].line xs[k].col
  else match yv vars enums false xs[k].to (vars.getD (qg vars xs[k].name).toNat vz).kind (vars.getD (qg vars xs[k].name).toNat vz).enum with
   |.er x y z=>.er x y z
   |.ok y=>Qq vars enums (acc ++ [⟨qg vars xs[k].name,y⟩]) (xs.take (k+1)) (xs.drop (k+1)):=by
 have e:xs.drop k=xs[k] :: xs.drop (k+1):=(QbH hk).symm;rw[e,Qq,<-yE hk]<;>rfl
set_option maxHeartbeats 8000000 in
theorem jpI (hb:NB base){p mb lo q z:Nat}{m:ModT}{ts:List (List Nat)}{v1 v2 v3:AV}{ws:List AV}{r:RuleT}{w:Ex}{st:St}{L:Sl}{s:St}(D:RS p mb lo q z m ts v1 v2 v3 ws r w [] .nils st L s)(V:VarsOK m.vars m.enums)(hx:∀ a∈r.acts,OkE a.to)(hbl:r.acts.length<=1000000)(hM:m.moves.length<=1000000)(K Kp:AV->St->Prop)
  (hK:KZ p mb lo st (match Qq m.vars m.enums [] [] r.acts with | .er a b c=>.er a b c | .ok ss=>.ok ({ m with moves:=m.moves ++ [⟨w,ss⟩] },ts)) K Kp):xC Qaf base jet L s (rQ st K) (dP st Kp):=by
 have i0:=D.i0;have i3:=D.i3;have i4:=D.i4;have C3:=D.c3;rw[(by unfold jet;simp only[qq];rfl:jet=_)]
 (have zz:=C3.r;(repeat'(first|(apply jc<;>intro _)|simp(disch:=first|exact jY|fail) only[ja i0,ja i3,ja i4,C3.q,C3.r,je,ji,jW,jh,jd,jm,jn,jp,jq,jo,rzZ,Qab,Qac,Qad,Qaa,Qae]));(all_goals(clear zz)))
 refine qb r.acts.length (λk L s=>(∃ acc vl,acc.length=k/\Qq m.vars m.enums [] [] r.acts=Qq m.vars m.enums acc (r.acts.take k) (r.acts.drop k)/\RS p mb lo q z m ts v1 v2 v3 ws r w acc vl st L s)/\Has L 14 (.lst r.acts.length (fl asE r.acts))) (by first|assumption|omega) (by decide) (by simp(disch:=decide) only[jf,jb]) (by simp(disch:=decide) only[jf,jb]) ?_ (λk L s v h=>(by obtain⟨⟨acc,vl,h0,h1,h2⟩,h3⟩:=h;refine⟨⟨acc,vl,h0,h1,h2.push (by decide)⟩,?_⟩;simp(disch:=decide) only[jb];assumption)) (λk L s v h=>(by obtain⟨⟨acc,vl,h0,h1,h2⟩,h3⟩:=h;refine⟨⟨acc,vl,h0,h1,h2.push (by decide)⟩,?_⟩;simp(disch:=decide) only[jb];assumption)) (λk L s hk hI hi hn=>?_) (λL s hI=>?_)
 ·refine⟨⟨[],.nils,rfl,rfl,((D.push (by decide)).push (by decide)).push (by decide)⟩,?_⟩;simp(disch:=decide) only[jb,jf]
 ·obtain⟨⟨acc,vl,hacc,h1,D⟩,i14⟩:=hI;obtain⟨S,k0,qz,nx,C3,C4,lv,i0,i3,i4⟩:=D;obtain⟨x1,x2⟩:=hx _ (Qat hk);have hlo:=S.lo;have hhi:=S.hi;have hp:=S.hp;have hqm:q≠p/\z≠p:=by omega
  have zl9:(asE r.acts[k]).length=zA9.length:=by rw[ZO];rfl
  have S1:=(S.nw zA9).wr (c:=s.nx) (by omega) 0 (asE r.acts[k]);have k1:=(k0.nw (by omega) zA9).wr (c:=s.nx) (.inr (by omega)) 0 (asE r.acts[k]);have C6:=(Cl.new s zA9).wr0 zl9;have D3:Cl (Go.Sy.wr (Go.Sy.nw s zA9) s.nx 0 (asE r.acts[k])) q (ruE r):=by(first|exact C3|(simp(disch:=first|assumption|decide|(first|omega|(simp only[jg,jj,ju,jr,jk];first|done|omega))) only[jB,jD,jz,jQ,jA,jF,jG,jJ];exact C3))
  have D4:Cl (Go.Sy.wr (Go.Sy.nw s zA9) s.nx 0 (asE r.acts[k])) z (moL w vl):=by(first|exact C4|(simp(disch:=first|assumption|decide|(first|omega|(simp only[jg,jj,ju,jr,jk];first|done|omega))) only[jB,jD,jz,jQ,jA,jF,jG,jJ];exact C4))
  have lv1:Lv (z+1) s.nx (Go.Sy.wr (Go.Sy.nw s zA9) s.nx 0 (asE r.acts[k])) vl acc.length (fl seE acc) 7:=by(first|exact lv|(simp(disch:=first|assumption|decide|(first|omega|(simp only[jg,jj,ju,jr,jk];first|done|omega))) only[jB,jD,jz,jQ,jA,jF,jG,jJ];exact lv))
  have hn1:(Go.Sy.wr (Go.Sy.nw s zA9) s.nx 0 (asE r.acts[k])).nx=s.nx+1:=rfl;have VC:=λnm K Kp=>jeI hb S1.ck V.len nm K Kp;have HA:=λK Kp=>jnt hb (r.acts.take k) (by rw[QaH];omega) r.acts[k] _ C6 k (by rw[QaH];omega) K Kp;have SL:=λst K=>@jlo _ asE 9 ZO r.acts .i64 k (Qcx hk) st K;rw[h1,jbk hk] at hK;unfold zA9 at *
  (have zz:=aI C3.r C4.r;(repeat'(first|(apply jc<;>intro _)|simp(disch:=first|exact jY|fail) only[ja i0,ja i3,ja i4,ja i14,ja hi,ja hn,C3.q,C4.q,C3.r,C4.r,je,ji,jW,jh,jd,jm,jn,jp,jq,jo,rzZ,Qab,Qac,Qad,Qaa,Qae]));(all_goals(clear zz)))
  generalize Go.Sy.wr (Go.Sy.nw s [.str [],.int .i64 0,.int .i64 0,.str [],.nils,.int .i64 0,.int .i64 0,.int .i64 0,.int .i64 0]) s.nx 0 (asE r.acts[k])=t1 at *;have C1:=S1.cp;by_cases c1:qg m.vars r.acts[k].name<0
  ·rw[if_pos c1] at hK
   (have zz:=aI D3.r (aI D4.r C6.r);(repeat'(first|(apply jc<;>intro _)|simp(disch:=first|exact jY|fail) only[ja i0,ja i3,ja i4,VC,c1,zQ hb,D3.q,D4.q,C6.q,D3.r,D4.r,C6.r,je,ji,jW,jh,jd,jm,jn,jp,jq,jo,rzZ,Qab,Qac,Qad,Qaa,Qae]));(all_goals(clear zz)))
   exact hK _ k1.bk
  rw[if_neg c1] at hK;by_cases c2:0<=fi (λx=>decide (x.name=r.acts[k].name)) (r.acts.take k)
  ·rw[if_pos c2] at hK
   (have zz:=aI D3.r (aI D4.r C6.r);(repeat'(first|(apply jc<;>intro _)|simp(disch:=first|exact jY|fail) only[ja i0,ja i3,ja i4,VC,c1,HA,SL,c2,zQ hb,D3.q,D4.q,C6.q,D3.r,D4.r,C6.r,je,ji,jW,jh,jd,jm,jn,jp,jq,jo,rzZ,Qab,Qac,Qad,Qaa,Qae]));(all_goals(clear zz)))
   exact hK _ k1.bk
  rw[if_neg c2] at hK;have hlt:qg m.vars r.acts[k].name<(m.vars.length:Int):=ZJ;have hi2:(qg m.vars r.acts[k].name).toNat<m.vars.length:=by omega
  have eg:m.vars.getD (qg m.vars r.acts[k].name).toNat vz=m.vars[(qg m.vars r.acts[k].name).toNat]:=by simp[QaN,hi2]
  rw[eg] at hK;have Lw:=S1.l1;rcases id Lw with ⟨_,e0,_⟩|⟨b,rfl,b1,b2,Ce,b5,b6⟩
  ·omega
  have gl:qt t1.h b=m.vars.length * 7:=by rw[Ce.len,zY Xg]
  have ge1:rat t1.h b ((qg m.vars r.acts[k].name).toNat * 7+1)=.int .i64 m.vars[(qg m.vars r.acts[k].name).toNat].kind:=by
   rw[Ce.cell _ (by rw[zY Xg];omega),vu Xg hi2 (by decide)];rfl
  have ge2:rat t1.h b ((qg m.vars r.acts[k].name).toNat * 7+2)=.str m.vars[(qg m.vars r.acts[k].name).toNat].enum:=by
   rw[Ce.cell _ (by rw[zY Xg];omega),vu Xg hi2 (by decide)];rfl
  have gp:rat t1.h p 0=.slice b 0 m.vars.length m.vars.length 7 false:=C1.cell 0 (by simp only[Qak,Qan];omega);unfold moL at D4 C4
  (have zz:=aI @gl (aI @ge1 (aI @ge2 (aI C1.r (aI D3.r (aI D4.r C6.r)))));(repeat'(first|(apply jc<;>intro _)|simp(disch:=first|exact jY|fail) only[ja i0,ja i3,ja i4,VC,c1,HA,SL,c2,ge1,ge2,Yt,W4,W3 (base:=base),C1.q,D3.q,D4.q,C6.q,gl,ge1,ge2,C1.r,D3.r,D4.r,C6.r,je,ji,jW,jh,jd,jm,jn,jp,jq,jo,rzZ,Qab,Qac,Qad,Qaa,Qae]));(all_goals(clear zz)))
  rw[<-qG];refine Ue hb V _ x2 (Yu _ x1) _ _ S1.ck _ _ ?_;cases hr:yv m.vars m.enums false r.acts[k].to m.vars[(qg m.vars r.acts[k].name).toNat].kind m.vars[(qg m.vars r.acts[k].name).toNat].enum with
  |er a b c=>
   rw[hr] at hK;intro s' k2;repeat'(first|(apply jc<;>intro _)|simp(disch:=first|exact dzG|fail) only[Yt,W4,W3 (base:=base),je,ji,jW,jh,jd,jm,jn,jp,jq,jo,rzZ,Qab,Qac,Qad,Qaa,Qae])
   exact hK _ (k1.keep k2 (by omega)).bk
  |ok y=>
   rw[hr] at hK;dsimp only at hK;intro s' k2 C2;have hs':=k2.nx;have k3:=k1.keep k2 (by omega);have S3:=S1.keep k2 C2;have E3:=k2.cl D3 hqm.1;have E4:=k2.cl D4 hqm.2;have lv2:=k2.lv lv1 (.inl (by omega));have ve:=lv2.eqs;have gz:rat s'.h z 6=vl:=E4.cell 6 (by simp only[Qak,Qan];omega);have Ap:=λst' bv xc xx K h hv=>@J0 (z+1) s.nx acc.length 7 st' vl (fl seE acc) K 80 bv xc xx h (by decide) (by omega) (by omega) hv;have a59:jX Qaf 67 (.ptr z 6) vl t1.h=true:=(jpz (by rw[D4.len];simp only[Qak,Qan];omega) (D4.cell 6 (by simp only[Qak,Qan];omega)) ve).mpr trivial;clear S1 k1 k2 C2 C6 D3 D4 C3 C4 S k0 VC HA SL ge1 ge2 gl gp Ce Lw C1 lv lv1;have hzp:p≠z:=λe=>hqm.2 e.symm;have lv3:Lv (z+1) (Go.Sy.nw s' (seE ⟨qg m.vars r.acts[k].name,y⟩)).nx (Go.Sy.nw s' (seE ⟨qg m.vars r.acts[k].name,y⟩)) vl acc.length (fl seE acc) 7:=by
    refine Lv.up (hi:=s.nx) ?_ (by(first|omega|(simp only[jg,jj,ju,jr,jk];first|done|omega)))
    (first|exact lv2|(simp(disch:=first|assumption|decide|(first|omega|(simp only[jg,jj,ju,jr,jk];first|done|omega))) only[jB,jD,jz,jQ,jA,jF,jG,jJ];exact lv2))
   have S4:=((S3.nw (seE ⟨qg m.vars r.acts[k].name,y⟩)).aps lv3 (by omega) (seE ⟨qg m.vars r.acts[k].name,y⟩)).wr (c:=z) (by omega) 6 [apv 7 vl (Go.Sy.nw s' (seE ⟨qg m.vars r.acts[k].name,y⟩))];have k4:=((k3.nw (by omega) (seE ⟨qg m.vars r.acts[k].name,y⟩)).aps (lv3.low (lo:=lo) (by omega)) (by(first|omega|(simp only[jg,jj,ju,jr,jk];first|done|omega))) (seE ⟨qg m.vars r.acts[k].name,y⟩)).wr (c:=z) (.inr (by omega)) 6 [apv 7 vl (Go.Sy.nw s' (seE ⟨qg m.vars r.acts[k].name,y⟩))];have hlz:z+1<=s'.nx:=by omega
   (have zz:=aI @lv2.ln (aI @lv2.rts (aI @jA (aI @jF (aI @jJ (aI @lv2 (aI @jC (aI @jI (aI @jL (aI @ve (aI E3.r E4.r))))))))));(repeat'(first|(apply jc<;>intro _)|simp(disch:=first|exact jY|fail) only[ja i0,ja i3,ja i4,Ap,lv2.at,jpz,ve,jC,E3.q,E4.q,lv2.ln,lv2.rts,jA,jF,jJ,lv2,jC,jI,jL,ve,E3.r,E4.r,je,ji,jW,jh,jd,jm,jn,jp,jq,jo,rzZ,Qab,Qac,Qad,Qaa,Qae]));(all_goals(clear zz)))
   refine⟨a59,⟨⟨acc ++ [⟨qg m.vars r.acts[k].name,y⟩],_,?_,h1.trans ?_,S4,k4,qz,?_,?_,Cl.wr (?_:Cl _ z (moL w vl)) 6 [apv 7 vl (Go.Sy.nw s' (seE ⟨qg m.vars r.acts[k].name,y⟩))],?_,?_,?_,?_⟩,?_⟩,?_,?_⟩
   ·rw[Qal,hacc];rfl
   ·rw[jbk hk,if_neg c1,if_neg c2,eg,hr]
   ·rw[jj,jr,jg];omega
   ·have:=(E3.nw (seE ⟨qg m.vars r.acts[k].name,y⟩)).aps lv3 (.inl (by omega)) (news:=seE ⟨qg m.vars r.acts[k].name,y⟩)
    (first|exact this|(simp(disch:=first|assumption|decide|(first|omega|(simp only[jg,jj,ju,jr,jk];first|done|omega))) only[jB,jD,jz,jQ,jA,jF,jG,jJ];exact this))
   ·exact(E4.nw (seE ⟨qg m.vars r.acts[k].name,y⟩)).aps lv3 (.inl (by omega))
   ·rw[jA (.inl (by omega)),Qal,QH,JL];exact lv3.put (Xk _) (by(first|omega|(simp only[jg,jj,ju,jr,jk];first|done|omega))) (by(first|omega|(simp only[jg,jj,ju,jr,jk];first|done|omega)))
   all_goals(simp(disch:=decide) only[jb];assumption)
 ·obtain⟨⟨acc,vl,hacc,h1,D⟩,i14⟩:=hI;rw[Qaz,Qce,Qq] at h1;rw[h1] at hK;repeat'(first|(apply jc<;>intro _)|simp(disch:=first|exact dzG|fail) only[je,ji,jW,jh,jd,jm,jn,jp,jq,jo,rzZ,Qab,Qac,Qad,Qaa,Qae])
  exact jpH hb D hM K Kp hK
end Go.Sy
end
noncomputable section
set_option maxRecDepth 100000
namespace Go.Sy
open Go.Ev Go.Proofs
variable {base:Bs}
def z7:List AV:=[.int .i64 0,.int .i64 0,.str [],.nils,.int .i64 0,.int .i64 0,.nils]
set_option maxHeartbeats 4000000 in
theorem jpG (hb:NB base){p mb lo:Nat}{m:ModT}{ts:List (List Nat)}{st:St}(r:RuleT)(V:VarsOK m.vars m.enums)(hw:OkE r.when)(hx:∀ a∈r.acts,OkE a.to)(hbl:r.acts.length<=1000000)(hM:m.moves.length<=1000000)(H:MZ p mb lo m ts st)(K Kp:AV->St->Prop)(hK:KZ p mb lo st (Xm m ts r) K Kp):XB Qaf base 71 [.ptr p 0,.agg (ruE r)] st K Kp:=by
 obtain⟨v1,v2,v3,ws,S⟩:=H;have hp:=S.hp;have hlo:=S.lo;have hhi:=S.hi;refine zW x64 (by rfl) (hb.at0 71 (by decide) (by decide) _ _) ?_;simp only[y64,jt,Qai,Qaj,Qag,Qah];rw[(by unfold z64;simp only[qq];rfl:z64=_)];have hnx:st.bare.nx=st.nx:=rfl;have S0:=S.bare.nw (ruE r);have q1:=(Kq.refl:Kq p mb lo st.bare st.bare).nw (by omega) (ruE r);have Cb:Cl (Go.Sy.nw st.bare (ruE r)) st.nx (ruE r):=Cl.new st.bare (ruE r);unfold Xm at hK
 (have zz:=@Cb.r;(repeat'(first|(apply jc<;>intro _)|simp(disch:=first|exact jY|fail) only[Cb.q,Cb.r,je,ji,jW,jh,jd,jm,jn,jp,jq,jo,rzZ,Qab,Qac,Qad,Qaa,Qae]));(all_goals(clear zz)))
 rw[<-qG];have hn0:(Go.Sy.nw st.bare (ruE r)).nx=st.nx+1:=rfl;refine Ue hb V _ hw.2 (Yu _ hw.1) _ _ S0.ck _ _ ?_;cases hr:yv m.vars m.enums false r.when 2 [] with
 |er a b c=>
  rw[hr] at hK;intro s' k2;exact hK _ (q1.keep k2 (by omega)).bk
 |ok y=>
  rw[hr] at hK;dsimp only at hK;intro s' k2 C2;have hs':=k2.nx;have k3:=q1.keep k2 (by omega);have S3:=S0.keep k2 C2;have E3:=k2.cl Cb (by omega);rw[qG];have S4:=(S3.nw z7).wr (c:=s'.nx) (by omega) 0 (moL y .nils);have k4:=(k3.nw (by omega) z7).wr (c:=s'.nx) (.inr (by omega)) 0 (moL y .nils);have C4:=(Cl.new s' z7).wr0 (c':=moL y .nils) rfl;unfold z7 moL at *;repeat'(first|(apply jc<;>intro _)|simp(disch:=first|exact dzG|fail) only[je,ji,jW,jh,jd,jm,jn,jp,jq,jo,rzZ,Qab,Qac,Qad,Qaa,Qae])
  refine jpI hb ⟨S4,k4,?_,by(first|omega|(simp only[jg,jj,ju,jr,jk];first|done|omega)),by(first|exact E3|(simp(disch:=first|assumption|decide|(first|omega|(simp only[jg,jj,ju,jr,jk];first|done|omega))) only[jB,jD,jz,jQ,jA,jF,jG,jJ];exact E3)),C4,Lv.nil,?_,?_,?_⟩ V hx hbl hM K Kp hK
  ·omega
  all_goals simp(disch:=decide) only[jb,jf]
end Go.Sy
end
noncomputable section
set_option maxRecDepth 100000
namespace Go.Sy
open Go.Ev Go.Proofs
variable {base:Bs}
def fcl (c l k:Int):List AV:=[.int .i64 c,.int .i64 l,.int .i64 k]
theorem jr8 (c l k:Int)(st:St)(K:AV->St->Prop):jl (gu Qaf 45 (kf c l k) st) K=K (.tup [.agg (fcl c l k),.bool true]) st:=by
 have:gu Qaf 45 (kf c l k) st=.ok (.tup [.agg (fcl c l k),.bool true]) st:=by kernel_rfl
 rw[this];rfl
theorem jqs (c l k:Int)(st:St)(K:AV->St->Prop):jl (YZ Qaf .eql 20 true (kf c l k) .nilif st) K=K (.bool false) st:=by
 have:YZ Qaf .eql 20 true (kf c l k) .nilif st=.ok (.bool false) st:=by kernel_rfl
 rw[this];rfl
theorem gj {fb:Nat}(st:St)(K:Md->St->Prop):DX Qaf base 67 [.ptr fb 0] .calm st.bare K=K .calm st.bare:=by
 refine jaG (λK hK=>?_) K;refine ud jo1 (by rfl) rfl ?_;simp only[gC,jt,Qai,Qaj,Qag,XL,Ym];rw[(by unfold u7;simp only[qq];rfl:u7=_)];repeat'(first|(apply jc<;>intro _)|simp(disch:=first|exact dzG|fail) only[jie,Wb,je,ji,jW,jh,jd,jm,jn,jp,jq,jo,rzZ,Qab,Qac,Qad,Qaa,Qae])
 exact hK
theorem jai {fb:Nat}(c l k:Int)(st:St)(h:qt st.h fb=3)(hn:fb<st.nx)(K:Md->St->Prop) :
  DX Qaf base 67 [.ptr fb 0] (.pan (kf c l k)) st.bare K=K .done (wr (wr (nw st.bare [.int .i64 0,.int .i64 0,.int .i64 0]) st.nx 0 (fcl c l k)) fb 0 (fcl c l k)):=by
 have C:Cl st.bare fb (rats st.h fb 0 3):=(Cl.of_rats hn h (Q0 _ _ _ _) (by decide) rfl).bar;have hcs:(rats st.h fb 0 3).length=3:=Q0 _ _ _ _;refine jaG (λK hK=>?_) K;refine ud jo1 (by rfl) rfl ?_;simp only[gC,jt,Qai,Qaj,Qag,XL,Ym];rw[(by unfold u7;simp only[qq];rfl:u7=_)];have hl:=C.lt;have l0:=C.len;have hB:st.bare.nx=st.nx:=rfl;have hne:¬ fb=st.bare.nx:=by omega
 unfold fcl at *;have A:=jr8 c l k;unfold fcl at A
 (have zz:=aI @l0 @hcs;(repeat'(first|(apply jc<;>intro _)|simp(disch:=first|exact jY|fail) only[jqs,jhV,A,Wb,l0,hcs,je,ji,jW,jh,jd,jm,jn,jp,jq,jo,rzZ,Qab,Qac,Qad,Qaa,Qae]));(all_goals(clear zz)))
 exact hK
theorem jto {n:Nat}(h:0<n)(cs:List AV)(st:St)(K:AV->St->Prop):jl (YZ Qaf .eql 106 true (.lst n cs) .nils st) K=K (.bool false) st:=by
 obtain⟨k,rfl⟩:∃ k,n=k+1:=⟨n - 1,by omega⟩;have:YZ Qaf .eql 106 true (.lst (k+1) cs) .nils st=.ok (.bool false) st:=by kernel_rfl
 rw[this];rfl
theorem jtr {n:Nat}{cs:List AV}(h0:0<n)(hl:cs.length=n)(hn:n<=1000000)(K:AV->St->Prop):jl (uG 1 16 (.slice 0 0 0 0 1 true) (.lst n cs) (nw st0 [])) K=K (.slice 1 0 n n 1 false) (nw (nw st0 []) cs):=by
 have hg:jx (nw st0 []).h 0=some (.row 0 0 [] .e):=by kernel_rfl
 have e1:Qav n 1=n:=Qcs n;have e2:Qap n (jP cs)=true:=q9 (by rw[jR];omega);have e3:yu cs n=cs:=by rw[yb,<-hl,Qaz]
 have e4:Qas (jP cs) n=true:=wF (by rw[jR,hl]);have e5:QaC 0 n=n:=QaK n;have e6:Qap n 0=false:=jfT h0;have e7:Qap (Qav n 16) 140737488355328=true:=q9 (by show n * 16<=_;omega);have e8:Qap n 9223372036854775807=true:=q9 (by omega);have e9:Qav 0 1=0:=rfl;have e10:Qap (QaC 0 0) 0=true:=rfl;have e11:jV 0 [] .e 0 0=[]:=rfl;have e12:zh [] cs=cs:=by rw[yL];rfl
 simp only[uG,Qt,firstCells,jH,e1,e2,cond_true,e3,yh,e4,hg,yB,e5,e6,cond_false,e7,e8,e9,e10,e11,e12,St.alloc_eq,jl];conv=>rhs;unfold nw
 rw[hl];rfl
set_option maxHeartbeats 1000000 in
theorem jnC (hb:NB base)(vs:List (List Nat))(hv:0<vs.length)(hl:vs.length<=1000000):Tot base 91 [.lst vs.length (vs.map .str)] (.lst vs.length (vs.map .str)):=by
 refine hb.tot ?_ rfl rfl;have N:=jto hv (vs.map .str);have A:=λK=>jtr (cs:=vs.map .str) hv (by simp) hl K;refine jE x99 (by rfl) (hb.pur 91 1 (by decide)) ?_;simp only[y99,jt,Qai,Qaj,Qag,Qah];rw[(by unfold z99;simp only[qq];rfl:z99=_)];repeat'(first|(apply jc<;>intro _)|simp(disch:=first|exact dzG|fail) only[N,jav,A,je,ji,jW,jh,jd,jm,jn,jp,jq,jo,rzZ,Qab,Qac,Qad,Qaa,Qae])
 have C:Cl (nw (nw st0 []) (vs.map .str)) 1 (vs.map .str):=Cl.new (nw st0 []) _;refine FzD.slice C.rw_ (by simp) (QaG _) ?_;rw[Qcs,<-QaP (f:=AV.str),Qaz];refine FzsD.pc ?_;simp[pc]
end Go.Sy
end
noncomputable section
set_option maxRecDepth 100000
namespace Go.Sy
open Go.Ev Go.Proofs
variable {base:Bs}
def ye {α β:Type}(f:β->α->KR β):β->List α->KR β
 |b,[]=>.ok b
 |b,x :: xs=>match f b x with
  |.er a c d=>.er a c d
  |.ok b=>ye f b xs
theorem WJ {α β:Type}{f:β->α->KR β}{b:β}{xs:List α}{k:Nat}(hk:k<xs.length):ye f b (xs.drop k)=match f b xs[k] with
  |.er a c d=>.er a c d
  |.ok b=>ye f b (xs.drop (k+1)):=by
 have e:xs.drop k=xs[k] :: xs.drop (k+1):=(QbH hk).symm;rw[e,ye]
abbrev MT:=ModT×List (List Nat)
def YT (b:MT)(p:ProcT):KR MT:=match Xi b.2 p.name p.line p.col with
 |.er a c d=>.er a c d
 |.ok ts=>ye (λb r=>Xm b.1 b.2 r) (b.1,ts) p.rules
def md0:ModT:=⟨[],[],[]⟩
def VI (b:MT)(l:List EnumT):KR MT:=ye (λb e=>wy b.1 b.2 e) b l
def vB (b:MT)(l:List DeclT):KR MT:=ye (λb e=>XA b.1 b.2 e) b l
def XR (b:MT)(l:List ProcT):KR MT:=ye YT b l
def zV (s:SrcT):KR MT:=match VI (md0,[]) s.enums with
 |.er a c d=>.er a c d
 |.ok b=>match vB b s.vars with
  |.er a c d=>.er a c d
  |.ok b=>XR b s.procs
def Uf (r:KR MT):AV:=match r with
 |.er c l k=>.tup [.agg (mdE md0),.agg (fcl c l k)]
 |.ok b=>.tup [.agg (mdE b.1),.agg (fcl 0 0 0)]
def mQ (base:Bs)(r:KR MT):Out->Prop:=Gp Qaf base y26.res (Xz G0 (.ok (Uf r))) (Xq G0 (.ok (Uf r)))
def mP (base:Bs)(r:KR MT):AV->Sl->St->Prop:=Vl Qaf base y26.res (Xz G0 (.ok (Uf r))) (Xq G0 (.ok (Uf r)))
structure QS (src:SrcT)(L:Sl)(s:St):Prop where
 c0:Cl s 0 (srE src)
 c1:Cl s 1 [.nils,.nils,.nils]
 c2:Cl s 2 [.int .i64 0,.int .i64 0,.int .i64 0]
 fr:s.fr=[(67,[.ptr 2 0])]
 i1:Has L 1 (.ptr 0 0)
 i2:Has L 2 (.ptr 1 0)
 i3:Has L 3 (.ptr 2 0)
 i4:Has L 4 (.ptr 4 0)
section
variable {src:SrcT} {L:Sl} {s t:St}
theorem QS.push (h:QS src L s){c:Nat}{v:AV}(hc:c≠1/\c≠2/\c≠3/\c≠4):QS src ((c,v) :: L) s:=by
 obtain⟨c0,c1,c2,fr,i1,i2,i3,i4⟩:=h;exact⟨c0,c1,c2,fr,by rw[jb hc.1];exact i1,by rw[jb hc.2.1];exact i2,by rw[jb hc.2.2.1];exact i3,by rw[jb hc.2.2.2];exact i4⟩
theorem QS.kq (h:QS src L s)(k:Kq 4 3 5 s t):QS src L t:=
 ⟨k.cl h.c0 (by decide) (by decide) (by decide),k.cl h.c1 (by decide) (by decide) (by decide),k.cl h.c2 (by decide) (by decide) (by decide),k.fr.trans h.fr,h.i1,h.i2,h.i3,h.i4⟩
theorem jhx {m d:Nat}{s:St}:FzD m (d+3) s (.agg [.nils,.nils,.nils]) (.agg (mdE md0)):=FzD.agg (.cons FzD.nils (.cons FzD.nils (.cons FzD.nils .nil)))
theorem Uw {c l k:Int}(h:QS src L s):mP base (.er c l k) (kf c l k) L s:=by
 obtain⟨c0,c1,c2,fr,i1,i2,i3,i4⟩:=h;have l2:=c2.len;have n2:=c2.lt;unfold mP y26
 (have zz:=aI @c0.r (aI @c1.r @c2.r);(repeat'(first|(apply jc<;>intro _)|simp(disch:=first|exact jY|fail) only[ja i2,ja i3,J1 (f:=67) (vs:=[.ptr 2 0]),Jv (f:=67) (vs:=[.ptr 2 0]),gj,jai,c0.q,c1.q,c2.q,c0.r,c1.r,c2.r,je,ji,jW,jh,jd,qK,qJ,jm,jn,jp,jq,jo,rzZ,Qab,Qac,Qad,Qaa,Qae]));(all_goals(clear zz)))
 exact FzD.tup (.cons jhx (.cons (.agg (.pc (by rfl))) .nil))
end
theorem jho {m lo hi d:Nat}{s:St}{v3:AV}(hm:m<=lo):∀ {ms:List MoveT} {us:List AV},UU lo hi s v3 ms us->FzsD m (d+3) s (mvc ms us) (fl moE ms)
 |[],[],_=>.nil
 |e :: ms,u :: us,h=>by
  show FzsD m (d+3) s ((eE e.when ++ [u]) ++ mvc ms us) (moE e ++ fl moE ms);refine FzsD.append ?_ (jho hm h.2);exact FzsD.append (FzsD.pc (qY _)) (.cons (h.1.1.fz hm (yT wh _)) .nil)
set_option maxHeartbeats 4000000 in
theorem m_d {src:SrcT}{L:Sl}{s:St}(D:QS src L s){m:ModT}{ts:List (List Nat)}(H:MZ 4 3 5 m ts s):xC Qaf base jew L s (mQ base (.ok (m,ts))) (mP base (.ok (m,ts))):=by
 obtain⟨v1,v2,v3,ws,S⟩:=H;obtain⟨c0,c1,c2,fr,i1,i2,i3,i4⟩:=D;have C4:=S.cp;have l2:=c2.len;have n2:=c2.lt;have vc:∀ l,lall AV.cell (v1 :: v2 :: v3 :: l)=lall AV.cell l:=λl=>by
  show cond v1.cell (cond v2.cell (cond v3.cell _ false) false) false=_;rw[S.l1.cell,S.l2.cell,S.l3.cell];rfl
 unfold mQ mP y26;rw[(by unfold jew;simp only[qq];rfl:jew=_)]
 (have zz:=aI @vc (aI @c0.r (aI @c1.r (aI @c2.r C4.r)));(repeat'(first|(apply jc<;>intro _)|simp(disch:=first|exact jY|fail) only[ja i1,ja i2,ja i3,ja i4,gG i3,YP,J1 (f:=67) (vs:=[.ptr 2 0]),Jv (f:=67) (vs:=[.ptr 2 0]),gj,jai,c0.q,c1.q,c2.q,C4.q,vc,c0.r,c1.r,c2.r,C4.r,je,ji,jW,jh,jd,qK,qJ,jm,jn,jp,jq,jo,rzZ,Qab,Qac,Qad,Qaa,Qae]));(all_goals(clear zz)))
 have f:∀ v n cs z,Lv 5 s.nx s v n cs z->Lv 5 s.nx (Go.Sy.wr (Go.Sy.wr s 1 0 [v1,v2,v3]) 2 0 [.int .i64 0,.int .i64 0,.int .i64 0]).bare v n cs z:=λv n cs z h=>by
  rw[jG,jA (.inl (by decide)),jA (.inl (by decide))];exact h
 refine FzD.tup (.cons (FzD.agg (.cons ((f _ _ _ _ S.l1).fz (QaG _) (yT YK _)) (.cons ((f _ _ _ _ S.l2).fz (QaG _) (yT JN _)) (.cons ?_ .nil)))) (.cons (.agg (.pc (by rfl))) .nil))
 ·have u3:=S.uu.imp (λu n cs h=>(⟨f _ _ _ _ h.1,h.2⟩:Lv 5 s.nx (Go.Sy.wr (Go.Sy.wr s 1 0 [v1,v2,v3]) 2 0 [.int .i64 0,.int .i64 0,.int .i64 0]).bare u n cs 7/\Df v3 u));rcases f _ _ _ _ S.l3 with ⟨rfl,h1,h2⟩|⟨b,rfl,h1,h2,C,h3,h4⟩
  ·have:m.moves=[]:=QaQ h1;show FzD _ _ _ _ (.lst m.moves.length (fl moE m.moves));rw[this];exact FzD.nils
  ·refine FzD.slice C.rw_ (QbC h2.symm) (QaG _) ?_;rw[<-h2,Qaz];exact jho (QaG _) u3
end Go.Sy
end
noncomputable section
set_option maxRecDepth 100000
namespace Go.Sy
open Go.Ev Go.Proofs
variable {base:Bs}
structure ProcOK (p:ProcT):Prop where
 len:p.rules.length<=1000
 rules:∀ r∈p.rules,OkE r.when/\(∀ a∈r.acts,OkE a.to)/\r.acts.length<=1000000
structure DeclOK (d:DeclT):Prop where
 ex:∀ x∈d.begins,OkE x
 len:d.begins.length<=1000000
 lo : -100000000<=d.lo/\d.lo<=100000000
 hi : -100000000<=d.hi/\d.hi<=100000000
structure SrcOK (s:SrcT):Prop where
 ne:s.enums.length<=1000
 nv:s.vars.length<=1000
 np:s.procs.length<=100
 vals:∀ e∈s.enums,0<e.vals.length/\e.vals.length<=1000000
 vars:∀ d∈s.vars,DeclOK d
 procs:∀ p∈s.procs,ProcOK p
theorem WN {m:ModT}{ts:List (List Nat)}{e:EnumT}{b:MT}(h:wy m ts e=.ok b):b.1={ m with enums:=m.enums ++ [e] }:=by
 unfold wy at h;split at h
 ·cases h
 ·cases h;rfl
theorem jbm {m:ModT}{ts:List (List Nat)}{r:RuleT}{b:MT}(h:Xm m ts r=.ok b):∃ e,b.1={ m with moves:=m.moves ++ [e] }:=by
 unfold Xm at h;split at h
 ·cases h
 ·split at h
  ·cases h
  ·cases h;exact⟨_,rfl⟩
theorem Gw {vars:List VarT}{enums:List EnumT}:∀ {xs:List Ex} {v u:VarT},Jn vars enums v xs=.ok u->u.lo=v.lo/\u.hi=v.hi/\u.kind=v.kind/\u.enum=v.enum/\u.name=v.name
 |[],v,u,h=>by rw[Jn] at h;cases h;exact⟨rfl,rfl,rfl,rfl,rfl⟩
 |x :: xs,v,u,h=>by
  rw[Jn] at h;split at h
  ·cases h
  ·split at h
   ·cases h
   ·split at h
    ·cases h
    ·have:=Gw h;exact this
theorem jkA {enums:List EnumT}{d:DeclT}{v:VarT}(hv:∀ e∈enums,e.vals.length<=1000000)(hd:DeclOK d)(h:vY enums d=.ok v) : -100000000<=v.lo/\v.lo<=100000000/\-100000000<=v.hi/\v.hi<=100000000:=by
 unfold vY at h;split at h
 ·cases h;dsimp only;omega
 ·split at h
  ·rename_i h2;cases h;dsimp only;have hlt:Qz enums d.ty<(enums.length:Int):=ZJ;have hi2:(Qz enums d.ty).toNat<enums.length:=by omega
   have eg:enums.getD (Qz enums d.ty).toNat en0=enums[(Qz enums d.ty).toNat]:=by simp[QaN,hi2]
   rw[eg];have:=hv _ (Qat hi2);omega
  ·split at h
   ·cases h
   ·split at h
    ·cases h
    ·split at h
     ·cases h
     ·cases h;exact⟨hd.lo.1,hd.lo.2,hd.hi.1,hd.hi.2⟩
theorem jco {m:ModT}{ts:List (List Nat)}{d:DeclT}{b:MT}(hv:∀ e∈m.enums,e.vals.length<=1000000)(hd:DeclOK d)(h:XA m ts d=.ok b):∃ v:VarT,b.1={ m with vars:=m.vars ++ [v] }/\(-100000000<=v.lo/\v.lo<=100000000/\-100000000<=v.hi/\v.hi<=100000000):=by
 unfold XA at h;split at h
 ·cases h
 ·split at h
  ·cases h
  ·rename_i v hk;unfold wG at h;split at h
   ·cases h
   ·rename_i u hu;unfold ki at h;split at h
    ·cases h
    ·cases h;have hb:=Gw hu;refine⟨u,rfl,?_⟩;rw[hb.1,hb.2.1];exact jkA hv hd hk
section
variable {src:SrcT} {L:Sl} {s t:St} {m:ModT} {ts:List (List Nat)}
theorem MX.box (h:MX 4 3 5 m ts s)(z cs:List AV):MX 4 3 5 m ts (Go.Sy.wr (Go.Sy.nw s z) s.nx 0 cs):=by
 obtain⟨v1,v2,v3,S⟩:=h;exact⟨v1,v2,v3,((S.nw z).wr (c:=s.nx) (Qao _) 0 cs).up (by rw[jj,jg];omega) (Qao _)⟩
theorem MZ.box (h:MZ 4 3 5 m ts s)(z cs:List AV):MZ 4 3 5 m ts (Go.Sy.wr (Go.Sy.nw s z) s.nx 0 cs):=by
 obtain⟨v1,v2,v3,ws,S⟩:=h;exact⟨v1,v2,v3,ws,((S.nw z).wr (c:=s.nx) (Qao _) 0 cs).up (by rw[jj,jg];omega) (Qao _)⟩
theorem MZ.nx5 (h:MZ 4 3 5 m ts s):5<=s.nx:=by obtain⟨v1,v2,v3,ws,S⟩:=h;exact S.lo
theorem MX.nx5 (h:MX 4 3 5 m ts s):5<=s.nx:=by obtain⟨v1,v2,v3,S⟩:=h;exact S.lo
theorem KP (h:5<=s.nx)(z cs:List AV):Kq 4 3 5 s (Go.Sy.wr (Go.Sy.nw s z) s.nx 0 cs):=(Kq.refl.nw h z).wr (.inr h) 0 cs
end
theorem MZ.take {m:ModT}{ts:List (List Nat)}{s:St}(h:MZ 4 3 5 m ts s)(us:List (List Nat)):MZ 4 3 5 m us (Go.Sy.mp s 3 (mpl us)):=by
 obtain⟨v1,v2,v3,ws,S⟩:=h;exact⟨v1,v2,v3,ws,S.take us⟩
def zr7:List AV:=[.int .i64 0,.int .i64 0,.str [],.nils,.int .i64 0,.int .i64 0,.nils]
def zp4:List AV:=[.str [],.nils,.int .i64 0,.int .i64 0]
set_option maxHeartbeats 8000000 in
theorem m_c (hb:NB base){src:SrcT}{L:Sl}{s:St}(D:QS src L s){m:ModT}{ts:List (List Nat)}(V:VarsOK m.vars m.enums)(hm:m.moves=[])(O:SrcOK src)(H:MZ 4 3 5 m ts s):xC Qaf base jex L s (mQ base (XR (m,ts) src.procs)) (mP base (XR (m,ts) src.procs)):=by
 have c0:=D.c0;have i1:=D.i1;have onp:=O.np;generalize hR:XR (m,ts) src.procs=R;rw[(by unfold jex;simp only[qq];rfl:jex=_)]
 (have zz:=@c0.r;(repeat'(first|(apply jc<;>intro _)|simp(disch:=first|exact jY|fail) only[ja i1,c0.q,c0.r,je,ji,jW,jh,jd,qK,qJ,jm,jn,jp,jq,jo,rzZ,Qab,Qac,Qad,Qaa,Qae]));(all_goals(clear zz)))
 refine qb src.procs.length (λk L s=>(∃ b:MT,XR b (src.procs.drop k)=R/\b.1.vars=m.vars/\b.1.enums=m.enums/\b.1.moves.length<=1000 * k/\MZ 4 3 5 b.1 b.2 s/\QS src L s)/\Has L 39 (.lst src.procs.length (fl prE src.procs))) (by first|assumption|omega) (by decide) (by simp(disch:=decide) only[jf,jb]) (by simp(disch:=decide) only[jf,jb]) ?_ (λk L s v h=>(by obtain⟨⟨b,h1,h2,h3,h4,h5,h6⟩,h7⟩:=h;refine⟨⟨b,h1,h2,h3,h4,h5,h6.push (by decide)⟩,?_⟩;simp(disch:=decide) only[jb];assumption)) (λk L s v h=>(by obtain⟨⟨b,h1,h2,h3,h4,h5,h6⟩,h7⟩:=h;refine⟨⟨b,h1,h2,h3,h4,h5,h6.push (by decide)⟩,?_⟩;simp(disch:=decide) only[jb];assumption)) (λk L s hk hI hi hn=>?_) (λL s hI=>?_)
 ·refine⟨⟨(m,ts),by rw[Qbx];exact hR,rfl,rfl,by rw[hm];exact QaG _,H,((D.push (by decide)).push (by decide)).push (by decide)⟩,?_⟩;simp(disch:=decide) only[jb,jf]
 ·clear D c0 i1;obtain⟨⟨b,h1,h2,h3,h4,H,D⟩,i39⟩:=hI;obtain⟨c0,c1,c2,fr,i1,i2,i3,i4⟩:=id D;have hP:=O.procs _ (Qat hk);have n5:=H.nx5;have H1:=H.box zp4 (prE src.procs[k]);have k1:=KP n5 zp4 (prE src.procs[k]);have D1:=D.kq k1;have C10:=(Cl.new s zp4).wr0 (c':=prE src.procs[k]) rfl;unfold XR at h1;rw[WJ hk] at h1;unfold zp4 at *;repeat'(first|(apply jc<;>intro _)|simp(disch:=first|exact dzG|fail) only[ja i1,ja i2,ja i3,ja i4,ja i39,ja hi,ja hn,je,ji,jW,jh,jd,qK,qJ,jm,jn,jp,jq,jo,rzZ,Qab,Qac,Qad,Qaa,Qae])
  obtain⟨v1,v2,v3,ws,S⟩:=id H1;refine k8 hb S.cp S.mp _ _ _ _ _ ?_;have S1mp:=S.mp;clear S;by_cases hin:src.procs[k].name∈b.2
  ·rw[if_pos hin];have hp:YT b src.procs[k]=.er 162 src.procs[k].line src.procs[k].col:=by unfold YT Xi;rw[if_pos hin]
   rw[hp] at h1;rw[<-h1];exact Uw (D1.push (by decide))
  ·rw[if_neg hin];have hp:YT b src.procs[k]=ye (λb r=>Xm b.1 b.2 r) (b.1,b.2 ++ [src.procs[k].name]) src.procs[k].rules:=by unfold YT Xi;rw[if_neg hin]
   have H2:=H1.take (b.2 ++ [src.procs[k].name]);have D2:=D1.kq ((Kq.refl:Kq 4 3 5 _ _).mp (mpl (b.2 ++ [src.procs[k].name])));have C10:Cl (Go.Sy.mp (Go.Sy.wr (Go.Sy.nw s [.str [],.nils,.int .i64 0,.int .i64 0]) s.nx 0 (prE src.procs[k])) 3 (mpl (b.2 ++ [src.procs[k].name]))) s.nx (prE src.procs[k]):=by rw[WQ (by omega)];exact C10
   have hrl:=hP.len;generalize Go.Sy.mp (Go.Sy.wr (Go.Sy.nw s [.str [],.nils,.int .i64 0,.int .i64 0]) s.nx 0 (prE src.procs[k])) 3 (mpl (b.2 ++ [src.procs[k].name]))=t1 at *;clear D1 H1 k1 S1mp
   (have zz:=C10.r;(repeat'(first|(apply jc<;>intro _)|simp(disch:=first|exact jY|fail) only[ja i1,ja i2,ja i3,ja i4,ja i39,ja hi,ja hn,C10.q,C10.r,je,ji,jW,jh,jd,qK,qJ,jm,jn,jp,jq,jo,rzZ,Qab,Qac,Qad,Qaa,Qae]));(all_goals(clear zz)))
   refine qb src.procs[k].rules.length (λky L s=>(∃ c:MT,ye (λb r=>Xm b.1 b.2 r) c (src.procs[k].rules.drop ky)=YT b src.procs[k]/\c.1.vars=m.vars/\c.1.enums=m.enums/\c.1.moves.length<=1000 * k+ky/\MZ 4 3 5 c.1 c.2 s/\QS src L s)/\Has L 54 (.lst src.procs[k].rules.length (fl ruE src.procs[k].rules))/\Has L 39 (.lst src.procs.length (fl prE src.procs))/\Has L 41 (.int .i64 k)/\Has L 40 (.int .i64 src.procs.length)) (by first|assumption|omega) (by decide) (by simp(disch:=decide) only[jf,jb]) (by simp(disch:=decide) only[jf,jb]) ?_ (λk L s v h=>(by obtain⟨⟨c,g1,g2,g3,g4,g5,g6⟩,g7,g8,g9,g10⟩:=h;refine⟨⟨c,g1,g2,g3,g4,g5,g6.push (by decide)⟩,?_,?_,?_,?_⟩<;>simp(disch:=decide) only[jb]<;>assumption)) (λk L s v h=>(by obtain⟨⟨c,g1,g2,g3,g4,g5,g6⟩,g7,g8,g9,g10⟩:=h;refine⟨⟨c,g1,g2,g3,g4,g5,g6.push (by decide)⟩,?_,?_,?_,?_⟩<;>simp(disch:=decide) only[jb]<;>assumption)) (λky Ly sy hky hIy hiy hny=>?_) (λLy sy hIy=>?_)
   ·refine⟨⟨(b.1,b.2 ++ [src.procs[k].name]),by rw[Qbx];exact hp.symm,h2,h3,by omega,H2,(((D2.push (by decide)).push (by decide)).push (by decide)).push (by decide)⟩,?_⟩;simp(disch:=decide) only[jb,jf,true_and];exact⟨i39,hi,hn⟩
   ·obtain⟨⟨c,g1,g2,g3,g4,H3,D3⟩,j54,j39,j41,j40⟩:=hIy;obtain⟨c0',c1',c2',fr',i1',i2',i3',i4'⟩:=id D3;have hr:=hP.rules _ (Qat hky);have n5':=H3.nx5;have H4:=H3.box zr7 (ruE src.procs[k].rules[ky]);have k4:=KP n5' zr7 (ruE src.procs[k].rules[ky]);have D4:=D3.kq k4;have hlr:(ruE src.procs[k].rules[ky]).length=zr7.length:=by rw[wj];rfl
    have C12:=(Cl.new sy zr7).wr0 hlr;rw[WJ hky] at g1;unfold zr7 at *;repeat'(first|(apply jc<;>intro _)|simp(disch:=first|exact dzG|fail) only[ja i1',ja i2',ja i3',ja i4',ja j54,ja hiy,ja hny,je,ji,jW,jh,jd,qK,qJ,jm,jn,jp,jq,jo,rzZ,Qab,Qac,Qad,Qaa,Qae])
    refine jpG hb _ (by rw[g2,g3];exact V) hr.1 hr.2.1 hr.2.2 (by omega) H4 _ _ ?_;cases hk1:Xm c.1 c.2 src.procs[k].rules[ky] with
    |er x y z=>
     rw[hk1] at g1;rw[<-g1] at h1;intro s' k5;rw[<-h1];exact Uw ((D4.kq k5).push (by decide))
    |ok d=>
     rw[hk1] at g1;intro s' k5 H5;obtain⟨e,he⟩:=jbm hk1;repeat'(first|(apply jc<;>intro _)|simp(disch:=first|exact dzG|fail) only[je,ji,jW,jh,jd,qK,qJ,jm,jn,jp,jq,jo,rzZ,Qab,Qac,Qad,Qaa,Qae])
     refine⟨⟨⟨d,g1,by rw[he];exact g2,by rw[he];exact g3,by rw[he];simp only[Qal,Qak,Qan];omega,H5,(D4.kq k5).push (by decide)⟩,?_,?_,?_,?_⟩,?_,?_⟩<;>simp(disch:=decide) only[jb]<;>assumption
   ·obtain⟨⟨c,g1,g2,g3,g4,H3,D3⟩,j54,j39,j41,j40⟩:=hIy;rw[Qce,ye] at g1;rw[<-g1] at h1;repeat'(first|(apply jc<;>intro _)|simp(disch:=first|exact dzG|fail) only[je,ji,jW,jh,jd,qK,qJ,jm,jn,jp,jq,jo,rzZ,Qab,Qac,Qad,Qaa,Qae])
    refine⟨⟨⟨c,h1,g2,g3,by omega,H3,D3⟩,?_⟩,?_,?_⟩<;>assumption
 ·obtain⟨⟨b,h1,h2,h3,h4,H,D⟩,i39⟩:=hI;rw[Qce] at h1;unfold XR at h1;rw[ye] at h1;rw[<-h1];repeat'(first|(apply jc<;>intro _)|simp(disch:=first|exact dzG|fail) only[je,ji,jW,jh,jd,qK,qJ,jm,jn,jp,jq,jo,rzZ,Qab,Qac,Qad,Qaa,Qae])
  exact m_d D H
end Go.Sy
end
noncomputable section
set_option maxRecDepth 100000
namespace Go.Sy
open Go.Ev Go.Proofs
variable {base:Bs}
theorem MX.mz {m:ModT}{ts:List (List Nat)}{s:St}(h:MX 4 3 5 m ts s)(hm:m.moves=[]):MZ 4 3 5 m ts s:=by
 obtain⟨v1,v2,v3,S⟩:=h;exact⟨v1,v2,v3,[],S.mr hm⟩
def zd7:List AV:=[.str [],.str [],.int .i64 0,.int .i64 0,.nils,.int .i64 0,.int .i64 0]
def ze4:List AV:=[.str [],.nils,.int .i64 0,.int .i64 0]
set_option maxHeartbeats 8000000 in
theorem m_b (hb:NB base){src:SrcT}{L:Sl}{s:St}(D:QS src L s){m:ModT}{ts:List (List Nat)}(V:VarsOK m.vars m.enums)(hm:m.moves=[])(hv0:m.vars=[])(O:SrcOK src)(H:MX 4 3 5 m ts s)(R:KR MT)(hR:(match vB (m,ts) src.vars with | .er a c d=>.er a c d | .ok b=>XR b src.procs)=R):xC Qaf base jey L s (mQ base R) (mP base R):=by
 have c0:=D.c0;have i1:=D.i1;have onv:=O.nv;rw[(by unfold jey;simp only[qq];rfl:jey=_)]
 (have zz:=@c0.r;(repeat'(first|(apply jc<;>intro _)|simp(disch:=first|exact jY|fail) only[ja i1,c0.q,c0.r,je,ji,jW,jh,jd,qK,qJ,jm,jn,jp,jq,jo,rzZ,Qab,Qac,Qad,Qaa,Qae]));(all_goals(clear zz)))
 refine qb src.vars.length (λk L s=>(∃ b:MT,(match vB b (src.vars.drop k) with | .er a c d=>.er a c d | .ok b=>XR b src.procs)=R/\b.1.moves=[]/\b.1.vars.length<=k/\VarsOK b.1.vars b.1.enums/\MX 4 3 5 b.1 b.2 s/\QS src L s)/\Has L 28 (.lst src.vars.length (fl qh src.vars))) (by first|assumption|omega) (by decide) (by simp(disch:=decide) only[jf,jb]) (by simp(disch:=decide) only[jf,jb]) ?_ (λk L s v h=>(by obtain⟨⟨b,h1,h2,h3,h4,h5,h6⟩,h7⟩:=h;refine⟨⟨b,h1,h2,h3,h4,h5,h6.push (by decide)⟩,?_⟩;simp(disch:=decide) only[jb];assumption)) (λk L s v h=>(by obtain⟨⟨b,h1,h2,h3,h4,h5,h6⟩,h7⟩:=h;refine⟨⟨b,h1,h2,h3,h4,h5,h6.push (by decide)⟩,?_⟩;simp(disch:=decide) only[jb];assumption)) (λk L s hk hI hi hn=>?_) (λL s hI=>?_)
 ·refine⟨⟨(m,ts),by rw[Qbx];exact hR,hm,by rw[hv0];exact QaG _,V,H,((D.push (by decide)).push (by decide)).push (by decide)⟩,?_⟩;simp(disch:=decide) only[jb,jf]
 ·clear D c0 i1 H V hm hv0;obtain⟨⟨b,h1,hm,h3,V,H,D⟩,i28⟩:=hI;obtain⟨c0,c1,c2,fr,i1,i2,i3,i4⟩:=id D;have hd:=O.vars _ (Qat hk);have n5:=H.nx5;have H1:=H.box zd7 (qh src.vars[k]);have k1:=KP n5 zd7 (qh src.vars[k]);have D1:=D.kq k1;have C10:=(Cl.new s zd7).wr0 (c':=qh src.vars[k]) rfl;unfold vB at h1;rw[WJ hk] at h1;unfold zd7 at *;repeat'(first|(apply jc<;>intro _)|simp(disch:=first|exact dzG|fail) only[ja i1,ja i2,ja i3,ja i4,ja i28,ja hi,ja hn,je,ji,jW,jh,jd,qK,qJ,jm,jn,jp,jq,jo,rzZ,Qab,Qac,Qad,Qaa,Qae])
  refine jqE hb _ V (by omega) hd.ex hd.len hd.lo hd.hi H1 _ _ ?_;cases hk1:XA b.1 b.2 src.vars[k] with
  |er x y z=>
   rw[hk1] at h1;intro s' k5;rw[<-h1];exact Uw ((D1.kq k5).push (by decide))
  |ok d=>
   rw[hk1] at h1;intro s' k5 H5;obtain⟨v,he,hv⟩:=jco V.vals hd hk1;repeat'(first|(apply jc<;>intro _)|simp(disch:=first|exact dzG|fail) only[je,ji,jW,jh,jd,qK,qJ,jm,jn,jp,jq,jo,rzZ,Qab,Qac,Qad,Qaa,Qae])
   refine⟨⟨⟨d,h1,by rw[he];exact hm,by rw[he];simp only[Qal,Qak,Qan];omega,?_,H5,(D1.kq k5).push (by decide)⟩,?_⟩,?_,?_⟩
   ·rw[he];refine⟨by simp only[Qal,Qak,Qan];omega,V.len2,V.vals,λu hu=>?_⟩;rcases QaV.1 hu with hu|hu
    ·exact V.ends u hu
    ·simp only[Qbq] at hu;rw[hu];exact hv
   all_goals(simp(disch:=decide) only[jb];assumption)
 ·obtain⟨⟨b,h1,hm,h3,V,H,D⟩,i28⟩:=hI;rw[Qce] at h1;unfold vB at h1;rw[ye] at h1;dsimp only at h1;rw[<-h1];repeat'(first|(apply jc<;>intro _)|simp(disch:=first|exact dzG|fail) only[je,ji,jW,jh,jd,qK,qJ,jm,jn,jp,jq,jo,rzZ,Qab,Qac,Qad,Qaa,Qae])
  exact m_c hb D V hm O (H.mz hm)
set_option maxHeartbeats 8000000 in
theorem m_a (hb:NB base){src:SrcT}{L:Sl}{s:St}(D:QS src L s)(O:SrcOK src)(H:MX 4 3 5 md0 [] s):xC Qaf base jez L s (mQ base (zV src)) (mP base (zV src)):=by
 have c0:=D.c0;have i1:=D.i1;have one:=O.ne;generalize hR:zV src=R;unfold zV at hR;rw[(by unfold jez;simp only[qq];rfl:jez=_)]
 (have zz:=@c0.r;(repeat'(first|(apply jc<;>intro _)|simp(disch:=first|exact jY|fail) only[ja i1,c0.q,c0.r,je,ji,jW,jh,jd,qK,qJ,jm,jn,jp,jq,jo,rzZ,Qab,Qac,Qad,Qaa,Qae]));(all_goals(clear zz)))
 refine qb src.enums.length (λk L s=>(∃ b:MT,(match VI b (src.enums.drop k) with | .er a c d=>.er a c d | .ok b=>(match vB b src.vars with | .er a c d=>.er a c d | .ok b=>XR b src.procs))=R/\b.1.moves=[]/\b.1.vars=[]/\b.1.enums.length<=k/\(∀ e∈b.1.enums,e.vals.length<=1000000)/\MX 4 3 5 b.1 b.2 s/\QS src L s)/\Has L 17 (.lst src.enums.length (fl enE src.enums))) (by first|assumption|omega) (by decide) (by simp(disch:=decide) only[jf,jb]) (by simp(disch:=decide) only[jf,jb]) ?_ (λk L s v h=>(by obtain⟨⟨b,h1,h2,h3,h4,h4b,h5,h6⟩,h7⟩:=h;refine⟨⟨b,h1,h2,h3,h4,h4b,h5,h6.push (by decide)⟩,?_⟩;simp(disch:=decide) only[jb];assumption)) (λk L s v h=>(by obtain⟨⟨b,h1,h2,h3,h4,h4b,h5,h6⟩,h7⟩:=h;refine⟨⟨b,h1,h2,h3,h4,h4b,h5,h6.push (by decide)⟩,?_⟩;simp(disch:=decide) only[jb];assumption)) (λk L s hk hI hi hn=>?_) (λL s hI=>?_)
 ·refine⟨⟨(md0,[]),by rw[Qbx];exact hR,rfl,rfl,QaG _,(λe he=>by cases he),H,((D.push (by decide)).push (by decide)).push (by decide)⟩,?_⟩;simp(disch:=decide) only[jb,jf]
 ·clear D c0 i1 H;obtain⟨⟨b,h1,hm,h3,h4,hv,H,D⟩,i17⟩:=hI;obtain⟨c0,c1,c2,fr,i1,i2,i3,i4⟩:=id D;have hd:=O.vals _ (Qat hk);have n5:=H.nx5;have H1:=H.box ze4 (enE src.enums[k]);have k1:=KP n5 ze4 (enE src.enums[k]);have D1:=D.kq k1;have C10:=(Cl.new s ze4).wr0 (c':=enE src.enums[k]) rfl;unfold VI at h1;rw[WJ hk] at h1;unfold ze4 at *;repeat'(first|(apply jc<;>intro _)|simp(disch:=first|exact dzG|fail) only[ja i1,ja i2,ja i3,ja i4,ja i17,ja hi,ja hn,je,ji,jW,jh,jd,qK,qJ,jm,jn,jp,jq,jo,rzZ,Qab,Qac,Qad,Qaa,Qae])
  refine jqx hb (λvs h h2=>jnC hb vs h h2) _ hd.1 hd.2 (by omega) H1 _ _ ?_;cases hk1:wy b.1 b.2 src.enums[k] with
  |er x y z=>
   rw[hk1] at h1;intro s' k5;rw[<-h1];exact Uw ((D1.kq k5).push (by decide))
  |ok d=>
   rw[hk1] at h1;intro s' k5 H5;have he:=WN hk1;repeat'(first|(apply jc<;>intro _)|simp(disch:=first|exact dzG|fail) only[je,ji,jW,jh,jd,qK,qJ,jm,jn,jp,jq,jo,rzZ,Qab,Qac,Qad,Qaa,Qae])
   refine⟨⟨⟨d,h1,by rw[he];exact hm,by rw[he];exact h3,by rw[he];simp only[Qal,Qak,Qan];omega,?_,H5,(D1.kq k5).push (by decide)⟩,?_⟩,?_,?_⟩
   ·rw[he];intro u hu;rcases QaV.1 hu with hu|hu
    ·exact hv u hu
    ·simp only[Qbq] at hu;rw[hu];exact hd.2
   all_goals(simp(disch:=decide) only[jb];assumption)
 ·obtain⟨⟨b,h1,hm,h3,h4,hv,H,D⟩,i17⟩:=hI;rw[Qce] at h1;unfold VI at h1;rw[ye] at h1;dsimp only at h1;repeat'(first|(apply jc<;>intro _)|simp(disch:=first|exact dzG|fail) only[je,ji,jW,jh,jd,qK,qJ,jm,jn,jp,jq,jo,rzZ,Qab,Qac,Qad,Qaa,Qae])
  exact m_b hb D ⟨by rw[h3];exact QaG _,by omega,hv,λv hv=>by rw[h3] at hv;cases hv⟩ hm h3 O H R h1
set_option maxHeartbeats 8000000 in
theorem jng (hb:NB base)(src:SrcT)(O:SrcOK src):Tot base 53 [.agg (srE src)] (Uf (zV src)):=by
 refine hb.tot ?_ (by first|rfl|simp[pa,pc,qY,QW,Wo,JN,Ju,jae,Kb,YK,wh,YX,Jj,ZH]) rfl;refine Wq x26 (hb.pur 53 1 (by decide)) ?_;simp only[y26,jt,Qai,Qaj,Qag,Qah];rw[(by unfold z26;simp only[qq];rfl:z26=_)];repeat'(first|(apply jc<;>intro _)|simp(disch:=first|exact dzG|fail) only[wa,jrW,jrn,je,ji,jW,jh,jd,qK,qJ,jm,jn,jp,jq,jo,rzZ,Qab,Qac,Qad,Qaa,Qae])
 obtain⟨X,hX⟩:∃ X,X=Go.Sy.nw (Go.Sy.nw (Go.Sy.nw st0 (srE src)) [.nils,.nils,.nils]) [.int .i64 0,.int .i64 0,.int .i64 0]:=⟨_,rfl⟩;have X2:Cl X 2 [.int .i64 0,.int .i64 0,.int .i64 0]:=by rw[hX];exact Cl.new _ _
 have X1:Cl X 1 [.nils,.nils,.nils]:=by rw[hX];exact(Cl.new _ _).nw _
 have X0:Cl X 0 (srE src):=by rw[hX];exact((Cl.new _ _).nw _).nw _
 have Xn:X.nx=3:=by rw[hX];rfl
 have Xf:X.fr=[]:=by rw[hX];rfl
 rw[<-hX];have hn4:(nmp (df (67,[.ptr 2 0]) X)).nx=4:=by show X.nx+1=4;omega
 have hc:(AV.nils :: AV.nils :: AV.nils :: upd [AV.nilm,AV.bool false] 0 (AV.map 3).cells)=[.nils,.nils,.nils,.map 3,.bool false]:=rfl;rw[hn4,hc];have Y:∀ c cs,c<3->Cl X c cs->Cl (Go.Sy.nw (nmp (df (67,[.ptr 2 0]) X)) [.nils,.nils,.nils,.map 3,.bool false]) c cs:=λc cs h3 h=>by
  refine h.keep ?_ ?_
  ·rw[jg,hn4];omega
  ·rw[Jt (by omega),jhX,if_neg (by show c≠X.nx;omega)];rfl
 have C4:Cl (Go.Sy.nw (nmp (df (67,[.ptr 2 0]) X)) [.nils,.nils,.nils,.map 3,.bool false]) 4 [.nils,.nils,.nils,.map 3,.bool false]:=hn4▸Cl.new (nmp (df (67,[.ptr 2 0]) X)) _;have M3:Mp (Go.Sy.nw (nmp (df (67,[.ptr 2 0]) X)) [.nils,.nils,.nils,.map 3,.bool false]) 3 []:=by
  have h:Mp (nmp (df (67,[.ptr 2 0]) X)) X.nx []:=Mp.new (df (67,[.ptr 2 0]) X);rw[Xn] at h;exact h.nw _
 have n5:(Go.Sy.nw (nmp (df (67,[.ptr 2 0]) X)) [.nils,.nils,.nils,.map 3,.bool false]).nx=5:=by rw[jg,hn4]
 refine m_a hb ⟨Y _ _ (by decide) X0,Y _ _ (by decide) X1,Y _ _ (by decide) X2,?_,?_,?_,?_,?_⟩ O ⟨.nils,.nils,.nils,C4,M3,Lv.nil,Lv.nil,Lv.nil,trivial,trivial,trivial,by decide,by decide,by decide,by omega,Qao _⟩
 ·show(67,[AV.ptr 2 0]) :: X.fr=_;rw[Xf]
 all_goals simp(disch:=decide) only[jb,jf]
end Go.Sy
end
noncomputable section
set_option maxRecDepth 100000
namespace Go.Sy
open Go.Ev Go.Proofs
variable {base:Bs}
def jeN (r:KR Ex):AV:=match r with
 |.er c l k=>.tup [.agg (eE ex0),.agg (fcl c l k)]
 |.ok y=>.tup [.agg (eE y),.agg (fcl 0 0 0)]
set_option maxHeartbeats 4000000 in
theorem jh3 (hb:NB base)(m:ModT)(V:VarsOK m.vars m.enums)(x:Ex)(hx:OkE x):PX Qaf base 55 [.agg (mdE m),.agg (eE x)] (.ok (jeN (yv m.vars m.enums true x 2 []))):=by
 refine Wq x25 (hb.pur 55 1 (by decide)) ?_;simp only[y25,jt,Qai,Qaj,Qag,Qah];rw[(by unfold z25;simp only[qq];rfl:z25=_)];have uq:upd [.nils,.nils,.nils,.nilm,.bool false] 0 (mdE m)=[.lst m.vars.length (fl vaE m.vars),.lst m.enums.length (fl enE m.enums),.lst m.moves.length (fl moE m.moves),.nilm,.bool false]:=rfl;repeat'(first|(apply jc<;>intro _)|simp(disch:=first|exact dzG|fail) only[wa,Yt,W4,W3 (base:=base),uq,je,ji,jW,jh,jd,qK,qJ,jm,jn,jp,jq,jo,rzZ,Qab,Qac,Qad,Qaa,Qae])
 obtain⟨X,hX⟩:∃ X,X=Go.Sy.nw (Go.Sy.nw (Go.Sy.nw (Go.Sy.nw st0 (mdE m)) (eE x)) [.int .i64 0,.int .i64 0,.str [],.nils,.int .i64 0,.int .i64 0]) [.int .i64 0,.int .i64 0,.int .i64 0]:=⟨_,rfl⟩;rw[<-hX];have X3:Cl X 3 [.int .i64 0,.int .i64 0,.int .i64 0]:=by rw[hX];exact Cl.new _ _
 have X2:Cl X 2 [.int .i64 0,.int .i64 0,.str [],.nils,.int .i64 0,.int .i64 0]:=by rw[hX];exact(Cl.new _ _).nw _
 have X1:Cl X 1 (eE x):=by rw[hX];exact((Cl.new _ _).nw _).nw _
 have Xn:X.nx=4:=by rw[hX];rfl
 have Xf:X.fr=[]:=by rw[hX];rfl
 obtain⟨S,hS⟩:∃ S,S=Go.Sy.nw (df (67,[.ptr 3 0]) X) [.lst m.vars.length (fl vaE m.vars),.lst m.enums.length (fl enE m.enums),.lst m.moves.length (fl moE m.moves),.nilm,.bool true]:=⟨_,rfl⟩;rw[<-hS];have hn4:(df (67,[.ptr 3 0]) X).nx=4:=Xn;have Y:∀ c cs,c<4->Cl X c cs->Cl S c cs:=λc cs h3 h=>by
  rw[hS];refine h.keep ?_ ?_
  ·rw[jg,hn4];omega
  ·rw[Jt (by omega)];rfl
 have C1:=Y _ _ (by decide) X1;have C2:=Y _ _ (by decide) X2;have C3:=Y _ _ (by decide) X3;have C4:Cl S 4 [.lst m.vars.length (fl vaE m.vars),.lst m.enums.length (fl enE m.enums),.lst m.moves.length (fl moE m.moves),.nilm,.bool true]:=by rw[hS];exact hn4▸Cl.new (df (67,[.ptr 3 0]) X) _
 have Sf:S.fr=[(67,[.ptr 3 0])]:=by
  rw[hS];show(67,[AV.ptr 3 0]) :: X.fr=_;rw[Xf]
 clear hS Y X1 X2 X3 Xn Xf hX uq hn4;refine Ue hb V _ hx.2 (Yu _ hx.1) _ _ (fm:=true) (mm:=.nilm) (v3:=.lst m.moves.length (fl moE m.moves)) ⟨C4,.inl rfl,.inl rfl,(λb k z x h=>by cases h),(λb k z x h=>by cases h)⟩ _ _ ?_;cases hr:yv m.vars m.enums true x 2 [] with
 |er a b c=>
  intro s' k2;have E1:=k2.cl C1 (by decide);have E2:=k2.cl C2 (by decide);have E3:=k2.cl C3 (by decide);have l3:=E3.len;have n3:=E3.lt;have hf:s'.fr=[(67,[.ptr 3 0])]:=k2.fr.trans Sf
  (have zz:=aI @QO (aI C1.r (aI C2.r (aI C3.r (aI E1.r (aI E2.r E3.r)))));(repeat'(first|(apply jc<;>intro _)|simp(disch:=first|exact jY|fail) only[Yt,W4,W3 (base:=base),QM,YP,J1 (f:=67) (vs:=[.ptr 3 0]),Jv (f:=67) (vs:=[.ptr 3 0]),gj,jai,C1.q,C2.q,C3.q,E1.q,E2.q,E3.q,QO,C1.r,C2.r,C3.r,E1.r,E2.r,E3.r,je,ji,jW,jh,jd,qK,qJ,jm,jn,jp,jq,jo,rzZ,Qab,Qac,Qad,Qaa,Qae]));(all_goals(clear zz)))
  exact FzD.tup (.cons Yp (.cons (.agg (.pc (by rfl))) .nil))
 |ok y=>
  intro s' k2 D4;have E1:=k2.cl C1 (by decide);have E2:=k2.cl C2 (by decide);have E3:=k2.cl C3 (by decide);have l3:=E3.len;have n3:=E3.lt;have hf:s'.fr=[(67,[.ptr 3 0])]:=k2.fr.trans Sf
  (have zz:=aI @QO (aI C1.r (aI C2.r (aI C3.r (aI E1.r (aI E2.r E3.r)))));(repeat'(first|(apply jc<;>intro _)|simp(disch:=first|exact jY|fail) only[Yt,W4,W3 (base:=base),QM,YP,J1 (f:=67) (vs:=[.ptr 3 0]),Jv (f:=67) (vs:=[.ptr 3 0]),gj,jai,C1.q,C2.q,C3.q,E1.q,E2.q,E3.q,QO,C1.r,C2.r,C3.r,E1.r,E2.r,E3.r,je,ji,jW,jh,jd,qK,qJ,jm,jn,jp,jq,jo,rzZ,Qab,Qac,Qad,Qaa,Qae]));(all_goals(clear zz)))
  exact FzD.tup (.cons (.agg (.pc (qY y))) (.cons (.agg (.pc (by rfl))) .nil))
theorem jh2 (hb:NB base)(m:ModT)(V:VarsOK m.vars m.enums)(x:Ex)(hx:OkE x):Tot base 55 [.agg (mdE m),.agg (eE x)] (jeN (yv m.vars m.enums true x 2 [])):=hb.tot (jh3 hb m V x hx) (by first|rfl|simp[pa,pc,qY,QW,Wo,JN,Ju,jae,Kb,YK,wh,YX,Jj,ZH]) rfl
end Go.Sy
end
noncomputable section
set_option maxRecDepth 100000
namespace Go.Sy
open Go.Ev Go.Proofs
variable {base:Bs}
mutual
theorem jbo:∀ (d:Nat) (x:Ex),yZ d x=true->JV x=true/\ZG x=true
 |0,_,h=>by cases h
 |d+1,.mk op num name ks l c,h=>by
  rw[Wp] at h;simp only[Qar,decide_eq_true_eq] at h;obtain⟨⟨⟨⟨h1,h2⟩,h3⟩,h4⟩,h5⟩:=h;have h3:(ks.length:Int)=if 5<=op/\op<=13 then 1 else if 14<=op/\op<31 then 2 else 0:=h3
  obtain⟨k1,k2⟩:=GI d ks h5;refine⟨?_,?_⟩
  ·rw[JV,Qar,decide_eq_true_eq];refine⟨?_,k1⟩;split at h3
   ·omega
   ·split at h3<;>omega
  ·rw[ZG,Qar,QaX,Qar,decide_eq_true_eq,decide_eq_true_eq,decide_eq_true_eq];refine⟨?_,k2⟩;by_cases ho:op=1
   ·right;unfold vX at h4;rw[if_pos (show Ex.op (.mk op num name ks l c)=1 from ho)] at h4;simp only[Qar,decide_eq_true_eq] at h4;have h6:(0:Int)<=num:=h4.1.1;have h7:num<=1000000:=h4.1.2;omega
   ·exact .inl ho
theorem GI:∀ (d:Nat) (xs:List Ex),xs.all (yZ d)=true->JH xs=true/\J6 xs=true
 |_,[],_=>⟨rfl,rfl⟩
 |d,x :: xs,h=>by
  rw[Qbe,Qar] at h;obtain⟨a1,a2⟩:=jbo d x h.1;obtain⟨b1,b2⟩:=GI d xs h.2;rw[JH,J6,Qar,Qar];exact⟨⟨a1,b1⟩,⟨a2,b2⟩⟩
end
theorem vJ {ts:List Tk}(W:Wds ts){i j:Nat}{x:Ex}(hi:i<ts.length)(h:yn ts i=.ok x j):OkE x:=jbo 60 x (yc W hi h).2.2.2
theorem jgf:∀ {ts:List Tk} {n i j:Nat} {vs ws:List (List Nat)},vs.length<=32->YJ ts n i vs=.ok ws j->vs.length<ws.length/\ws.length<=32
 |ts,0,i,j,vs,ws,hv,h=>by cases h
 |ts,n+1,i,j,vs,ws,hv,h=>by
  rw[YJ] at h;split at h
  ·split at h
   ·cases h
   ·split at h
    ·have:=jgf (by simp;omega) h;simp at this;omega
    ·split at h
     ·cases h;simp;omega
     ·cases h
  ·cases h
theorem jqv {ts:List Tk}{i j:Nat}{e:EnumT}(h:ZK ts i=.ok e j):0<e.vals.length/\e.vals.length<=1000000:=by
 unfold ZK at h;split at h
 ·split at h
  ·split at h
   ·rename_i vs k hv;cases h;have:=jgf (by simp) hv;dsimp only;omega
   ·cases h
  ·cases h
 ·cases h
theorem jlW {ts:List Tk}(N:Nbs ts){i j:Nat}{n:Int}(h:YV ts i=.ok n j) : -100000000<=n/\n<=100000000:=by
 unfold YV at h;split at h
 ·split at h
  ·have:=N (i+1);cases h;omega
  ·cases h
 ·split at h
  ·have:=N i;cases h;omega
  ·cases h
theorem jro {ts:List Tk}(N:Nbs ts){i j:Nat}{y:List Nat×Int×Int}(h:Wi ts i=.ok y j):(-100000000<=y.2.1/\y.2.1<=100000000)/\(-100000000<=y.2.2/\y.2.2<=100000000):=by
 unfold Wi at h;split at h
 ·cases h;dsimp only;omega
 ·split at h
  ·cases h;dsimp only;omega
  ·split at h
   ·cases h
   ·rename_i lo k h1;split at h
    ·split at h
     ·cases h
     ·rename_i hi k2 h2;cases h;exact⟨jlW N h1,jlW N h2⟩
    ·cases h
theorem jr7 {ts:List Tk}(W:Wds ts){i j:Nat}{bs:List Ex}(hi:i<ts.length)(h:Z7 ts i=.ok bs j):(∀ x∈bs,OkE x)/\bs.length<=1:=by
 unfold Z7 at h;split at h
 ·rename_i c;have hi1:=W.isM hi c;split at h
  ·cases h
  ·rename_i x k hx;split at h
   ·cases h;exact⟨λy hy=>by simp at hy;rw[hy];exact vJ W hi1 hx,by simp⟩
   ·cases h
 ·split at h
  ·cases h;exact⟨(λy hy=>by cases hy),by simp⟩
  ·cases h
theorem jqC {ts:List Tk}(W:Wds ts)(N:Nbs ts){i j:Nat}{d:DeclT}(hi:i<ts.length)(h:Yh ts i=.ok d j):DeclOK d:=by
 unfold Yh at h;split at h
 ·rename_i k1;have hi1:=W.next i hi (by omega)
  split at h
  ·rename_i c1;have hi2:=W.isM hi1 c1;split at h
   ·cases h
   ·rename_i y k hy;have hk:=jbc W hi2 hy;split at h
    ·cases h
    ·rename_i bs k2 hb;cases h;obtain⟨a,b⟩:=jro N hy;obtain⟨c,d⟩:=jr7 W hk.2 hb;exact⟨c,by dsimp only;omega,a,b⟩
  ·cases h
 ·cases h
theorem jiG {ts:List Tk}(W:Wds ts):∀ {n i j:Nat} {vs ws:List AsT},i<ts.length->(∀ a∈vs,OkE a.to)->vs.length<=32->QB ts n i vs=.ok ws j->(∀ a∈ws,OkE a.to)/\ws.length<=32
 |0,i,j,vs,ws,hi,hv,hl,h=>by cases h
 |n+1,i,j,vs,ws,hi,hv,hl,h=>by
  rw[QB] at h;by_cases k1:(tk ts i).kind=1
  ·simp only[if_pos k1] at h;have hi1:=W.next i hi (by omega)
   by_cases h32:32<=vs.length
   ·simp only[if_pos h32] at h;cases h
   simp only[if_neg h32] at h;by_cases c1:isM (tk ts (i+1)) [[58,61]]=true
   ·simp only[if_pos c1] at h;have hi2:=W.isM hi1 c1;cases h1:yn ts (i+2) with
    |er t=>rw[h1] at h;cases h
    |ok x k=>
     rw[h1] at h;dsimp only at h;have hj:=yc W hi2 h1;have hx:=vJ W hi2 h1;have hv2:∀ l c nm,∀ a∈vs ++ [(⟨nm,x,l,c⟩:AsT)],OkE a.to:=λl c nm a ha=>by
      rcases QaV.1 ha with ha|ha
      ·exact hv a ha
      ·simp at ha;rw[ha];exact hx
     by_cases c2:isM (tk ts k) [[44]]=true
     ·simp only[if_pos c2] at h;exact jiG W (W.isM hj.2.1 c2) (hv2 _ _ _) (by simp;omega) h
     ·simp only[if_neg c2] at h;split at h
      ·cases h;exact⟨hv2 _ _ _,by simp;omega⟩
      ·cases h
   ·simp only[if_neg c1] at h;cases h
  ·simp only[if_neg k1] at h;cases h
theorem jpE {ts:List Tk}(W:Wds ts){i j:Nat}{r:RuleT}(hi:i<ts.length)(h:Xl ts i=.ok r j):OkE r.when/\(∀ a∈r.acts,OkE a.to)/\r.acts.length<=1000000:=by
 unfold Xl at h;cases h1:yn ts i with
 |er t=>rw[h1] at h;cases h
 |ok x k=>
  rw[h1] at h;dsimp only at h;have hj:=yc W hi h1;by_cases c1:isM (tk ts k) [[100,111]]=true
  ·simp only[if_pos c1] at h;cases h2:QB ts ts.length (k+1) [] with
   |er t=>rw[h2] at h;cases h
   |ok vs k2=>
    rw[h2] at h;cases h;have:=jiG (vs:=[]) W (W.isM hj.2.1 c1) (λa ha=>by cases ha) (QaG _) h2;exact⟨vJ W hi h1,this.1,by dsimp only;omega⟩
  ·simp only[if_neg c1] at h;cases h
theorem jdr {ts:List Tk}(W:Wds ts):∀ {n i j:Nat} {vs ws:List RuleT},i<ts.length->(∀ r∈vs,OkE r.when/\(∀ a∈r.acts,OkE a.to)/\r.acts.length<=1000000)->vs.length<=32->J5 ts n i vs=.ok ws j->(∀ r∈ws,OkE r.when/\(∀ a∈r.acts,OkE a.to)/\r.acts.length<=1000000)/\ws.length<=32
 |0,i,j,vs,ws,hi,hv,hl,h=>by cases h
 |n+1,i,j,vs,ws,hi,hv,hl,h=>by
  rw[J5] at h;by_cases c1:isM (tk ts i) [[119,104,101,110]]=true
  ·simp only[if_pos c1] at h;have hi1:=W.isM hi c1;by_cases h32:32<=vs.length
   ·simp only[if_pos h32] at h;cases h
   simp only[if_neg h32] at h;cases h1:Xl ts (i+1) with
   |er t=>rw[h1] at h;cases h
   |ok r k=>
    rw[h1] at h;dsimp only at h;refine jdr W (Ul W hi1 h1).2 (λa ha=>?_) (by simp;omega) h;rcases QaV.1 ha with ha|ha
    ·exact hv a ha
    ·simp at ha;rw[ha];exact jpE W hi1 h1
  ·simp only[if_neg c1] at h;split at h
   ·cases h;exact⟨hv,hl⟩
   ·cases h
theorem jpQ {ts:List Tk}(W:Wds ts){i j:Nat}{p:ProcT}(hi:i<ts.length)(h:X5 ts i=.ok p j):ProcOK p:=by
 unfold X5 at h;split at h
 ·rename_i k1;have hi1:=W.next i hi (by omega)
  split at h
  ·rename_i c1;have hi2:=W.isM hi1 c1;split at h
   ·rename_i vs k hv;cases h;have:=jdr (vs:=[]) W hi2 (λa ha=>by cases ha) (QaG _) hv;exact⟨by dsimp only;omega,this.1⟩
   ·cases h
  ·cases h
 ·cases h
theorem HV {ts:List Tk}(W:Wds ts)(N:Nbs ts):∀ {n i j:Nat} {m w:SrcT},i<ts.length->SrcOK m->m.enums.length<=32->m.vars.length<=32->m.procs.length<=32->XI ts n i m=.ok w j->SrcOK w/\w.enums.length<=32/\w.vars.length<=32/\w.procs.length<=32
 |0,i,j,m,w,hi,hm,h1,h2,h3,h=>by cases h
 |n+1,i,j,m,w,hi,hm,h1,h2,h3,h=>by
  rw[XI] at h;by_cases c:isM (tk ts i) [[101,110,117,109],[118,97,114],[112,114,111,99,101,115,115]]=true
  ·simp only[if_pos c] at h;have hi1:=W.isM hi c;by_cases c1:(tk ts i).text=[101,110,117,109]
   ·simp only[if_pos c1] at h;by_cases hr:32<=m.enums.length
    ·simp only[if_pos hr] at h;cases h
    simp only[if_neg hr] at h;cases he:ZK ts (i+1) with
    |er t=>rw[he] at h;cases h
    |ok e k=>
     rw[he] at h;refine HV (m:={ m with enums:=m.enums ++ [e] }) W N (Gn W hi1 he).2 ⟨by simp;omega,hm.nv,hm.np,λa ha=>?_,hm.vars,hm.procs⟩ (by simp;omega) h2 h3 h;rcases QaV.1 ha with ha|ha
     ·exact hm.vals a ha
     ·simp at ha;rw[ha];exact jqv he
   simp only[if_neg c1] at h;by_cases c2:(tk ts i).text=[118,97,114]
   ·simp only[if_pos c2] at h;by_cases hr:32<=m.vars.length
    ·simp only[if_pos hr] at h;cases h
    simp only[if_neg hr] at h;cases he:Yh ts (i+1) with
    |er t=>rw[he] at h;cases h
    |ok e k=>
     rw[he] at h;refine HV (m:={ m with vars:=m.vars ++ [e] }) W N (Gt W hi1 he).2 ⟨hm.ne,by simp;omega,hm.np,hm.vals,λa ha=>?_,hm.procs⟩ h1 (by simp;omega) h3 h;rcases QaV.1 ha with ha|ha
     ·exact hm.vars a ha
     ·simp at ha;rw[ha];exact jqC W N hi1 he
   ·simp only[if_neg c2] at h;by_cases hr:32<=m.procs.length
    ·simp only[if_pos hr] at h;cases h
    simp only[if_neg hr] at h;cases he:X5 ts (i+1) with
    |er t=>rw[he] at h;cases h
    |ok e k=>
     rw[he] at h;refine HV (m:={ m with procs:=m.procs ++ [e] }) W N (gT W hi1 he).2 ⟨hm.ne,hm.nv,by simp;omega,hm.vals,hm.vars,λa ha=>?_⟩ h1 h2 (by simp;omega) h;rcases QaV.1 ha with ha|ha
     ·exact hm.procs a ha
     ·simp at ha;rw[ha];exact jpQ W hi1 he
  ·simp only[if_neg c] at h;split at h
   ·cases h;exact⟨hm,h1,h2,h3⟩
   ·cases h
theorem jdn {l:List Nat}(h:(yG l).2.1=0):SrcOK (yG l).1:=by
 unfold yG at h ⊢;by_cases c:(qo l).2.1≠0
 ·rw[if_pos c] at h;exact absurd h c
 ·rw[if_neg c] at h ⊢;have c0:(qo l).2.1=0:=by simpa using c
  obtain⟨W,ne,_⟩:=VQ c0;cases hr:XI (qo l).1 (qo l).1.length 0 Wn with
  |er t=>rw[hr] at h;exact absurd h (λh=>by cases h)
  |ok m j=>exact(HV W (jip c0) (QbO.2 ne) ⟨by decide,by decide,by decide,(λa ha=>by cases ha),(λa ha=>by cases ha),(λa ha=>by cases ha)⟩ (by decide) (by decide) (by decide) hr).1
theorem jkL {l:List Nat}(h:(yo l).2.1=0):OkE (yo l).1:=by
 unfold yo at h ⊢;by_cases c:(qo l).2.1≠0
 ·rw[if_pos c] at h;exact absurd h c
 ·rw[if_neg c] at h ⊢;have c0:(qo l).2.1=0:=by simpa using c
  obtain⟨W,ne,_⟩:=VQ c0;cases hr:yn (qo l).1 0 with
  |er t=>rw[hr] at h;exact absurd h (λh=>by cases h)
  |ok x j=>
   rw[hr] at h;dsimp only at h ⊢;by_cases k5:(tk (qo l).1 j).kind=5
   ·rw[if_pos k5];exact vJ W (QbO.2 ne) hr
   ·rw[if_neg k5] at h;exact absurd h (λh=>by cases h)
def Bad (c:Int):Prop:=c≠0
theorem je8 {vars:List VarT}{enums:List EnumT}{x:Ex}{c l k:Int}(h:zq vars enums x=.er c l k):Bad c:=by
 unfold zq at h;split at h
 ·cases h
 ·split at h
  ·cases h;exact λh=>by cases h
  ·cases h
mutual
theorem Hk {vars:List VarT}{enums:List EnumT}:∀ (fm:Bool) (x:Ex) {a b d:Int},yd vars enums fm x=.er a b d->Bad a
 |fm,.mk op num name ks l c,a,b,d,h=>by
  rw[yd] at h;split at h
  ·cases h
  ·split at h
   ·cases h
   ·split at h
    ·exact je8 h
    ·split at h
     ·rename_i hr;cases h;exact KU _ _ hr
     ·unfold Yq at h;split at h
      ·cases h;exact λh=>by cases h
      ·split at h
       ·cases h
       ·split at h
        ·cases h;exact λh=>by cases h
        ·cases h
theorem KU {vars:List VarT}{enums:List EnumT}:∀ (fm:Bool) (xs:List Ex) {a b d:Int},qk vars enums fm xs=.er a b d->Bad a
 |fm,[],a,b,d,h=>by rw[qk] at h;cases h
 |fm,x :: xs,a,b,d,h=>by
  rw[qk] at h;cases hx:yd vars enums fm x with
  |er p q r=>rw[hx] at h;cases h;exact Hk fm x hx
  |ok y=>
   rw[hx] at h;cases hr:qk vars enums fm xs with
   |er p q r=>rw[hr] at h;cases h;exact KU fm xs hr
   |ok r=>rw[hr] at h;cases h
end
theorem Xh {vars:List VarT}{enums:List EnumT}{fm:Bool}{x:Ex}{w:Int}{en:List Nat}{a b c:Int}(h:yv vars enums fm x w en=.er a b c):Bad a:=by
 unfold yv at h;split at h
 ·rename_i hr;cases h;exact Hk fm x hr
 ·split at h
  ·cases h;exact λh=>by cases h
  ·cases h
theorem Vb {ts:List (List Nat)}{n:List Nat}{l c a b d:Int}(h:Xi ts n l c=.er a b d):Bad a:=by
 unfold Xi at h;split at h
 ·cases h;exact λh=>by cases h
 ·cases h
theorem k7 {l c:Int}:∀ {ns ts:List (List Nat)} {a b d:Int},zm l c ts ns=.er a b d->Bad a
 |[],ts,a,b,d,h=>by cases h
 |n :: ns,ts,a,b,d,h=>by
  rw[zm] at h;split at h
  ·rename_i hr;cases h;exact Vb hr
  ·exact k7 h
theorem jii {m:ModT}{ts:List (List Nat)}{e:EnumT}{a b d:Int}(h:wy m ts e=.er a b d):Bad a:=by
 unfold wy at h;split at h
 ·rename_i hr;cases h;exact k7 hr
 ·cases h
theorem jcC {vars:List VarT}{enums:List EnumT}:∀ {xs:List Ex} {v:VarT} {a b d:Int},Jn vars enums v xs=.er a b d->Bad a
 |[],v,a,b,d,h=>by rw[Jn] at h;cases h
 |x :: xs,v,a,b,d,h=>by
  rw[Jn] at h;split at h
  ·rename_i hr;cases h;exact Xh hr
  ·split at h
   ·cases h;exact λh=>by cases h
   ·split at h
    ·cases h;exact λh=>by cases h
    ·exact jcC h
theorem jio {m:ModT}{ts:List (List Nat)}{e:DeclT}{a b d:Int}(h:XA m ts e=.er a b d):Bad a:=by
 unfold XA at h;split at h
 ·rename_i hr;cases h;exact Vb hr
 ·split at h
  ·rename_i hr;cases h;unfold vY at hr;split at hr
   ·cases hr
   ·split at hr
    ·cases hr
    ·split at hr
     ·cases hr;exact λh=>by cases h
     ·split at hr
      ·cases hr;exact λh=>by cases h
      ·split at hr
       ·cases hr;exact λh=>by cases h
       ·cases hr
  ·unfold wG at h;split at h
   ·rename_i hr;cases h;exact jcC hr
   ·unfold ki at h;split at h
    ·cases h;exact λh=>by cases h
    ·cases h
theorem GE {vars:List VarT}{enums:List EnumT}:∀ {xs done:List AsT} {acc:List SetT} {a b d:Int},Qq vars enums acc done xs=.er a b d->Bad a
 |[],done,acc,a,b,d,h=>by rw[Qq] at h;cases h
 |x :: xs,done,acc,a,b,d,h=>by
  rw[Qq] at h;split at h
  ·cases h;exact λh=>by cases h
  ·split at h
   ·cases h;exact λh=>by cases h
   ·split at h
    ·rename_i hr;cases h;exact Xh hr
    ·exact GE h
theorem jg0 {m:ModT}{ts:List (List Nat)}{e:RuleT}{a b d:Int}(h:Xm m ts e=.er a b d):Bad a:=by
 unfold Xm at h;split at h
 ·rename_i hr;cases h;exact Xh hr
 ·split at h
  ·rename_i hr;cases h;exact GE hr
  ·cases h
theorem ZV {α β:Type}{f:β->α->KR β}(hf:∀ b x a c d,f b x=.er a c d->Bad a):∀ {xs:List α} {b:β} {a c d:Int},ye f b xs=.er a c d->Bad a
 |[],b,a,c,d,h=>by rw[ye] at h;cases h
 |x :: xs,b,a,c,d,h=>by
  rw[ye] at h;split at h
  ·rename_i hr;cases h;exact hf _ _ _ _ _ hr
  ·exact ZV hf h
theorem Wy {s:SrcT}{a b d:Int}(h:zV s=.er a b d):Bad a:=by
 unfold zV at h;split at h
 ·rename_i hr;cases h;exact ZV (λb x a c d h=>jii h) hr
 ·split at h
  ·rename_i hr;cases h;exact ZV (λb x a c d h=>jio h) hr
  ·refine ZV (λb x a c d h=>?_) h;unfold YT at h;split at h
   ·rename_i hr;cases h;exact Vb hr
   ·exact ZV (λb x a c d h=>jg0 h) h
end Go.Sy
end
noncomputable section
set_option maxRecDepth 100000
namespace Go.Sy
open Go.Ev Go.Proofs
variable {base:Bs}
theorem jry:Go.Ev.isAgg Qaf 35=some true:=by kernel_rfl
theorem jrx:Go.Ev.sizeOf Qaf 35=some 3:=by kernel_rfl
theorem jtl {b o:Nat}{cs:List AV}{h:T AO}(ho:o+3<=qt h b)(hv:rats h b o 3=cs)(hc:cs.all eqs=true):(jX Qaf 35 (.ptr b o) (.agg cs) h=true)=True:=eq_true (YR jry jrx (by decide) ho hv hc)
structure RdT where
 m:ModT
 x:Ex
 c:Int
 l:Int
 k:Int
def zS (l f:List Nat):RdT:=
 if(yG l).2.1≠0 then⟨md0,ex0,(yG l).2.1,(yG l).2.2.1,(yG l).2.2.2⟩ else match zV (yG l).1 with
 |.er a b c=>⟨md0,ex0,a,b,c⟩
 |.ok m=>if(yo f).2.1≠0 then⟨md0,ex0,(yo f).2.1,(yo f).2.2.1,(yo f).2.2.2⟩ else match yv m.1.vars m.1.enums true (yo f).1 2 [] with
  |.er a b c=>⟨md0,ex0,a,b,c⟩
  |.ok y=>⟨m.1,y,0,0,0⟩
def kZ (r:RdT):AV:=.tup [.agg (mdE r.m),.agg (eE r.x),.agg (fcl r.c r.l r.k)]
theorem jj3 {s:St}{r:RdT}{a b c:List AV}(h1:a=mdE r.m)(h2:b=eE r.x)(h3:c=fcl r.c r.l r.k):G0 (kZ r) (.tup [.agg a,.agg b,.agg c]) s:=by
 subst h1 h2 h3;exact FzD.tup (.cons (.agg (.pc (Jj _))) (.cons (.agg (.pc (qY _))) (.cons (.agg (.pc rfl)) .nil)))
theorem Wk {s:St}{r:RdT}{c:List AV}(h1:r.m=md0)(h2:r.x=ex0)(h3:c=fcl r.c r.l r.k):G0 (kZ r) (.tup [.agg [.nils,.nils,.nils],.agg [.int .i64 0,.int .i64 0,.str [],.nils,.int .i64 0,.int .i64 0],.agg c]) s:=by
 subst h3;unfold kZ;rw[h1,h2];exact FzD.tup (.cons jhx (.cons Yp (.cons (.agg (.pc rfl)) .nil)))
theorem Qk {α β:Type}{f:β->α->KR β}{P:Nat->β->Prop}:∀ {xs:List α} {n:Nat} {b b':β},(∀ k b x b',x∈xs->P k b->f b x=.ok b'->P (k+1) b')->P n b->ye f b xs=.ok b'->P (n+xs.length) b'
 |[],n,b,b',_,h,e=>by rw[ye] at e;cases e;exact h
 |x :: xs,n,b,b',hs,h,e=>by
  rw[ye] at e;split at e
  ·cases e
  ·rename_i c hc;have:=Qk (n:=n+1) (λk b y b' hy=>hs k b y b' (by simp[hy])) (hs n b x c (by simp) h hc) e;rw[Qak,show n+(xs.length+1)=n+1+xs.length by omega];exact this
theorem jbz {b b':MT}{p:ProcT}(h:YT b p=.ok b'):b'.1.vars=b.1.vars/\b'.1.enums=b.1.enums:=by
 unfold YT at h;split at h
 ·cases h
 ·rename_i ts _;refine Qk (n:=0) (P:=λ_ c=>c.1.vars=b.1.vars/\c.1.enums=b.1.enums) (λk c x c' _ hc hr=>?_) ⟨rfl,rfl⟩ h;obtain⟨e,he⟩:=jbm hr;rw[he];exact hc
theorem jkQ {src:SrcT}(O:SrcOK src){b:MT}(h:VI (md0,[]) src.enums=.ok b):b.1.vars=[]/\b.1.moves=[]/\b.1.enums.length<=1000/\(∀ e∈b.1.enums,e.vals.length<=1000000):=by
 have H:=Qk (n:=0) (P:=λk (c:MT)=>c.1.vars=[]/\c.1.moves=[]/\c.1.enums.length<=k/\(∀ e∈c.1.enums,e.vals.length<=1000000)) (λk c x c' hx hc hr=>?_) ⟨rfl,rfl,Qao _,λe he=>by cases he⟩ h
 ·have:=O.ne;exact⟨H.1,H.2.1,by have:=H.2.2.1;omega,H.2.2.2⟩
 ·rw[WN hr];refine⟨hc.1,hc.2.1,by have:=hc.2.2.1;simp;omega,λu hu=>?_⟩;rcases QaV.1 hu with hu|hu
  ·exact hc.2.2.2 u hu
  ·simp only[Qbq] at hu;rw[hu];exact(O.vals x hx).2
theorem jkU {src:SrcT}(O:SrcOK src){b c:MT}(V:VarsOK b.1.vars b.1.enums)(h0:b.1.vars=[])(h:vB b src.vars=.ok c):VarsOK c.1.vars c.1.enums:=by
 have:=Qk (n:=0) (P:=λk (c:MT)=>(∀ v∈c.1.vars,-100000000<=v.lo/\v.lo<=100000000/\-100000000<=v.hi/\v.hi<=100000000)/\c.1.enums=b.1.enums/\c.1.vars.length=k) (λk c x c' hx hc hr=>?_) ⟨V.ends,rfl,by rw[h0];rfl⟩ h
 ·have hn:=O.nv;exact⟨by omega,by rw[this.2.1];exact V.len2,by rw[this.2.1];exact V.vals,this.1⟩
 ·obtain⟨v,he,hv⟩:=jco (by rw[hc.2.1];exact V.vals) (O.vars x hx) hr;rw[he];refine⟨λu hu=>?_,hc.2.1,by simp[hc.2.2]⟩;rcases QaV.1 hu with hu|hu
  ·exact hc.1 u hu
  ·simp only[Qbq] at hu;rw[hu];exact hv
theorem jl0 {src:SrcT}(O:SrcOK src){m:MT}(h:zV src=.ok m):VarsOK m.1.vars m.1.enums:=by
 unfold zV at h;split at h
 ·cases h
 ·rename_i b h1;obtain⟨e1,e2,e3,e4⟩:=jkQ O h1;split at h
  ·cases h
  ·rename_i c h2;have V:=jkU O ⟨by rw[e1];exact QaG _,by omega,e4,λv hv=>by rw[e1] at hv;cases hv⟩ e1 h2;have:=Qk (n:=0) (P:=λ_ (d:MT)=>d.1.vars=c.1.vars/\d.1.enums=c.1.enums) (λk d x d' _ hd hr=>?_) ⟨rfl,rfl⟩ h
   ·rw[this.1,this.2];exact V
   ·have:=jbz hr;rw[this.1,this.2];exact hd
set_option maxHeartbeats 8000000 in
theorem jq7 (hb:NB base)(hP:PI base)(l f:List Nat)(hl:l.length<=9223372036854775807)(hf:f.length<=9223372036854775807):Tot base 34 [.str l,.str f] (kZ (zS l f)):=by
 refine hb.tot ?_ rfl rfl;have hS:=jk5 hb hP l hl VQ jip;have hX:=jre hb hP f hf VQ;refine jE x24 (by rfl) (hb.pur 34 1 (by decide)) ?_;simp only[y24,jt,Qai,Qaj,Qag,Qah];rw[(by unfold z24;simp only[qq];rfl:z24=_)];unfold zS;by_cases h1:(yG l).2.1≠0
 ·have h1':¬ ((yG l).2.1:Int)=0:=by omega
  rw[if_pos h1];have e:zG (yG l).2=[.int .i64 ((yG l).2.1:Int),.int .i64 ((yG l).2.2.1:Int),.int .i64 ((yG l).2.2.2:Int)]:=rfl;rw[e] at hS;repeat'(first|(apply jc<;>intro _)|simp(disch:=first|exact dzG|fail) only[hS,h1',YP,QM,vM,je,ji,jW,jh,jd,qK,qJ,jm,jn,jp,jq,jo,rzZ,Qab,Qac,Qad,Qaa,Qae])
  exact Wk rfl rfl rfl
 rw[if_neg h1];have h1z:(yG l).2.1=0:=by simpa using h1
 have O:=jdn h1z;have e0:(yG l).2=(0,0,0):=by
  unfold yG at h1z ⊢;by_cases c:(qo l).2.1≠0
  ·rw[if_pos c] at h1z;exact absurd h1z c
  ·rw[if_neg c] at h1z ⊢;cases hr:XI (qo l).1 (qo l).1.length 0 Wn with
   |er t=>rw[hr] at h1z;exact absurd h1z (λh=>by cases h)
   |ok m j=>rfl
 rw[e0] at hS;have e0':zG (0,0,0)=[.int .i64 0,.int .i64 0,.int .i64 0]:=rfl;rw[e0'] at hS;have hM:=jng hb (yG l).1 O;unfold Uf at hM;cases hm:zV (yG l).1 with
 |er a b c=>
  have ha:¬ a=0:=Wy hm;rw[hm] at hM;unfold fcl at hM;repeat'(first|(apply jc<;>intro _)|simp(disch:=first|exact dzG|fail) only[hS,hM,ha,YP,QM,vM,je,ji,jW,jh,jd,qK,qJ,jm,jn,jp,jq,jo,rzZ,Qab,Qac,Qad,Qaa,Qae])
  exact Wk rfl rfl rfl
 |ok m=>
  rw[hm] at hM;unfold fcl at hM;dsimp only at hM ⊢;have V:=jl0 O hm;by_cases h2:(yo f).2.1≠0
  ·have h2':¬ ((yo f).2.1:Int)=0:=by omega
   rw[if_pos h2];have e:zG (yo f).2=[.int .i64 ((yo f).2.1:Int),.int .i64 ((yo f).2.2.1:Int),.int .i64 ((yo f).2.2.2:Int)]:=rfl;rw[e] at hX;repeat'(first|(apply jc<;>intro _)|simp(disch:=first|exact dzG|fail) only[hS,hM,hX,h2',YP,QM,vM,je,ji,jW,jh,jd,qK,qJ,jm,jn,jp,jq,jo,rzZ,Qab,Qac,Qad,Qaa,Qae])
   exact Wk rfl rfl rfl
  rw[if_neg h2];have h2z:(yo f).2.1=0:=by simpa using h2
  have OX:=jkL h2z;have e2:(yo f).2=(0,0,0):=by
   unfold yo at h2z ⊢;by_cases c:(qo f).2.1≠0
   ·rw[if_pos c] at h2z;exact absurd h2z c
   ·rw[if_neg c] at h2z ⊢;cases hr:yn (qo f).1 0 with
    |er t=>rw[hr] at h2z;exact absurd h2z (λh=>by cases h)
    |ok x j=>
     rw[hr] at h2z;dsimp only at h2z ⊢;by_cases k5:(tk (qo f).1 j).kind=5
     ·rw[if_pos k5]
     ·rw[if_neg k5] at h2z;exact absurd h2z (λh=>by cases h)
  rw[e2,e0'] at hX;have hF:=jh2 hb m.1 V (yo f).1 OX;unfold jeN at hF;cases hr:yv m.1.vars m.1.enums true (yo f).1 2 [] with
  |er a b c=>
   have ha:¬ a=0:=Xh hr;rw[hr] at hF;unfold fcl at hF;repeat'(first|(apply jc<;>intro _)|simp(disch:=first|exact dzG|fail) only[hS,hM,hX,hF,ha,YP,QM,vM,je,ji,jW,jh,jd,qK,qJ,jm,jn,jp,jq,jo,rzZ,Qab,Qac,Qad,Qaa,Qae])
   exact Wk rfl rfl rfl
  |ok y=>
   rw[hr] at hF;unfold fcl at hF
   (have zz:=aI @QO @jl2;(repeat'(first|(apply jc<;>intro _)|simp(disch:=first|exact jY|fail) only[hS,hM,hX,hF,YP,QM,jtl,vM,QO,jl2,je,ji,jW,jh,jd,qK,qJ,jm,jn,jp,jq,jo,rzZ,Qab,Qac,Qad,Qaa,Qae]));(all_goals(clear zz)))
   exact jj3 rfl rfl rfl
end Go.Sy
end
noncomputable section
set_option maxRecDepth 100000
namespace Go.Sy
open Go.Ev Go.Proofs
variable {base:Bs}
theorem jtq (a b c d e f:Int):(eqF Qaf 20 45).run (.agg [.int .i64 a,.int .i64 b,.int .i64 c]) (.agg [.int .i64 d,.int .i64 e,.int .i64 f])=some (decide (a=d/\b=e/\c=f)):=by
 have h:(eqF Qaf 20 45).run (.agg [.int .i64 a,.int .i64 b,.int .i64 c]) (.agg [.int .i64 d,.int .i64 e,.int .i64 f])=cond (eqI a d) (cond (eqI b e) (cond (eqI c f) (some true) (some false)) (some false)) (some false):=by kernel_rfl
 rw[h,XW,XW,XW];by_cases h1:a=d<;>by_cases h2:b=e<;>by_cases h3:c=f<;>simp[h1,h2,h3]
theorem fEq (a b c d e f:Int)(st:St)(K:AV->St->Prop):jl (YZ Qaf .eql 45 false (.agg [.int .i64 a,.int .i64 b,.int .i64 c]) (.agg [.int .i64 d,.int .i64 e,.int .i64 f]) st) K=K (.bool (decide (a=d/\b=e/\c=f))) st:=by
 have h:YZ Qaf .eql 45 false (.agg [.int .i64 a,.int .i64 b,.int .i64 c]) (.agg [.int .i64 d,.int .i64 e,.int .i64 f]) st=jS ((eqF Qaf 20 45).run (.agg [.int .i64 a,.int .i64 b,.int .i64 c]) (.agg [.int .i64 d,.int .i64 e,.int .i64 f])) λb=>.ok (.bool b) st:=by kernel_rfl
 rw[h,jtq];simp[jS,jl]
end Go.Sy
end
noncomputable section
set_option maxRecDepth 100000
namespace Go.Sy
open Go.Ev Go.Proofs
variable {base:Bs}
def Y9 (vars:List VarT):Prop:=∀ v∈vars,v.kind=2->v.enum=[]
theorem jff {enums:List EnumT}{d:DeclT}{v:VarT}(h:vY enums d=.ok v):v.kind=2->v.enum=[]:=by
 unfold vY at h;split at h
 ·cases h;exact λ_=>rfl
 ·split at h
  ·cases h;intro h;cases h
  ·split at h
   ·cases h
   ·split at h
    ·cases h
    ·split at h
     ·cases h
     ·cases h;intro h;cases h
theorem jfJ {m:ModT}{ts:List (List Nat)}{d:DeclT}{b:MT}(hm:Y9 m.vars)(h:XA m ts d=.ok b):Y9 b.1.vars:=by
 unfold XA at h;split at h
 ·cases h
 ·split at h
  ·cases h
  ·rename_i v hk;unfold wG at h;split at h
   ·cases h
   ·rename_i u hu;unfold ki at h;split at h
    ·cases h
    ·cases h;have hb:=Gw hu;intro w hw;rcases QaV.1 hw with hw|hw
     ·exact hm w hw
     ·simp only[Qbq] at hw;rw[hw,hb.2.2.1,hb.2.2.2.1];exact jff hk
theorem jnl {src:SrcT}{m:MT}(h:zV src=.ok m):Y9 m.1.vars:=by
 unfold zV at h;split at h
 ·cases h
 ·rename_i b h1;have hb:Y9 b.1.vars:=Qk (n:=0) (P:=λ_ (c:MT)=>Y9 c.1.vars) (λk c x c' _ hc hr=>by rw[WN hr];exact hc) (λv hv=>by cases hv) h1;split at h
  ·cases h
  ·rename_i c h2;have hc:Y9 c.1.vars:=Qk (n:=0) (P:=λ_ (c:MT)=>Y9 c.1.vars) (λk c x c' _ hc hr=>jfJ hc hr) hb h2;exact Qk (n:=0) (P:=λ_ (c:MT)=>Y9 c.1.vars) (λk c x c' _ hc hr=>by rw[(jbz hr).1];exact hc) hc h
mutual
theorem jbZ {vars:List VarT}{enums:List EnumT}:∀ (fm:Bool) (x y:Ex) (m:MtT),yd vars enums fm x=.ok (y,m)->szE y<=szE x
 |fm,.mk op num name ks l c,y,m,h=>by
  rw[yd] at h;split at h
  ·cases h;exact Qao _
  ·split at h
   ·cases h;exact Qao _
   ·split at h
    ·have hs:∀ o n l c,szE (.mk o n [] [] l c)<=szE (.mk op num name ks l c):=λo n l c=>by rw[QX,QX];simp[yF]
     unfold zq at h;split at h
     ·cases h;exact hs _ _ _ _
     ·split at h
      ·cases h
      ·cases h;exact hs _ _ _ _
    ·split at h
     ·cases h
     ·rename_i r hr;have h2:=Hf _ _ r.1 r.2 hr;have e:∀ l' c',szE (.mk op num name r.1 l' c')<=szE (.mk op num name ks l c):=λl' c'=>by rw[QX,QX];omega
      unfold Yq at h;split at h
      ·cases h
      ·split at h
       ·cases h;exact e _ _
       ·split at h
        ·cases h
        ·cases h;exact e _ _
theorem Hf {vars:List VarT}{enums:List EnumT}:∀ (fm:Bool) (xs ys:List Ex) (ms:List MtT),qk vars enums fm xs=.ok (ys,ms)->yF ys<=yF xs
 |fm,[],ys,ms,h=>by rw[qk] at h;cases h;exact Qao _
 |fm,x :: xs,ys,ms,h=>by
  rw[qk] at h;cases hx:yd vars enums fm x with
  |er a b d=>rw[hx] at h;cases h
  |ok y=>
   rw[hx] at h;cases hr:qk vars enums fm xs with
   |er a b d=>rw[hr] at h;cases h
   |ok r=>
    rw[hr] at h;cases h;have h1:=jbZ fm x y.1 y.2 hx;have h2:=Hf fm xs r.1 r.2 hr;simp only[yF];omega
end
end Go.Sy
end
noncomputable section
set_option maxRecDepth 100000
namespace Go.Sy
open Go.Ev Go.Proofs
variable {base:Bs}
theorem Yv {α:Type}{f:α->Nat}:∀ {l:List α} {x:α},x∈l->f x<=(l.map f).sum
 |y :: l,x,h=>by
  rw[Qai,List.sum_cons];rcases Qbv.1 h with rfl|h
  ·omega
  ·have:=Yv (f:=f) h;omega
theorem Yw {α:Type}{f:α->Nat}(hf:∀ x,1<=f x):∀ l:List α,l.length<=(l.map f).sum
 |[]=>QaG _
 |y :: l=>by
  rw[Qai,List.sum_cons,Qak];have:=Yw hf l;have:=hf y;omega
theorem jj4 {xs:List Ex}{x:Ex}(h:x∈xs):szE x<=yF xs:=by rw[<-JP];exact Yv h
theorem jmQ (xs:List Ex):xs.length<=yF xs:=by rw[<-JP];exact Yw gM xs
theorem jo7 {m:SrcT}(h:szS m<=1048576):WrS m:=by
 unfold szS at h;have hB:(1048576:Nat)<=BIG:=by decide
 have l1:=Yw (f:=szN) (λe=>by unfold szN;omega) m.enums;have l2:=Yw (f:=szD) (λe=>by unfold szD;omega) m.vars;have l3:=Yw (f:=szP) (λe=>by unfold szP;omega) m.procs;refine⟨by omega,λe he=>?_,by omega,λd hd=>?_,by omega,λp hp=>?_⟩
 ·have h0:=Yv (f:=szN) he;have e0:szN e=e.name.length+(e.vals.map szV).sum+1:=rfl;have lv:=Yw (f:=szV) (λe=>by unfold szV;omega) e.vals;refine⟨by omega,by omega,λv hv=>?_⟩;have h1:=Yv (f:=szV) hv;have e1:szV v=v.length+1:=rfl;omega
 ·have h0:=Yv (f:=szD) hd;have e0:szD d=d.name.length+d.ty.length+yF d.begins+1:=rfl;have:=jmQ d.begins;refine⟨by omega,by omega,by omega,λx hx=>?_⟩;have:=jj4 hx;omega
 ·have h0:=Yv (f:=szP) hp;have e0:szP p=p.name.length+(p.rules.map szR).sum+1:=rfl;have lr:=Yw (f:=szR) (λe=>by unfold szR;omega) p.rules;refine⟨by omega,by omega,λr hr=>?_⟩;have h1:=Yv (f:=szR) hr;have e1:szR r=szE r.when+(r.acts.map szA).sum+1:=rfl;have la:=Yw (f:=szA) (λe=>by unfold szA;omega) r.acts;refine⟨by omega,by omega,λa ha=>?_⟩;have h2:=Yv (f:=szA) ha;have e2:szA a=a.name.length+szE a.to+1:=rfl;omega
section
variable {st:St} {K:AV->St->Prop}
theorem jlA (a b c:AV):jl (Gg 0 (.tup [a,b,c]) st) K=K a st:=nr rfl
theorem jlz (a b c:AV):jl (Gg 1 (.tup [a,b,c]) st) K=K b st:=nr rfl
theorem jly (a b c:AV):jl (Gg 2 (.tup [a,b,c]) st) K=K c st:=nr rfl
end
theorem jbs {l f:List Nat}(h:(zS l f).c=0):VarsOK (zS l f).m.vars (zS l f).m.enums/\Y9 (zS l f).m.vars:=by
 unfold zS at h ⊢;by_cases h1:(yG l).2.1≠0
 ·rw[if_pos h1] at h;exact absurd (show((yG l).2.1:Int)=0 from h) (by omega)
 ·rw[if_neg h1] at h ⊢;have O:=jdn (l:=l) (by simpa using h1);cases hm:zV (yG l).1 with
  |er a b c=>
   rw[hm] at h;exact absurd h (Wy hm)
  |ok m=>
   rw[hm] at h;dsimp only at h ⊢;by_cases h2:(yo f).2.1≠0
   ·rw[if_pos h2] at h;exact absurd (show((yo f).2.1:Int)=0 from h) (by omega)
   ·rw[if_neg h2] at h ⊢;cases hr:yv m.1.vars m.1.enums true (yo f).1 2 [] with
    |er a b c=>
     rw[hr] at h;exact absurd h (Xh hr)
    |ok y=>exact⟨jl0 O hm,jnl hm⟩
end Go.Sy
end
noncomputable section
set_option maxRecDepth 100000
namespace Go.Sy
open Go.Ev Go.Proofs
mutual
def wkB:Ex->Bool
 |.mk op num _ ks _ _=>(decide (QT op=(ks.length:Int)) && (decide (op≠2) ||decide (num=0) ||decide (num=1))) && W5 ks
def W5:List Ex->Bool
 |[]=>true
 |x :: xs=>wkB x && W5 xs
end
def WkX (x:Ex):Prop:=wkB x=true/\szE x<=BIG
mutual
theorem jbn:∀ (d:Nat) (x:Ex),yZ d x=true->wkB x=true
 |0,_,h=>by cases h
 |d+1,.mk op num name ks l c,h=>by
  rw[Wp] at h;simp only[Qar,decide_eq_true_eq] at h;obtain⟨⟨⟨⟨h1,h2⟩,h3⟩,h4⟩,h5⟩:=h;have h1:(1:Int)<=op:=h1;have h2:op<31:=h2;have h3:(ks.length:Int)=if 5<=op/\op<=13 then 1 else if 14<=op/\op<31 then 2 else 0:=h3
  rw[wkB,Qar,Qar,decide_eq_true_eq];refine⟨⟨?_,?_⟩,GH d ks h5⟩
  ·unfold QT;rw[h3];repeat' split
   all_goals omega
  ·by_cases ho:op=2
   ·unfold vX at h4;rw[if_neg (show ¬ Ex.op (.mk op num name ks l c)=1 from by show ¬ op=1;omega),if_pos (show Ex.op (.mk op num name ks l c)=2 from ho)] at h4;simp only[Qar,QaX,decide_eq_true_eq] at h4;have h6:num=0\/num=1:=h4.1;simp only[QaX,decide_eq_true_eq];omega
   ·simp[ho]
theorem GH:∀ (d:Nat) (xs:List Ex),xs.all (yZ d)=true->W5 xs=true
 |_,[],_=>rfl
 |d,x :: xs,h=>by
  rw[Qbe,Qar] at h;rw[W5,jbn d x h.1,GH d xs h.2];rfl
end
theorem jjX {ts:List Tk}(W:Wds ts){i j:Nat}{x:Ex}(hi:i<ts.length)(h:yn ts i=.ok x j):szE x<=BIG:=by
 obtain⟨r,_,hr⟩:=evR W hi;rw[W8 hr] at h;obtain⟨N,hr⟩:=hr;have hz:=(Ui W N).1 _ _ _ _ (hr N (Qao _)) hi;unfold W7 at h;cases r with
 |er t=>cases h
 |ok y k=>
  dsimp only at h;split at h
  ·cases h;have h1:=hz.2.2;have h2:(j - i) * 65537<=1000000 * 65537:=QaM _ (by have:=W.len;have:=hz.2.1;omega);have h3:1000000 * 65537<=BIG:=by decide
   exact Qaw h1 (by rw[QaK];exact Qaw h2 h3)
  ·cases h
theorem U8 {ts:List Tk}(W:Wds ts){i j:Nat}{x:Ex}(hi:i<ts.length)(h:yn ts i=.ok x j):WkX x:=⟨jbn 60 x (yc W hi h).2.2.2,jjX W hi h⟩
def WkD (d:DeclT):Prop:=(∀ x∈d.begins,WkX x)/\d.begins.length<=1
def WkR (r:RuleT):Prop:=WkX r.when/\(∀ a∈r.acts,WkX a.to)/\r.acts.length<=1000000
def WkP (p:ProcT):Prop:=p.rules.length<=1000/\∀ r∈p.rules,WkR r
structure WkS (m:SrcT):Prop where
 begs:∀ d∈m.vars,WkD d
 rules:∀ p∈m.procs,WkP p
theorem joh {ts:List Tk}(W:Wds ts){i j:Nat}{bs:List Ex}(hi:i<ts.length)(h:Z7 ts i=.ok bs j):(∀ x∈bs,WkX x)/\bs.length<=1:=by
 unfold Z7 at h;split at h
 ·rename_i c;have hi1:=W.isM hi c;split at h
  ·cases h
  ·rename_i x k hx;split at h
   ·cases h;exact⟨λy hy=>by simp at hy;rw[hy];exact U8 W hi1 hx,by simp⟩
   ·cases h
 ·split at h
  ·cases h;exact⟨(λy hy=>by cases hy),by simp⟩
  ·cases h
theorem jmD {ts:List Tk}(W:Wds ts){i j:Nat}{d:DeclT}(hi:i<ts.length)(h:Yh ts i=.ok d j):WkD d:=by
 unfold Yh at h;split at h
 ·rename_i k1;have hi1:=W.next i hi (by omega)
  split at h
  ·rename_i c1;have hi2:=W.isM hi1 c1;split at h
   ·cases h
   ·rename_i y k hy;have hk:=jbc W hi2 hy;split at h
    ·cases h
    ·rename_i bs k2 hb;cases h;obtain⟨c,d⟩:=joh W hk.2 hb;exact⟨c,d⟩
  ·cases h
 ·cases h
theorem jc6 {ts:List Tk}(W:Wds ts):∀ {n i j:Nat} {vs ws:List AsT},i<ts.length->(∀ a∈vs,WkX a.to)->vs.length<=32->QB ts n i vs=.ok ws j->(∀ a∈ws,WkX a.to)/\ws.length<=32
 |0,i,j,vs,ws,hi,hv,hl,h=>by cases h
 |n+1,i,j,vs,ws,hi,hv,hl,h=>by
  rw[QB] at h;by_cases k1:(tk ts i).kind=1
  ·simp only[if_pos k1] at h;have hi1:=W.next i hi (by omega)
   by_cases h32:32<=vs.length
   ·simp only[if_pos h32] at h;cases h
   simp only[if_neg h32] at h;by_cases c1:isM (tk ts (i+1)) [[58,61]]=true
   ·simp only[if_pos c1] at h;have hi2:=W.isM hi1 c1;cases h1:yn ts (i+2) with
    |er t=>rw[h1] at h;cases h
    |ok x k=>
     rw[h1] at h;dsimp only at h;have hj:=yc W hi2 h1;have hx:=U8 W hi2 h1;have hv2:∀ l c nm,∀ a∈vs ++ [(⟨nm,x,l,c⟩:AsT)],WkX a.to:=λl c nm a ha=>by
      rcases QaV.1 ha with ha|ha
      ·exact hv a ha
      ·simp at ha;rw[ha];exact hx
     by_cases c2:isM (tk ts k) [[44]]=true
     ·simp only[if_pos c2] at h;exact jc6 W (W.isM hj.2.1 c2) (hv2 _ _ _) (by simp;omega) h
     ·simp only[if_neg c2] at h;split at h
      ·cases h;exact⟨hv2 _ _ _,by simp;omega⟩
      ·cases h
   ·simp only[if_neg c1] at h;cases h
  ·simp only[if_neg k1] at h;cases h
theorem jmB {ts:List Tk}(W:Wds ts){i j:Nat}{r:RuleT}(hi:i<ts.length)(h:Xl ts i=.ok r j):WkX r.when/\(∀ a∈r.acts,WkX a.to)/\r.acts.length<=1000000:=by
 unfold Xl at h;cases h1:yn ts i with
 |er t=>rw[h1] at h;cases h
 |ok x k=>
  rw[h1] at h;dsimp only at h;have hj:=yc W hi h1;by_cases c1:isM (tk ts k) [[100,111]]=true
  ·simp only[if_pos c1] at h;cases h2:QB ts ts.length (k+1) [] with
   |er t=>rw[h2] at h;cases h
   |ok vs k2=>
    rw[h2] at h;cases h;have:=jc6 (vs:=[]) W (W.isM hj.2.1 c1) (λa ha=>by cases ha) (QaG _) h2;exact⟨U8 W hi h1,this.1,by dsimp only;omega⟩
  ·simp only[if_neg c1] at h;cases h
theorem jaU {ts:List Tk}(W:Wds ts):∀ {n i j:Nat} {vs ws:List RuleT},i<ts.length->(∀ r∈vs,WkX r.when/\(∀ a∈r.acts,WkX a.to)/\r.acts.length<=1000000)->vs.length<=32->J5 ts n i vs=.ok ws j->(∀ r∈ws,WkX r.when/\(∀ a∈r.acts,WkX a.to)/\r.acts.length<=1000000)/\ws.length<=32
 |0,i,j,vs,ws,hi,hv,hl,h=>by cases h
 |n+1,i,j,vs,ws,hi,hv,hl,h=>by
  rw[J5] at h;by_cases c1:isM (tk ts i) [[119,104,101,110]]=true
  ·simp only[if_pos c1] at h;have hi1:=W.isM hi c1;by_cases h32:32<=vs.length
   ·simp only[if_pos h32] at h;cases h
   simp only[if_neg h32] at h;cases h1:Xl ts (i+1) with
   |er t=>rw[h1] at h;cases h
   |ok r k=>
    rw[h1] at h;dsimp only at h;refine jaU W (Ul W hi1 h1).2 (λa ha=>?_) (by simp;omega) h;rcases QaV.1 ha with ha|ha
    ·exact hv a ha
    ·simp at ha;rw[ha];exact jmB W hi1 h1
  ·simp only[if_neg c1] at h;split at h
   ·cases h;exact⟨hv,hl⟩
   ·cases h
theorem jmC {ts:List Tk}(W:Wds ts){i j:Nat}{p:ProcT}(hi:i<ts.length)(h:X5 ts i=.ok p j):WkP p:=by
 unfold X5 at h;split at h
 ·rename_i k1;have hi1:=W.next i hi (by omega)
  split at h
  ·rename_i c1;have hi2:=W.isM hi1 c1;split at h
   ·rename_i vs k hv;cases h;have:=jaU (vs:=[]) W hi2 (λa ha=>by cases ha) (QaG _) hv;exact⟨by dsimp only;omega,this.1⟩
   ·cases h
  ·cases h
 ·cases h
theorem kQ {ts:List Tk}(W:Wds ts):∀ {n i j:Nat} {m w:SrcT},i<ts.length->WkS m->m.enums.length<=32->m.vars.length<=32->m.procs.length<=32->XI ts n i m=.ok w j->WkS w/\w.enums.length<=32/\w.vars.length<=32/\w.procs.length<=32
 |0,i,j,m,w,hi,hm,h1,h2,h3,h=>by cases h
 |n+1,i,j,m,w,hi,hm,h1,h2,h3,h=>by
  rw[XI] at h;by_cases c:isM (tk ts i) [[101,110,117,109],[118,97,114],[112,114,111,99,101,115,115]]=true
  ·simp only[if_pos c] at h;have hi1:=W.isM hi c;by_cases c1:(tk ts i).text=[101,110,117,109]
   ·simp only[if_pos c1] at h;by_cases hr:32<=m.enums.length
    ·simp only[if_pos hr] at h;cases h
    simp only[if_neg hr] at h;cases he:ZK ts (i+1) with
    |er t=>rw[he] at h;cases h
    |ok e k=>
     rw[he] at h;refine kQ (m:={ m with enums:=m.enums ++ [e] }) W (Gn W hi1 he).2 ⟨hm.begs,hm.rules⟩ (by simp;omega) h2 h3 h
   simp only[if_neg c1] at h;by_cases c2:(tk ts i).text=[118,97,114]
   ·simp only[if_pos c2] at h;by_cases hr:32<=m.vars.length
    ·simp only[if_pos hr] at h;cases h
    simp only[if_neg hr] at h;cases he:Yh ts (i+1) with
    |er t=>rw[he] at h;cases h
    |ok e k=>
     rw[he] at h;refine kQ (m:={ m with vars:=m.vars ++ [e] }) W (Gt W hi1 he).2 ⟨λa ha=>?_,hm.rules⟩ h1 (by simp;omega) h3 h;rcases QaV.1 ha with ha|ha
     ·exact hm.begs a ha
     ·simp at ha;rw[ha];exact jmD W hi1 he
   ·simp only[if_neg c2] at h;by_cases hr:32<=m.procs.length
    ·simp only[if_pos hr] at h;cases h
    simp only[if_neg hr] at h;cases he:X5 ts (i+1) with
    |er t=>rw[he] at h;cases h
    |ok e k=>
     rw[he] at h;refine kQ (m:={ m with procs:=m.procs ++ [e] }) W (gT W hi1 he).2 ⟨hm.begs,λa ha=>?_⟩ h1 h2 (by simp;omega) h;rcases QaV.1 ha with ha|ha
     ·exact hm.rules a ha
     ·simp at ha;rw[ha];exact jmC W hi1 he
  ·simp only[if_neg c] at h;split at h
   ·cases h;exact⟨hm,h1,h2,h3⟩
   ·cases h
theorem jmT {l:List Nat}(h:(yG l).2.1=0):WkS (yG l).1/\(yG l).1.procs.length<=32:=by
 unfold yG at h ⊢;by_cases c:(qo l).2.1≠0
 ·rw[if_pos c] at h;exact absurd h c
 ·rw[if_neg c] at h ⊢;have c0:(qo l).2.1=0:=by simpa using c
  obtain⟨W,ne,_⟩:=VQ c0;cases hr:XI (qo l).1 (qo l).1.length 0 Wn with
  |er t=>rw[hr] at h;exact absurd h (λh=>by cases h)
  |ok m j=>
   have:=kQ W (QbO.2 ne) ⟨(λa ha=>by cases ha),(λa ha=>by cases ha)⟩ (by decide) (by decide) (by decide) hr;exact⟨this.1,this.2.2.2⟩
end Go.Sy
end
noncomputable section
set_option maxRecDepth 100000
namespace Go.Sy
open Go.Ev Go.Proofs
section
def wq (n:Int):Int:=qT .i64 n
def Qd (p:Prop) [Decidable p]:Int:=if p then 1 else 0
def jbd (op a b:Int):Option Int:=
 if op=14 then some (wq (a * b)) else if op=15 then some (wq (a+b)) else if op=16 then some (wq (a - b))
 else if op=17\/op=30 then some (Qd (a=b)) else if op=18 then some (Qd (a≠b)) else if op=19 then some (Qd (a<b))
 else if op=20\/op=29 then some (Qd (a<=b)) else if op=21 then some (Qd (b<a)) else if op=22 then some (Qd (b<=a))
 else if op=27 then some (if a<=b then a else b) else if op=28 then some (if a<=b then b else a) else none
def opV (s:List Int)(op num:Int)(ns:List Int):Option Int:=
 if ns.length=0/\(op=1\/op=2) then some num
 else if ns.length=0/\op=4/\0<=num/\num<(s.length:Int) then some (s.getD num.toNat 0)
 else if ns.length=1/\op=5 then some (wq (-(ns.getD 0 0)))
 else if ns.length=1/\op=6 then some (wq (1 - ns.getD 0 0))
 else if ns.length=2 then jbd op (ns.getD 0 0) (ns.getD 1 0)
 else none
mutual
def yz (s:List Int):Ex->Option Int
 |.mk op num _ ks _ _=>match qM s ks with
  |none=>none
  |some ns=>opV s op num ns
def qM (s:List Int):List Ex->Option (List Int)
 |[]=>some []
 |x :: xs=>match yz s x with
  |none=>none
  |some n=>match qM s xs with
   |none=>none
   |some ns=>some (n :: ns)
end
def QP (op a b:Int):Int:=
 if op=5 then wq (-a) else if op=14 then wq (a * b) else if op=15 then wq (a+b) else if op=16 then wq (a - b)
 else if op=6 then Qd (a=0) else if op=17\/op=30 then Qd (a=b) else if op=18 then Qd (a≠b) else if op=19 then Qd (a<b)
 else if op=20 then Qd (a<=b) else if op=21 then Qd (b<a) else if op=22 then Qd (b<=a) else if op=27 then Qd (a=1/\b=1)
 else if op=28 then Qd (a=1\/b=1) else if op=29 then Qd (a=0\/b=1) else 0
mutual
def JS (s:List Int):Ex->Int
 |.mk op num _ ks _ _=>if op=4 then s.getD num.toNat 0 else if ks.length=0 then num else QP op ((wk s ks).getD 0 0) ((wk s ks).getD (ks.length - 1) 0)
def wk (s:List Int):List Ex->List Int
 |[]=>[]
 |x :: xs=>JS s x :: wk s xs
end
theorem Ka {s:List Int}:∀ {xs:List Ex} {ns:List Int},qM s xs=some ns->ns.length=xs.length
 |[],ns,h=>by simp only[qM] at h;cases h;rfl
 |x :: xs,ns,h=>by
  rw[qM] at h;cases h1:yz s x with
  |none=>rw[h1] at h;cases h
  |some n=>
   rw[h1] at h;cases h2:qM s xs with
   |none=>rw[h2] at h;cases h
   |some ms=>rw[h2] at h;cases h;simp[Ka h2]
def qU (vars:List VarT)(s:List Int):Bool:=decide (s.length=vars.length) && (QaU vars.length).all λi=>decide ((vars.getD i ⟨[],0,[],0,0,false,0⟩).lo<=s.getD i 0) && decide (s.getD i 0<=(vars.getD i ⟨[],0,[],0,0,false,0⟩).hi)
def Xe (vars:List VarT):Prop:=∀ v∈vars,v.kind=2->v.lo=0/\v.hi=1
def Xu (n:Int):Prop:=n=0\/n=1
theorem wY (p:Prop) [Decidable p]:Xu (Qd p):=by unfold Qd Xu;split<;>simp
theorem jnI {part:Int}{ms:List MtT}(h:V4 part ms≠true)(hp:0<part):∀ m∈ms,m.kind=part:=λm hm=>by
 have h:V4 part ms=false:=by simpa using h
 unfold V4 at h;rw[List.any_eq_false] at h;have:=h m hm;simp at this;exact this.1.1 hp
theorem jmP {op a b n:Int}(h:jbd op a b=some n)(hb:(qS op).1=2->Xu a/\Xu b):QP op a b=n/\((qS op).2=2->Xu n):=by
 have no:∀ {p:Prop} {q:Int},(qS q).2=1->((qS q).2=2->p):=λe h=>by rw[e] at h;exact absurd h (by decide)
 unfold jbd at h;by_cases e:op=14
 ·rw[if_pos e] at h;cases h;subst e;exact⟨by simp[QP],no (by decide)⟩
 rw[if_neg e] at h;clear e;by_cases e:op=15
 ·rw[if_pos e] at h;cases h;subst e;exact⟨by simp[QP],no (by decide)⟩
 rw[if_neg e] at h;clear e;by_cases e:op=16
 ·rw[if_pos e] at h;cases h;subst e;exact⟨by simp[QP],no (by decide)⟩
 rw[if_neg e] at h;clear e;by_cases e:op=17\/op=30
 ·rw[if_pos e] at h;cases h;refine⟨?_,λ_=>wY _⟩;rcases e with e|e<;>(subst e;simp[QP])
 rw[if_neg e] at h;clear e;by_cases e:op=18
 ·rw[if_pos e] at h;cases h;subst e;exact⟨by simp[QP],λ_=>wY _⟩
 rw[if_neg e] at h;clear e;by_cases e:op=19
 ·rw[if_pos e] at h;cases h;subst e;exact⟨by simp[QP],λ_=>wY _⟩
 rw[if_neg e] at h;clear e;by_cases e:op=20\/op=29
 ·rw[if_pos e] at h;cases h;refine⟨?_,λ_=>wY _⟩;rcases e with e|e
  ·subst e;simp[QP]
  ·subst e;obtain⟨ha,hc⟩:=hb (by decide);rcases ha with rfl|rfl<;>rcases hc with rfl|rfl<;>decide
 rw[if_neg e] at h;clear e;by_cases e:op=21
 ·rw[if_pos e] at h;cases h;subst e;exact⟨by simp[QP],λ_=>wY _⟩
 rw[if_neg e] at h;clear e;by_cases e:op=22
 ·rw[if_pos e] at h;cases h;subst e;exact⟨by simp[QP],λ_=>wY _⟩
 rw[if_neg e] at h;clear e;by_cases e:op=27
 ·rw[if_pos e] at h;cases h;subst e;obtain⟨ha,hc⟩:=hb (by decide);rcases ha with rfl|rfl<;>rcases hc with rfl|rfl<;>exact⟨by decide,λ_=>(by unfold Xu;decide)⟩
 rw[if_neg e] at h;clear e;by_cases e:op=28
 ·rw[if_pos e] at h;cases h;subst e;obtain⟨ha,hc⟩:=hb (by decide);rcases ha with rfl|rfl<;>rcases hc with rfl|rfl<;>exact⟨by decide,λ_=>(by unfold Xu;decide)⟩
 rw[if_neg e] at h;cases h
theorem jkf {vars:List VarT}{s:List Int}(h:qU vars s=true):s.length=vars.length/\∀ i,i<vars.length->(vars.getD i ⟨[],0,[],0,0,false,0⟩).lo<=s.getD i 0/\s.getD i 0<=(vars.getD i ⟨[],0,[],0,0,false,0⟩).hi:=by
 unfold qU at h;rw[Qar,decide_eq_true_eq,QaA] at h;refine⟨h.1,λi hi=>?_⟩;have:=h.2 i (QcA.2 hi);simpa using this
mutual
theorem Hj {vars:List VarT}{enums:List EnumT}(hv:Xe vars){s:List Int}(hs:qU vars s=true):∀ (fm:Bool) (x y:Ex) (m:MtT),wkB x=true->yd vars enums fm x=.ok (y,m)->∀ n,yz s y=some n->JS s y=n/\(m.kind=2->Xu n)
 |fm,.mk op num name ks l c,y,m,hx,h,n,hn=>by
  have hx0:=hx;rw[wkB] at hx0;simp only[Qar,decide_eq_true_eq] at hx0;obtain⟨⟨hk,hleaf⟩,hks⟩:=hx0;have nk:(op=1\/op=2\/op=3\/op=4)->ks=[]:=λho=>by
   unfold QT at hk;rw[if_pos (by omega)] at hk;exact QaQ (by omega)
  rw[yd] at h;split at h
  ·rename_i h1;cases h;subst h1;have e:=nk (by simp);subst e;simp only[yz,qM,opV] at hn;simp at hn;subst hn;exact⟨by simp[JS],λh=>by simp at h⟩
  ·split at h
   ·rename_i h1;cases h;subst h1;have e:=nk (by simp);subst e;simp only[yz,qM,opV] at hn;simp at hn;subst hn;refine⟨by simp[JS],λ_=>?_⟩;simp at hleaf;unfold Xu;omega
   ·split at h
    ·rename_i h1;subst h1;unfold zq at h;split at h
     ·rename_i h2;cases h;have hlt:qg vars (Ex.mk 3 num name ks l c).name<(vars.length:Int):=ZJ;have hlt2:(qg vars name).toNat<vars.length:=by
       have:qg vars name<(vars.length:Int):=hlt;have:(0:Int)<=qg vars name:=h2;omega
      obtain⟨r1,r2⟩:=jkf hs;have r2:=r2 _ hlt2;simp only[yz,qM,opV] at hn;have hlt3:qg vars (Ex.mk 3 num name ks l c).name<(s.length:Int):=by rw[r1];exact hlt
      rw[if_neg (by simp),if_pos ⟨by simp,by simp,h2,hlt3⟩] at hn;cases hn;refine⟨by simp only[JS,if_true],λhk2=>?_⟩;have hm:vars.getD (qg vars name).toNat ⟨[],0,[],0,0,false,0⟩∈vars:=by
       rw[Qax,Qau hlt2];exact Qat hlt2
      have:=hv _ hm hk2;show Xu (s.getD (qg vars name).toNat 0);unfold Xu;omega
     ·split at h
      ·cases h
      ·cases h;simp only[yz,qM,opV] at hn;simp at hn;subst hn;exact⟨by simp[JS],λh=>by simp at h⟩
    ·rename_i n1 n2 n3;split at h
     ·cases h
     ·rename_i r hr;have K:=KQ (vars:=vars) (enums:=enums) hv hs _ ks r.1 r.2 hks hr;have kl:=Jl hr;unfold Yq at h;split at h
      ·cases h
      ·rename_i hbad;have hb0:r.2.length≠0:=λh=>hbad (.inl h);have hbm:V4 (qS op).1 r.2≠true:=λh=>hbad (.inr (.inr (.inr h)));have hy:y=.mk op num name r.1 l c/\m.kind=(qS op).2:=by
        split at h
        ·cases h;exact⟨rfl,rfl⟩
        ·split at h
         ·cases h
         ·cases h;exact⟨rfl,rfl⟩
       obtain⟨rfl,hm⟩:=hy;rw[hm];rw[yz] at hn;cases hns:qM s r.1 with
       |none=>rw[hns] at hn;cases hn
       |some ns=>
        rw[hns] at hn;obtain⟨k1,k2⟩:=K ns hns;have hl:=Ka hns;have ho:op≠4:=λe=>by
         have:=nk (by simp[e]);rw[this] at kl;exact hb0 (by simpa using kl.2)
        have hp:0<(qS op).1->∀ i,i<r.2.length->(r.2.getD i mt0).kind=(qS op).1:=λh0 i hi=>by
         refine jnI hbm h0 _ ?_;rw[Qax,Qau hi];exact Qat hi
        have hr:JS s (.mk op num name r.1 l c)=QP op (ns.getD 0 0) (ns.getD (r.1.length - 1) 0):=by
         rw[JS,if_neg ho,if_neg (by omega),k1]
        rw[hr];unfold opV at hn;dsimp only at hn;rw[if_neg (by omega),if_neg (by omega)] at hn;split at hn
        ·rename_i e;cases hn;obtain⟨e1,rfl⟩:=e;exact⟨rfl,λh=>absurd h (by decide)⟩
        ·split at hn
         ·rename_i e;cases hn;obtain⟨e1,rfl⟩:=e;have:=k2 0 (by omega) (by rw[hp (by decide) 0 (by omega)];decide);rw[show r.1.length - 1=0 by omega];rcases this with e|e<;>rw[e]<;>exact⟨rfl,λ_=>by unfold Xu;decide⟩
         ·split at hn
          ·rename_i e;rw[show r.1.length - 1=1 by omega];exact jmP hn λh2=>⟨k2 0 (by omega) (by rw[hp (by omega) 0 (by omega),h2]),k2 1 (by omega) (by rw[hp (by omega) 1 (by omega),h2])⟩
          ·cases hn
theorem KQ {vars:List VarT}{enums:List EnumT}(hv:Xe vars){s:List Int}(hs:qU vars s=true):∀ (fm:Bool) (xs ys:List Ex) (ms:List MtT),W5 xs=true->qk vars enums fm xs=.ok (ys,ms)->∀ ns,qM s ys=some ns->wk s ys=ns/\∀ i,i<ms.length->(ms.getD i mt0).kind=2->Xu (ns.getD i 0)
 |fm,[],ys,ms,hx,h,ns,hn=>by
  rw[qk] at h;cases h;simp only[qM] at hn;cases hn;exact⟨rfl,λi hi=>absurd hi (by simp)⟩
 |fm,x :: xs,ys,ms,hx,h,ns,hn=>by
  rw[W5,Qar] at hx;rw[qk] at h;split at h
  ·cases h
  ·rename_i y hy;split at h
   ·cases h
   ·rename_i r hr;cases h;rw[qM] at hn;cases h1:yz s y.1 with
    |none=>rw[h1] at hn;cases hn
    |some n=>
     rw[h1] at hn;cases h2:qM s r.1 with
     |none=>rw[h2] at hn;cases hn
     |some ns'=>
      rw[h2] at hn;cases hn;have A:=Hj (vars:=vars) (enums:=enums) hv hs fm x y.1 y.2 hx.1 hy n h1;have B:=KQ (vars:=vars) (enums:=enums) hv hs fm xs r.1 r.2 hx.2 hr ns' h2;refine⟨by rw[wk,A.1,B.1],λi hi hk=>?_⟩;cases i with
      |zero=>exact A.2 hk
      |succ i=>exact B.2 i (by simpa using hi) hk
end
mutual
def X6 (n:Int):Ex->Bool
 |.mk op num _ ks _ _=>(!(decide (op=3) ||(decide (op=4) && (decide (num<0) ||decide (n<=num))))) && Q2 n ks
def Q2 (n:Int):List Ex->Bool
 |[]=>true
 |x :: xs=>X6 n x && Q2 n xs
end
theorem jkr (n:Int)(x:Ex):X6 n x=((!(decide (x.op=3) ||(decide (x.op=4) && (decide (x.num<0) ||decide (n<=x.num))))) && Q2 n x.kids):=by cases x;rw[X6];rfl
theorem Kw (n:Int):∀ xs,Q2 n xs=xs.all (X6 n)
 |[]=>rfl
 |x :: xs=>by rw[Q2,Kw n xs];rfl
mutual
theorem jb0 {vars:List VarT}{enums:List EnumT}:∀ (fm:Bool) (x y:Ex) (m:MtT),wkB x=true->yd vars enums fm x=.ok (y,m)->X6 vars.length y=true
 |fm,.mk op num name ks l c,y,m,hx,h=>by
  rw[wkB] at hx;simp only[Qar,decide_eq_true_eq] at hx;obtain⟨⟨hk,_⟩,hks⟩:=hx;have nk:(op=1\/op=2\/op=3\/op=4)->ks=[]:=λho=>by
   unfold QT at hk;rw[if_pos (by omega)] at hk;exact QaQ (by omega)
  rw[yd] at h;split at h
  ·rename_i h1;cases h;rw[nk (by omega)];simp[X6,Q2,h1]
  ·split at h
   ·rename_i h1;cases h;rw[nk (by omega)];simp[X6,Q2,h1]
   ·split at h
    ·rename_i h1;unfold zq at h;split at h
     ·rename_i h2;cases h;have hlt:qg vars (Ex.mk op num name ks l c).name<(vars.length:Int):=ZJ;simp only[X6,Q2,Bool.and_true,Qbb,QbN,Qcn,decide_eq_false_iff_not];omega
     ·split at h
      ·cases h
      ·cases h;simp[X6,Q2]
    ·rename_i n1 n2 n3;split at h
     ·cases h
     ·rename_i r hr;have K:=Hh (vars:=vars) (enums:=enums) _ ks r.1 r.2 hks hr;have kl:=Jl hr;unfold Yq at h;split at h
      ·cases h
      ·rename_i hbad;have hb0:r.2.length≠0:=λh=>hbad (.inl h);have ho:op≠4:=λe=>by
        have:=nk (by simp[e]);rw[this] at kl;exact hb0 (by simpa using kl.2)
       have hy:y=.mk op num name r.1 l c:=by
        split at h
        ·cases h;rfl
        ·split at h
         ·cases h
         ·cases h;rfl
       subst hy;rw[X6,K];simp[n3,ho]
theorem Hh {vars:List VarT}{enums:List EnumT}:∀ (fm:Bool) (xs ys:List Ex) (ms:List MtT),W5 xs=true->qk vars enums fm xs=.ok (ys,ms)->Q2 vars.length ys=true
 |fm,[],ys,ms,hx,h=>by rw[qk] at h;cases h;rfl
 |fm,x :: xs,ys,ms,hx,h=>by
  rw[W5,Qar] at hx;rw[qk] at h;split at h
  ·cases h
  ·rename_i y hy;split at h
   ·cases h
   ·rename_i r hr;cases h;rw[Q2,jb0 (vars:=vars) (enums:=enums) fm x y.1 y.2 hx.1 hy,Hh (vars:=vars) (enums:=enums) fm xs r.1 r.2 hx.2 hr];rfl
end
end
end Go.Sy
end
noncomputable section
set_option maxRecDepth 100000
namespace Go.Sy
open Go.Ev Go.Proofs
section
def OfK (vars:List VarT)(enums:List EnumT)(y:Ex):Prop:=∃ (fm:Bool) (x:Ex) (m:MtT),WkX x/\yd vars enums fm x=.ok (y,m)
theorem jdi {vars:List VarT}{enums:List EnumT}{fm:Bool}{x y:Ex}{w:Int}{en:List Nat}(hr:WkX x)(h:yv vars enums fm x w en=.ok y):OfK vars enums y:=by
 unfold yv at h;split at h
 ·cases h
 ·rename_i r hk;split at h
  ·cases h
  ·cases h;exact⟨fm,x,r.2,hr,hk⟩
theorem OfK.val {vars:List VarT}{enums:List EnumT}{y:Ex}(k:OfK vars enums y)(hv:Xe vars){s:List Int}(hs:qU vars s=true){n:Int}(h:yz s y=some n):JS s y=n:=by
 obtain⟨fm,x,m,hr,hk⟩:=k;exact(Hj hv hs fm x y m hr.1 hk n h).1
theorem OfK.numb {vars:List VarT}{enums:List EnumT}{y:Ex}(k:OfK vars enums y):X6 vars.length y=true:=by
 obtain⟨fm,x,m,hr,hk⟩:=k;exact jb0 fm x y m hr.1 hk
theorem OfK.sz {vars:List VarT}{enums:List EnumT}{y:Ex}(k:OfK vars enums y):szE y<=BIG:=by
 obtain⟨fm,x,m,hr,hk⟩:=k;exact Qaw (jbZ fm x y m hk) hr.2
structure MoveK (vars:List VarT)(enums:List EnumT)(m:MoveT):Prop where
 when:OfK vars enums m.when
 len:m.acts.length<=1000000
 acts:∀ a∈m.acts,0<=a.var/\a.var<(vars.length:Int)/\OfK vars enums a.to
theorem jgW {vars:List VarT}{enums:List EnumT}:∀ {l:List AsT} {acc:List SetT} {done:List AsT} {ss:List SetT},(∀ a∈l,WkX a.to)->Qq vars enums acc done l=.ok ss->(∀ a∈acc,0<=a.var/\a.var<(vars.length:Int)/\OfK vars enums a.to)->(∀ a∈ss,0<=a.var/\a.var<(vars.length:Int)/\OfK vars enums a.to)/\ss.length=acc.length+l.length
 |[],acc,done,ss,hr,h,ha=>by rw[Qq] at h;cases h;exact⟨ha,rfl⟩
 |a :: l,acc,done,ss,hr,h,ha=>by
  rw[Qq] at h;split at h
  ·cases h
  ·split at h
   ·cases h
   ·split at h
    ·cases h
    ·rename_i n0 _ y hy;have N:=jdi (hr a (by simp)) hy;have hlt:=(ZJ:qg vars a.name<(vars.length:Int));have R:=jgW (λb hb=>hr b (by simp[hb])) h (λb hb=>by
      rcases QaV.1 hb with hb|hb
      ·exact ha b hb
      ·simp at hb;rw[hb];exact⟨by dsimp only;omega,hlt,N⟩)
     exact⟨R.1,by rw[R.2];simp;omega⟩
theorem jpJ {m:ModT}{ts:List (List Nat)}{r:RuleT}{b:MT}(hq:WkR r)(h:Xm m ts r=.ok b)(hm:∀ v∈m.moves,MoveK m.vars m.enums v):b.1.vars=m.vars/\b.1.enums=m.enums/\(∀ v∈b.1.moves,MoveK m.vars m.enums v)/\b.1.moves.length=m.moves.length+1:=by
 obtain⟨hw,hr,hn⟩:=hq;unfold Xm at h;split at h
 ·cases h
 ·rename_i w hw';split at h
  ·cases h
  ·rename_i ss hs;cases h;refine⟨rfl,rfl,λv hv=>?_,by simp⟩;rcases QaV.1 hv with hv|hv
   ·exact hm v hv
   ·simp only[Qbq] at hv;subst hv;have S:=jgW (acc:=[]) hr hs (λa ha=>by cases ha);exact⟨jdi hw hw',by dsimp only;rw[S.2];simp;omega,S.1⟩
theorem jds:∀ {l:List RuleT} {b c:MT},(∀ r∈l,WkR r)->ye (λb r=>Xm b.1 b.2 r) b l=.ok c->(∀ v∈b.1.moves,MoveK b.1.vars b.1.enums v)->c.1.vars=b.1.vars/\c.1.enums=b.1.enums/\(∀ v∈c.1.moves,MoveK b.1.vars b.1.enums v)/\c.1.moves.length=b.1.moves.length+l.length
 |[],b,c,hr,h,hm=>by rw[ye] at h;cases h;exact⟨rfl,rfl,hm,rfl⟩
 |r :: l,b,c,hr,h,hm=>by
  rw[ye] at h;split at h
  ·cases h
  ·rename_i b' hb';obtain⟨e1,e2,e3,e4⟩:=jpJ (hr r (by simp)) hb' hm;have:=jds (b:=b') (λq hq=>hr q (by simp[hq])) h (by rw[e1,e2];exact e3);rw[e1,e2,e4] at this;exact⟨this.1,this.2.1,this.2.2.1,by rw[this.2.2.2];simp;omega⟩
theorem jdA:∀ {l:List ProcT} {b c:MT},(∀ p∈l,p.rules.length<=1000/\∀ r∈p.rules,WkR r)->ye YT b l=.ok c->(∀ v∈b.1.moves,MoveK b.1.vars b.1.enums v)->c.1.vars=b.1.vars/\c.1.enums=b.1.enums/\(∀ v∈c.1.moves,MoveK b.1.vars b.1.enums v)/\c.1.moves.length<=b.1.moves.length+1000 * l.length
 |[],b,c,hr,h,hm=>by rw[ye] at h;cases h;exact⟨rfl,rfl,hm,by simp⟩
 |p :: l,b,c,hr,h,hm=>by
  rw[ye] at h;split at h
  ·cases h
  ·rename_i b' hb';unfold YT at hb';split at hb'
   ·cases hb'
   ·rename_i ts' _;obtain⟨e1,e2,e3,e4⟩:=jds (b:=(b.1,ts')) (hr p (by simp)).2 hb' hm;have h1000:=(hr p (by simp)).1;have:=jdA (b:=b') (λq hq=>hr q (by simp[hq])) h (by rw[e1,e2];exact e3);rw[e1,e2,e4] at this;exact⟨this.1,this.2.1,this.2.2.1,by have:=this.2.2.2;dsimp only at this;simp only[Qak];omega⟩
end
end Go.Sy
end
noncomputable section
set_option maxRecDepth 100000
namespace Go.Sy
open Go.Ev Go.Proofs
section
theorem jqH {m:ModT}{ts:List (List Nat)}{d:DeclT}{b:MT}(hd:d.begins.length<=1)(h:XA m ts d=.ok b):∃ v,b.1={ m with vars:=m.vars ++ [v] }/\(v.kind=2->v.lo=0/\v.hi=1):=by
 unfold XA at h;split at h
 ·cases h
 ·split at h
  ·cases h
  ·rename_i v hk;have kv:v.kind=2->v.lo=0/\v.hi=1:=by
    unfold vY at hk;split at hk
    ·cases hk;exact λ_=>⟨rfl,rfl⟩
    ·split at hk
     ·cases hk;exact λh=>by simp at h
     ·split at hk
      ·cases hk
      ·split at hk
       ·cases hk
       ·split at hk
        ·cases hk
        ·cases hk;exact λh=>by simp at h
   unfold wG at h;split at h
   ·cases h
   ·rename_i u hu;unfold ki at h;split at h
    ·cases h
    ·cases h;refine⟨u,rfl,?_⟩;cases hb:d.begins with
     |nil=>rw[hb,Jn] at hu;cases hu;exact kv
     |cons x xs=>
      rw[hb] at hd;cases xs with
      |cons y ys=>simp at hd
      |nil=>
       rw[hb,Jn] at hu;split at hu
       ·cases hu
       ·split at hu
        ·cases hu
        ·split at hu
         ·cases hu
         ·rw[Jn] at hu;cases hu;exact kv
theorem jd7:∀ {l:List DeclT} {b c:MT},(∀ d∈l,d.begins.length<=1)->ye (λb e=>XA b.1 b.2 e) b l=.ok c->Xe b.1.vars->Xe c.1.vars/\c.1.moves=b.1.moves
 |[],b,c,hd,h,hv=>by rw[ye] at h;cases h;exact⟨hv,rfl⟩
 |d :: l,b,c,hd,h,hv=>by
  rw[ye] at h;split at h
  ·cases h
  ·rename_i b' hb';obtain⟨v,e,hk⟩:=jqH (hd d (by simp)) hb';have:=jd7 (b:=b') (λd hd'=>hd d (by simp[hd'])) h (by
    rw[e];intro u hu;rcases QaV.1 hu with hu|hu
    ·exact hv u hu
    ·simp at hu;rw[hu];exact hk)
   exact⟨this.1,by rw[this.2,e]⟩
theorem jd3:∀ {l:List EnumT} {b c:MT},ye (λb e=>wy b.1 b.2 e) b l=.ok c->c.1.vars=b.1.vars/\c.1.moves=b.1.moves
 |[],b,c,h=>by rw[ye] at h;cases h;exact⟨rfl,rfl⟩
 |e :: l,b,c,h=>by
  rw[ye] at h;split at h
  ·cases h
  ·rename_i b' hb';have e1:=WN hb';have:=jd3 (b:=b') h;rw[e1] at this;exact this
structure ModK (m:ModT):Prop where
 vars:Xe m.vars
 moves:∀ v∈m.moves,MoveK m.vars m.enums v
 len:m.moves.length<=100000
theorem jnh {s:SrcT}{c:MT}(hb:∀ d∈s.vars,d.begins.length<=1)(hr:∀ p∈s.procs,p.rules.length<=1000/\∀ r∈p.rules,WkR r)(hp:s.procs.length<=100)(h:zV s=.ok c):ModK c.1:=by
 unfold zV at h;split at h
 ·cases h
 ·rename_i b h1;obtain⟨E2,E3⟩:=jd3 h1;split at h
  ·cases h
  ·rename_i b2 h2;have v0:b.1.vars=[]:=E2;have m0:b.1.moves=[]:=E3;obtain⟨d1,d2⟩:=jd7 hb h2 (by rw[v0];intro v hv;cases hv);have m2:b2.1.moves=[]:=by rw[d2,m0]
   obtain⟨f1,f2,f3,f4⟩:=jdA (b:=b2) hr h (by rw[m2];intro v hv;cases hv);rw[m2] at f4;exact⟨by rw[f1];exact d1,by rw[f1,f2];exact f3,by simp only[Qan] at f4;omega⟩
end
end Go.Sy
end
noncomputable section
set_option maxRecDepth 100000
namespace Go.Sy
open Go.Ev Go.Proofs
section
def ZB (s:List Int):List SetT->List Int->Option (List Int)
 |[],out=>some out
 |a :: l,out=>match yz s a.to with
  |none=>none
  |some n=>if a.var<0\/(s.length:Int)<=a.var then none else ZB s l (out.set a.var.toNat n)
def zF (vars:List VarT)(mv:MoveT)(s:List Int):List Int×Bool:=
 if yz s mv.when=some 1 then(match ZB s mv.acts s with
  |none=>([],false)
  |some t=>(t,qU vars t)) else([],false)
def zp (vars:List VarT)(s:List Int):List MoveT->List (List Int)->List (List Int)
 |[],out=>out
 |mv :: l,out=>zp vars s l (if(zF vars mv s).2=true/\(zF vars mv s).1∉out then out ++ [(zF vars mv s).1] else out)
def Qv (m:ModT)(s:List Int):List (List Int):=
 if qU m.vars s=true then(if(zp m.vars s m.moves []).length=0 then [s] else zp m.vars s m.moves []) else []
def Qp (s:List Int):List SetT->List Int->List Int
 |[],out=>out
 |a :: l,out=>Qp s l (out.set a.var.toNat (JS s a.to))
def byM (vars:List VarT)(mv:MoveT)(s t:List Int):Bool:=
 qU vars s && qU vars t && decide (JS s mv.when=1) && decide (Qp s mv.acts s=t)
theorem vT {vars:List VarT}{s t:List Int}:∀ {l:List MoveT} {out:List (List Int)},t∈zp vars s l out->t∈out\/∃ mv∈l,zF vars mv s=(t,true)
 |[],out,h=>.inl h
 |mv :: l,out,h=>by
  rw[zp] at h;rcases vT h with h|⟨w,hw,e⟩
  ·split at h
   ·rename_i c;rcases QaV.1 h with h|h
    ·exact .inl h
    ·simp only[Qbq] at h;exact .inr ⟨mv,by simp,by rw[h,<-c.1]⟩
   ·exact .inl h
  ·exact .inr ⟨w,by simp[hw],e⟩
theorem UW {vars:List VarT}{s:List Int}:∀ {l:List MoveT} {out:List (List Int)},out.Nodup->(zp vars s l out).Nodup
 |[],out,h=>h
 |mv :: l,out,h=>by
  rw[zp];refine UW ?_;split
  ·rename_i c;rw[List.nodup_append];refine⟨h,by simp,λa ha b hb=>?_⟩;simp only[Qbq] at hb;rw[hb];exact λe=>c.2 (e▸ha)
  ·exact h
theorem Vo {vars:List VarT}{s:List Int}:∀ {l:List MoveT} {out:List (List Int)},(zp vars s l out).length<=out.length+l.length
 |[],out=>Qao _
 |mv :: l,out=>by
  rw[zp];refine Qaw Vo ?_;split
  ·simp;omega
  ·simp
theorem jdq {vars:List VarT}{enums:List EnumT}(hv:Xe vars){s:List Int}(hs:qU vars s=true):∀ {l:List SetT} {out t:List Int},(∀ a∈l,0<=a.var/\a.var<(vars.length:Int)/\OfK vars enums a.to)->ZB s l out=some t->Qp s l out=t
 |[],out,t,hl,h=>by rw[ZB] at h;cases h;rfl
 |a :: l,out,t,hl,h=>by
  rw[ZB] at h;cases hn:yz s a.to with
  |none=>rw[hn] at h;cases h
  |some n=>
   rw[hn] at h;dsimp only at h;split at h
   ·cases h
   ·rw[Qp,(hl a (by simp)).2.2.val hv hs hn];exact jdq hv hs (λb hb=>hl b (by simp[hb])) h
theorem jnz {vars:List VarT}{enums:List EnumT}(hv:Xe vars){mv:MoveT}(K:MoveK vars enums mv){s t:List Int}(hs:qU vars s=true)(h:zF vars mv s=(t,true)):byM vars mv s t=true:=by
 unfold zF at h;split at h
 ·rename_i hw;split at h
  ·cases h
  ·rename_i u hu;simp only[Prod.mk.injEq] at h;obtain⟨rfl,hr⟩:=h;unfold byM;rw[hs,hr,K.when.val hv hs hw,jdq hv hs K.acts hu];simp
 ·cases h
theorem wA {vars:List VarT}{mv:MoveT}{s t:List Int}(h:zF vars mv s=(t,true)):qU vars t=true:=by
 unfold zF at h;split at h
 ·split at h
  ·cases h
  ·simp only[Prod.mk.injEq] at h;obtain⟨rfl,hr⟩:=h;exact hr
 ·cases h
structure Goes (m:ModT)(s:List Int)(l:List (List Int)):Prop where
 some:l.length≠0
 few:l.length<=m.moves.length\/l.length=1
 right:∀ t∈l,qU m.vars t=true
 nodup:l.Nodup
 by_:∀ t∈l,(m.moves.any λmv=>byM m.vars mv s t)=true\/(l.length=1/\s=t)
theorem jnu {m:ModT}(M:ModK m){s:List Int}(hs:qU m.vars s=true):Goes m s (Qv m s):=by
 unfold Qv;rw[if_pos hs];by_cases h:(zp m.vars s m.moves []).length=0
 ·rw[if_pos h];exact⟨by simp,.inr rfl,λt ht=>by simp at ht;rw[ht];exact hs,by simp,λt ht=>.inr ⟨rfl,by simp at ht;exact ht.symm⟩⟩
 ·rw[if_neg h];have mem:∀ t∈zp m.vars s m.moves [],∃ mv∈m.moves,zF m.vars mv s=(t,true):=λt ht=>by
   rcases vT ht with h|h
   ·cases h
   ·exact h
  refine⟨h,.inl (by have:=@Vo m.vars s m.moves [];simpa using this),λt ht=>?_,UW (by simp),λt ht=>.inl ?_⟩
  ·obtain⟨mv,_,e⟩:=mem t ht;exact wA e
  ·obtain⟨mv,hm,e⟩:=mem t ht;exact List.any_eq_true.2 ⟨mv,hm,jnz M.vars (M.moves mv hm) hs e⟩
end
end Go.Sy
end
noncomputable section
set_option maxRecDepth 100000
namespace Go.Sy
open Go.Ev Go.Proofs
theorem jm0 {l f:List Nat}(h:(zS l f).c=0):ModK (zS l f).m:=by
 unfold zS at h ⊢;by_cases h1:(yG l).2.1≠0
 ·rw[if_pos h1] at h;exact absurd (show((yG l).2.1:Int)=0 from h) (by omega)
 ·rw[if_neg h1] at h ⊢;obtain⟨O,hp⟩:=jmT (l:=l) (by simpa using h1);cases hm:zV (yG l).1 with
  |er a b c=>
   rw[hm] at h;exact absurd h (Wy hm)
  |ok m=>
   rw[hm] at h;dsimp only at h ⊢;by_cases h2:(yo f).2.1≠0
   ·rw[if_pos h2] at h;exact absurd (show((yo f).2.1:Int)=0 from h) (by omega)
   ·rw[if_neg h2] at h ⊢;cases hr:yv m.1.vars m.1.enums true (yo f).1 2 [] with
    |er a b c=>
     rw[hr] at h;exact absurd h (Xh hr)
    |ok y=>exact jnh (λd hd=>(O.begs d hd).2) O.rules (by omega) hm
def ZC (src:SrcT):ModT×Bool:=match Qo src with
 |none=>(md0,false)
 |some t=>if 5000<t.length then(md0,false) else((zS t [116,114,117,101]).m,decide ((zS t [116,114,117,101]).c=0/\(zS t [116,114,117,101]).l=0/\(zS t [116,114,117,101]).k=0) && decide (Zf (zS t [116,114,117,101]).m.vars<=300))
theorem jki {src:SrcT}(h:(ZC src).2=true):ModK (ZC src).1/\VarsOK (ZC src).1.vars (ZC src).1.enums:=by
 unfold ZC at h ⊢;cases hs:Qo src with
 |none=>rw[hs] at h;cases h
 |some t=>
  rw[hs] at h;dsimp only at h ⊢;split at h
  ·cases h
  ·rename_i h5;rw[if_neg h5];simp only[Qar,decide_eq_true_eq] at h;exact⟨jm0 h.1.1,(jbs h.1.1).1⟩
end Go.Sy
end
noncomputable section
set_option maxRecDepth 100000
namespace Go.Sy
open Go.Ev Go.Proofs
def ji2:XC:=(Ou (IE (IB 2 0) 4 oY) [OM 7,IR 8 7,Ov 9 2,oz 10 9,IR 11 10,om 12 (.bin .neq 8 11)] 12 [O7] (Ti (Oh [Ov 13 2,I4 14 13,IP 15 14,IQ 16] 0 [I5 17 16 15] 17 0 1 (o0 [ou 18 16,Ii 19 7 14 16,oS 20 7 19,o4 6 [oB,ov,oB,ov,ov,.bool false,ov],oq 5 18,o3 7 6 20] (.cops [Iw (OM 21),Iw (OV 22),Iw (Ii 23 1 21 22),OK 24 23,Iw (OS 25 6),OK 26 25,Iw (oi 27 (ID 24 26)),Iw (ou 28 27),Iw (IL 29 28 1),Iw (IL 30 28 5),Iw (Ib 31 28 (.idxS 1 29 30)),Iw (I9 32 28 31),Iw (I8 33 28 4 6),Iw (I9 34 28 33),Iw (Ib 35 28 (.bin .gtr 32 34)),Iw (IV 36 28 Ih 35)]) (O3 36 [O7] .skip)) 37 16 1 16 37) [ON Ih]))
def job:XF:=⟨[0,1],ji2,[(.t 4)]⟩
theorem jsr:jy Qaf 25=some job:=by kernel_rfl
def jaM:XC:=(I7 [IQ 2] (Iu [oq 3 0] 3 [Or 2 1]) [IQ 2])
def jjP:XF:=⟨[0],jaM,[(.t 2)]⟩
theorem jo0:jy Qaf 61=some jjP:=by kernel_rfl
def jiW:XC:=(I7 (IE (IQ 6) 7 oY) (oj [oq 8 0] (.block 0 (OA 10 8 14 9 10 9 [OM 11,ou 12 2,IJ 13 .mul 11 12,oq 6 13,oq 7 Ih] (OA 15 8 15 14 15 14 [OM 16,ou 17 2,IJ 18 .add 16 17,oq 6 18,oq 7 Ih] (OA 20 8 16 19 20 19 [OM 21,ou 22 2,IJ 23 .sub 21 22,oq 6 23,oq 7 Ih] (.seq (IT 25 8 17 24 25 24 .skip (IG (Iz 26 8 30) 24 26)) (O3 24 [OM 27,ou 28 2,IJ 29 .eql 27 28,I6 30 61 29,oq 6 30,oq 7 Ih] (OA 32 8 18 31 32 31 [OM 33,ou 34 2,IJ 35 .neq 33 34,I6 36 61 35,oq 6 36,oq 7 Ih] (OA 38 8 19 37 38 37 [OM 39,ou 40 2,oi 41 (ID 39 40),I6 42 61 41,oq 6 42,oq 7 Ih] (.seq (IT 44 8 20 43 44 43 .skip (IG (Iz 45 8 29) 43 45)) (O3 43 [OM 46,ou 47 2,IJ 48 .leq 46 47,I6 49 61 48,oq 6 49,oq 7 Ih] (OA 51 8 21 50 51 50 [OM 52,ou 53 2,IJ 54 .gtr 52 53,I6 55 61 54,oq 6 55,oq 7 Ih] (OA 57 8 22 56 57 56 [OM 58,ou 59 2,IJ 60 .geq 58 59,I6 61 61 60,oq 6 61,oq 7 Ih] (OA 63 8 27 62 63 62 [OM 64,ou 65 2,oi 66 (.bi .min #[2,2] [64,65]),oq 6 66,oq 7 Ih] (Iu (IE (Iz 68 8 28) 67 68) 67 [OM 69,ou 70 2,oi 71 (.bi .max #[2,2] [69,70]),oq 6 71,oq 7 Ih]))))))))))))))) (IE (IQ 6) 7 oY))
def jn5:XF:=⟨[0,1,2],jiW,[(.t 6),(.t 7)]⟩
theorem jsl:jy Qaf 42=some jn5:=by kernel_rfl
def ji5:XC:=(oj [IB 2 0,IQ 4,On 5] (Oa [Te 6] (Ot [OS 11 2,I4 12 11,IP 13 12,IQ 14] 0 [I5 15 14 13] 15 0 1 [Ii 16 6 12 14,OT 17 16,Tc 8,o3 6 8 17] (Ou [OT 19 8,OM 20,Os 21 16 19 20,ou 18 21,Ij 22 18 0,Ij 23 18 1,oq 9 22,oq 10 23] [ou 24 10,om 25 (IM 24)] 25 (IE (IQ 4) 5 oY) (.ops [Tg 26,ou 27 9,Io 28 1 1 [ov] [((0,1),27)],OL 29 1 8 26 28,oq 6 29])) 30 14 1 14 30) 2 (oG [Tg 32,IR 33 32,O1 34 .eql 33,ou 35 34,Oy 36 35 0 2,Ow 37 35 36,OZ 38 35 .eql 37 1,I3 39 35 38,I8 40 39 0 2,I9 41 39 40,OU 42 39 .eql 41 2,Ic 43 35 (.pick 39 Ih 42),Td 44 35 43,oq 31 44] 31 (oX [OP 45 2,oz 46 45,ON 46,oq 5 Ih]) (oG [Tg 48,IR 49 48,O1 50 .eql 49,ou 51 50,Oy 52 51 0 2,Ow 53 51 52,OZ 54 51 .eql 53 4,Td 55 51 54,ou 56 55,Oy 57 56 1 2,Ow 58 56 57,Ic 59 56 (OB .geq 58),Td 60 56 59,ou 61 60,Oy 62 61 1 2,Ow 63 61 62,I3 64 61 1,Ic 65 61 (.len 64),Ic 66 61 (ID 63 65),Td 67 61 66,oq 47 67] 47 (oX [OM 68,OP 69 2,oz 70 69,Ii 71 1 68 70,oz 72 71,ON 72,oq 5 Ih]) (oG [Tg 74,IR 75 74,Iz 76 75 1,ou 77 76,Oy 78 77 0 2,Ow 79 77 78,OZ 80 77 .eql 79 5,Td 81 77 80,oq 73 81] 73 (oX [Tg 82,Ii 83 1 82 Ol,oz 84 83,oi 85 (.un .neg 84),ON 85,oq 5 Ih]) (oG [Tg 87,IR 88 87,Iz 89 88 1,ou 90 89,Oy 91 90 0 2,Ow 92 90 91,OZ 93 90 .eql 92 6,Td 94 90 93,oq 86 94] 86 (oX [Tg 95,Ii 96 1 95 Ol,oz 97 96,IJ 98 .sub OG 97,ON 98,oq 5 Ih]) (o8 [Tg 100,IR 101 100,Iz 102 101 2,oq 99 102] 99 (.seq (.cops [Iw (Ov 103 2),OK 104 103,Iw (Tg 105),Iw (Ii 106 1 105 Ol),OK 107 106,Iw (Tg 108),Iw (Ii 109 1 108 OG),OK 110 109,(Id 111 42 [104,107,110],Ox),Iw (Ij 112 111 0),Iw (Ij 113 111 1),Iw (ON 112),Iw (oq 5 113)]) .ret)))))) (oX (IE (IQ 4) 5 oY))))
def joe:XF:=⟨[0,1],ji5,[(.t 4),(.t 5)]⟩
theorem jsu:jy Qaf 16=some joe:=by kernel_rfl
def ji4:XC:=(oj [IB 2 0,O7,On 5] (Oi [OT 9 2,OM 10,Os 11 16 9 10,ou 8 11,Ij 12 8 0,Ij 13 8 1,oq 6 12,oq 7 13] [ou 14 7,ou 15 14,I3 16 15 6,OZ 17 15 .eql 16 1,Td 18 15 17,ou 19 7,ON 18,oq 5 19]))
def jod:XF:=⟨[0,1],ji4,[(.t 4),(.t 5)]⟩
theorem jst:jy Qaf 17=some jod:=by kernel_rfl
def jiV:XC:=(o0 [IB 3 0,IB 4 1,Te 6,On 7] (oj [Ov 16 4,OT 17 16,ou 18 2,Os 19 17 17 18,ou 15 19,Ij 20 15 0,Ij 21 15 1,oq 8 20,oq 9 21] (Iu [ou 22 8,oi 23 (IM 22),ou 24 23,IL 25 24 9,Ib 26 24 (IM 25),IV 27 24 Ih 26] 27 (IE (Te 6) 7 oY))) (I7 [ou 28 2,I6 29 49 28,oq 10 29] (Ot [ow 30 6 4,I4 31 30,IP 32 31,IQ 33] 0 [I5 34 33 32] 34 0 1 [Ii 35 7 31 33,oS 36 7 35,o4 12 [ov,ov,ov,oB,.nils,ov,ov],o3 7 12 36] (Ou [OP 38 12,OT 39 38,ou 40 2,Os 41 16 39 40,ou 37 41,Ij 42 37 0,Ij 43 37 1,oq 13 42,oq 14 43] [ou 44 14,oi 45 (IM 44),ou 46 45,I8 47 46 0 12,I9 48 46 47,Ib 49 46 (OB .lss 48),Im 50 46 Ih 49,ou 51 50,I8 52 51 0 12,I9 53 51 52,IL 54 51 2,Ib 55 51 (.len 54),Ib 56 51 (.bin .geq 53 55),IV 57 51 Ih 56] 57 (IE (Te 6) 7 oY) (.ops [ou 58 10,Ov 59 12,oz 60 59,ou 61 13,Ii 62 1 58 60,o3 1 62 61])) 63 33 1 33 63) [ou 64 10,oS 65 3 3,ou 66 10,Os 67 25 65 66,oq 6 64,oq 7 67]))
def jn4:XF:=⟨[0,1,2],jiV,[(.t 6),(.t 7)]⟩
theorem jsk:jy Qaf 45=some jn4:=by kernel_rfl
def jiR:XC:=(I7 [Te 2] (Iu [Iv 3,om 4 (.gen .eql 30 true 3 (.c .nils))] 4 [Te 2]) [Io 5 0 1 [ov] [],Iv 6,OL 7 1 8 5 6,OI 7])
def jn0:XF:=⟨[0],jiR,[(.t 2)]⟩
theorem jsg:jy Qaf 49=some jn0:=by kernel_rfl
def jiS:XC:=(Ou [O7] [Iv 6,IR 7 6,OM 8,IR 9 8,om 10 (.bin .neq 7 9)] 10 [O7] (Ti (Oh [Iv 11,IP 12 11,IQ 13] 0 [I5 14 13 12] 14 0 1 (o0 (IE (ou 15 13) 5 15) (.cops [Th 16,Iw (OV 17),Iw (Ii 18 1 16 17),OK 19 18,Iw (OM 20),Iw (OV 21),Iw (Ii 22 1 20 21),OK 23 22,Iw (om 24 (.bin .neq 19 23))]) (O3 24 [O7] .skip)) 25 13 1 13 25) [ON Ih]))
def jn1:XF:=⟨[0,1],jiS,[(.t 4)]⟩
theorem jsh:jy Qaf 48=some jn1:=by kernel_rfl
def jiT:XC:=(Oi [On 3] [Iv 4,oz 5 1,Os 6 48 4 5,oq 3 6])
def jn2:XF:=⟨[0,1],jiT,[(.t 3)]⟩
theorem jsi:jy Qaf 47=some jn2:=by kernel_rfl
def jiU:XC:=(Oi [O7] [Iv 5,OM 6,Os 7 63 5 6,O1 8 .geq 7,ON 8])
def jn3:XF:=⟨[0,1],jiU,[(.t 4)]⟩
theorem jsj:jy Qaf 46=some jn3:=by kernel_rfl
def jiP:XC:=(I7 [IQ 4] (Ot [Iv 6,IP 7 6,IQ 8] 0 [I5 9 8 7] 9 0 1 (IE (ou 10 8) 5 10) (Iu [OM 11,Iv 12,OV 13,Ii 14 1 12 13,oz 15 14,oC 16 true none 11 [15]] 16 (IE (OV 17) 4 17)) 18 8 1 8 18) [Or 4 (-(0+1))])
def jnY:XF:=⟨[0,1],jiP,[(.t 4)]⟩
theorem jse:jy Qaf 63=some jnY:=by kernel_rfl
def ji1:XC:=(Ou [IB 2 0,Te 4] [oS 10 3 2,OM 11,Os 12 25 10 11,om 13 (IM 12)] 13 [Te 4] (o0 [Te 5] (Ot [ow 14 2 2,I4 15 14,IP 16 15,IQ 17] 0 [I5 18 17 16] 18 0 1 [Ii 19 7 15 17,oS 20 7 19,o4 7 [ov,ov,oB,.nils,ov,ov,.nils],o3 7 7 20] (oj [oS 22 3 2,oS 23 7 7,OM 24,Id 25 45 [22,23,24],ou 21 25,Ij 26 21 0,Ij 27 21 1,o4 8 [.nils],o3 1 8 26,oq 9 27] (Oj [ou 28 9,ou 29 28,I3 30 29 5,Ic 31 29 (.fn 47 [8]),Oq 32 (29,true) 46 [] [30,31],Ic 33 29 (IM 32),IV 34 29 33 oY] 34 [OV 35,oz 36 8,Io 37 1 1 [.nils] [((0,1),36)],OL 38 1 24 35 37,oq 5 38])) 39 17 1 17 39) (Ti (Oj [OV 40,IR 41 40,O4 42 .eql 41] 42 [OV 43,OM 44,I6 45 49 44,Io 46 1 1 [.nils] [((0,1),45)],OL 47 1 24 43 46,oq 5 47]) (IE (OV 48) 4 48))))
def joa:XF:=⟨[0,1],ji1,[(.t 4)]⟩
theorem jsq:jy Qaf 27=some joa:=by kernel_rfl
def jiQ:XC:=(Oi [On 3] [Iv 4,oz 5 1,Os 6 48 4 5,oq 3 6])
def jnZ:XF:=⟨[0,1],jiQ,[(.t 3)]⟩
theorem jsf:jy Qaf 51=some jnZ:=by kernel_rfl
def jiZ:XC:=(Oi [IB 3 0,IB 5 2,On 6] [oS 7 3 3,OM 8,Os 9 27 7 8,oi 10 (.fn 51 [5]),Os 11 46 9 10,oq 6 11])
def jn8:XF:=⟨[0,1,2],jiZ,[(.t 6)]⟩
theorem jso:jy Qaf 30=some jn8:=by kernel_rfl
def ji0:XC:=(Ou [O7] [Iv 6,IR 7 6,OM 8,IR 9 8,om 10 (.bin .neq 7 9)] 10 [O7] (Ti (Oh [Iv 11,IP 12 11,IQ 13] 0 [I5 14 13 12] 14 0 1 (o0 (IE (ou 15 13) 5 15) (.cops [Th 16,Iw (OV 17),Iw (Ii 18 1 16 17),OK 19 18,Iw (OM 20),Iw (OV 21),Iw (Ii 22 1 20 21),OK 23 22,Iw (om 24 (.bin .neq 19 23))]) (O3 24 [O7] .skip)) 25 13 1 13 25) [ON Ih]))
def jn9:XF:=⟨[0,1],ji0,[(.t 4)]⟩
theorem jsp:jy Qaf 29=some jn9:=by kernel_rfl
def jiY:XC:=(I7 [O7] (Ot [oq 7 0,IP 8 7,IQ 9] 0 [I5 10 9 8] 10 0 1 [Ii 11 1 7 9,oz 12 11,oq 6 12] (Iu [Tg 13,OM 14,oC 15 true none (oJ 29 []) [13,14]] 15 [ON Ih]) 16 9 1 9 16) [O7])
def jn7:XF:=⟨[0,1],jiY,[(.t 4)]⟩
theorem jsn:jy Qaf 32=some jn7:=by kernel_rfl
def ji6:XC:=(oj (IE (IB 2 0) 4 oY) (I7 [OM 7,IR 8 7,Ov 9 2,oz 10 9,IR 11 10,IJ 12 .eql 8 11,oq 5 12] (IS [IQ 6] 0 (.seq (oG [OV 13,ou 14 13,I3 15 14 6,I3 16 14 1,Ic 17 14 (.len 16),Ic 18 14 (ID 15 17),IV 19 14 18 oY] 19 .skip (.exit 0)) (Il 1 (.cops [Iw (Ov 22 2),OK 23 22,Iw (Tg 24),Iw (Ii 25 7 23 24),Iw (OS 26 25),OK 27 26,Iw (OM 28),Iw (Tg 29),Iw (Ii 30 1 28 29),OK 31 30,Iw (IJ 32 .leq 27 31),Iw (ou 33 32),Iw (I3 34 33 1),Iw (I3 35 33 6),Iw (Ic 36 33 (.idxS 1 34 35)),Iw (Ow 37 33 36),Iw (Oy 38 33 0 2),Iw (Ow 39 33 38),Iw (I3 40 33 6),Iw (Ic 41 33 (.idxS 7 39 40)),Iw (Oy 42 33 4 41),Iw (Ow 43 33 42),Iw (Ic 44 33 (.bin .leq 37 43)),Iw (Td 45 33 44),Iw (oq 5 45)]) (.ops [Tg 20,IK 21 20 1,oq 6 21])))) (IE (OV 46) 4 46)))
def jof:XF:=⟨[0,1],ji6,[(.t 4)]⟩
theorem jsv:jy Qaf 13=some jof:=by kernel_rfl
def jiX:XC:=(Ou [IB 4 0,IB 5 1,On 8] [oS 12 3 4,ou 13 2,Os 14 13 12 13,oi 15 (IM 14),ou 16 15,Ib 17 16 (.ldA 3 4),IL 18 16 3,Oq 19 (16,false) 13 [] [17,18],Ib 20 16 (IM 19),Im 21 16 Ih 20,ou 22 21,I8 23 22 0 5,Ib 24 22 (.ldA 6 23),IL 25 22 2,Oq 26 (22,false) 18 [] [24,25],OU 27 22 .neq 26 1,IV 28 22 Ih 27] 28 [On 8] (I7 [Io 29 0 1 [ov] [],ou 30 2,OL 31 1 8 29 30,oq 9 31] (Ot [ow 32 6 5,I4 33 32,IP 34 33,IQ 35] 0 [I5 36 35 34] 36 0 1 [Ii 37 7 33 35,oS 38 7 37,o4 11 [ov,ov,ov,oB,.nils,ov,ov],o3 7 11 38] (.dops [Iy (ou 39 9),IA 40 0 11,O2 41 40 40 3,IA 42 1 11,Oz 43 6 42 42 29 [],Iy (ou 44 2),(Iq (Os 45 18 43 44) 0 [(3,3)],Ox),Iy (Ii 46 1 39 41),Tf 1 46 45 []]) 47 35 1 35 47) [ou 48 9,ou 49 3,Os 50 29 48 49,oq 8 50]))
def jn6:XF:=⟨[0,1,2,3],jiX,[(.t 8)]⟩
theorem jsm:jy Qaf 33=some jn6:=by kernel_rfl
def ji3:XC:=(Ou [IB 2 0,IQ 4] [Ov 8 2,oz 9 8,OJ 10 .eql 9 4] 10 [OM 11,OP 12 2,oz 13 12,Ii 14 1 11 13,oz 15 14,ON 15] (.seq (Iu [OS 16 2,oz 17 16,IR 18 17,O4 19 .eql 18] 19 [OP 20 2,oz 21 20,ON 21]) (OQ [OS 22 2,oz 23 22,Ii 24 6 23 Ol,OT 25 24,OM 26,Os 27 18 25 26,oq 5 27] [OS 28 2,oz 29 28,OS 30 2,oz 31 30,IR 32 31,o6 33 .sub 32 1,Ii 34 6 29 33,OT 35 34,OM 36,Os 37 18 35 36,oq 6 37] (o0 [On 7] (oj [Ov 38 2,I4 39 38] (.block 0 (OA 41 39 5 40 41 40 [OV 42,oi 43 (.un .neg 42),ON 43] (OA 45 39 14 44 45 44 [OV 46,Tg 47,IJ 48 .mul 46 47,ON 48] (OA 50 39 15 49 50 49 [OV 51,Tg 52,IJ 53 .add 51 52,ON 53] (OA 55 39 16 54 55 54 [OV 56,Tg 57,IJ 58 .sub 56 57,ON 58] (IT 60 39 6 59 60 59 (.ops [OV 61,O1 62 .eql 61,oq 7 62]) (.seq (IT 64 39 17 63 64 63 .skip (IG (Iz 65 39 30) 63 65)) (.cond 63 (.ops [OV 66,Tg 67,IJ 68 .eql 66 67,oq 7 68]) (IT 70 39 18 69 70 69 (.ops [OV 71,Tg 72,IJ 73 .neq 71 72,oq 7 73]) (IT 75 39 19 74 75 74 (.ops [OV 76,Tg 77,oi 78 (ID 76 77),oq 7 78]) (IT 80 39 20 79 80 79 (.ops [OV 81,Tg 82,IJ 83 .leq 81 82,oq 7 83]) (IT 85 39 21 84 85 84 (.ops [OV 86,Tg 87,IJ 88 .gtr 86 87,oq 7 88]) (IT 90 39 22 89 90 89 (.ops [OV 91,Tg 92,IJ 93 .geq 91 92,oq 7 93]) (IT 95 39 27 94 95 94 (.ops [OV 96,Iz 97 96 1,ou 98 97,I3 99 98 6,OZ 100 98 .eql 99 1,Td 101 98 100,oq 7 101]) (IT 103 39 28 102 103 102 (.ops [OV 104,Iz 105 104 1,ou 106 105,IL 107 106 6,OU 108 106 .eql 107 1,Im 109 106 Ih 108,oq 7 109]) (Oj (IE (Iz 111 39 29) 110 111) 110 [OV 112,O1 113 .eql 112,ou 114 113,IL 115 114 6,OU 116 114 .eql 115 1,Im 117 114 Ih 116,oq 7 117]))))))))))))))))) (Ti (Iu [oq 118 7] 118 [Or 4 1]) [IQ 4])))))
def joc:XF:=⟨[0,1],ji3,[(.t 4)]⟩
theorem jss:jy Qaf 18=some joc:=by kernel_rfl
def ji7:XC:=(oj [IB 1 0,o4 2 [.nils,.nils,.nils],On 3] (Ou [oS 10 3 1,I6 11 35 10,ou 9 11,Ij 12 9 0,Ij 13 9 1,ON 12,oq 5 13] [OV 14,O1 15 .neq 14,ou 16 15,IL 17 16 4,Ib 18 16 (.lenS 17),OU 19 16 .gtr 18 5000,IV 20 16 Ih 19] 20 [Ir 21 [.nils,.nils,.nils] [],o3 3 2 21,On 3] (o0 [OY 23,Os 24 34 23 (oM [116,114,117,101]),ou 22 24,Ij 25 22 0,Ij 26 22 1,Ij 27 22 2,o4 6 [.nils,.nils,.nils],oi 7 (.alloc (OC ov ov oB ov ov)),o4 8 [ov,ov,ov],o3 3 6 25,o3 6 7 26,o3 3 8 27] (.dops [Oz 28 3 6 6 35 [],Oz 29 3 8 8 45 [],Iy (Ir 30 [ov,ov,ov] []),Iy (oi 31 (.gen .eql 45 false 29 30)),Iy (ou 32 31),It (Ic 33 32 (.ldA 3 6)) 6 35 [],(Iq (Oq 34 (32,true) 36 [] [33]) 0 [(5,35)],Ox),Iy (OZ 35 32 .leq 34 300),Iy (Td 36 32 35),Tf 3 2 28 [],Iy (oq 3 36)]) .ret)))
def jog:XF:=⟨[0],ji7,[(.cA 2 3),(.t 3)]⟩
theorem jsw:jy Qaf 10=some jog:=by kernel_rfl
def zs7:XC:=(Ou (IE (IB 2 0) 4 oY) [Id 13 9 [],om 14 (IM 13)] 14 [O7] (Ou [oS 16 3 2,I6 17 10 16,ou 15 17,Ij 18 15 0,Ij 19 15 1,o4 5 [.nils,.nils,.nils],o3 3 5 18,oq 6 19] [Tg 20,oi 21 (IM 20),ou 22 21,Ib 23 22 (.ldA 3 5),IL 24 22 1,Oq 25 (22,false) 25 [] [23,24],Ib 26 22 (IM 25),IV 27 22 Ih 26] 27 [ON Ih] (Ou [oS 28 3 5,OM 29,Os 30 27 28 29,oq 7 30] [ou 31 7,IR 32 31,O1 33 .eql 32,ou 34 33,IL 35 34 7,Ib 36 34 (.len 35),I8 37 34 2 5,I9 38 34 37,Ib 39 34 (.len 38),Ib 40 34 (.bin .gtr 36 39),IL 41 34 40,I3 42 41 7,Ic 43 41 (.len 42),OZ 44 41 .neq 43 1,Ib 45 34 (.pick 41 44 oY),IV 46 34 Ih 45] 46 [O7] (Ti (Oh [oq 47 7,IP 48 47,IQ 49] 0 [I5 50 49 48] 50 0 1 (Ou [ou 51 49,Ii 52 1 47 49,oz 53 52,oq 8 51,oq 9 53] [oS 54 3 5,ou 55 9,Os 56 25 54 55,oi 57 (IM 56),ou 58 57,Ib 59 58 (.ldA 3 5),IL 60 58 1,IL 61 58 9,Oq 62 (58,false) 30 [] [59,60,61],Ib 63 58 (IM 62),Im 64 58 Ih 63,ou 65 64,IL 66 65 7,IL 67 65 8,Ib 68 65 (.slS 1 66 none (some 67)),IL 69 65 9,Oq 70 (65,false) 32 [] [68,69],IV 71 65 Ih 70] 71 [O7] (o0 [On 10] (Ot [ow 72 2 5,I4 73 72,IP 74 73,IQ 75] 2 [I5 76 75 74] 76 2 3 [Ii 77 7 73 75,oS 78 7 77,o4 12 [ov,ov,oB,.nils,ov,ov,.nils],o3 7 12 78] (.ops [ou 79 10,ou 80 79,Ib 81 80 (.ldA 3 5),Ib 82 80 (.ldA 7 12),IL 83 80 1,IL 84 80 9,Oq 85 (80,false) 33 [] [81,82,83,84],Im 86 80 Ih 85,oq 10 86]) 87 75 1 75 87) (Iu [ou 88 10,oi 89 (IM 88),ou 90 89,I3 91 90 7,Ic 92 90 (.len 91),OZ 93 90 .neq 92 1,I3 94 90 93,IL 95 94 1,IL 96 94 9,Oq 97 (94,false) 29 [] [95,96],Ib 98 94 (IM 97),Ic 99 90 (.pick 94 Ih 98),IV 100 90 99 oY] 100 [O7]))) 101 49 1 49 101) [ON Ih]))))
def ys7:XF:=⟨[0,1],zs7,[(.t 4)]⟩
theorem xs7:jy Qaf 7=some ys7:=by kernel_rfl
end Go.Sy
end
noncomputable section
set_option maxRecDepth 100000
namespace Go.Sy
open Go.Ev Go.Proofs
variable {base:Bs}
def svV (s:List Int):AV:=.lst s.length (s.map (.int .i64))
theorem jpt (s:List Int):pc (svV s)=true:=by
 have:(s.map (AV.int .i64)).all pc=true:=by simp[pc]
 simp[svV,pc,this]
theorem jrh (k:Int)(h : -9223372036854775808<=k)(h2:k<=9223372036854775807):wq k=k:=Zr h h2
section
variable {st:St} {K:AV->St->Prop}
theorem jlh (a b:Int):jl (Jg .add (.int .i64 a) (.int .i64 b) st) K=K (.int .i64 (wq (a+b))) st:=rfl
theorem jeH (a b:Int):jl (Jg .sub (.int .i64 a) (.int .i64 b) st) K=K (.int .i64 (wq (a - b))) st:=rfl
theorem jlg (a b:Int):jl (Jg .mul (.int .i64 a) (.int .i64 b) st) K=K (.int .i64 (wq (a * b))) st:=rfl
theorem jlf (a:Int):jl (unV .neg (.int .i64 a) st) K=K (.int .i64 (wq (-a))) st:=by
 have e:IntKind.i64.wrap (0 - a)=wq (-a):=by rw[<-Yj,Int.zero_sub];rfl
 simp only[unV,XZ,O,e,jl]
end
theorem jr6 (hb:NB base)(q:Bool):Tot base 61 [.bool q] (.int .i64 (if q=true then 1 else 0)):=by
 refine hb.tot ?_ rfl rfl;cases q with
 |true=>
  refine jE jo0 (by rfl) (hb.pur 61 1 (by decide)) ?_;simp only[jjP,jt,Qai,Qaj,Qag,Qah];rw[(by unfold jaM;simp only[qq];rfl:jaM=_)];repeat'(first|(apply jc<;>intro _)|simp(disch:=first|exact dzG|fail) only[je,ji,jh,jd,jm,jn,jp,jq,jo,rzZ,Qab,Qac,Qad,Qaa,Qae])
  exact G0.v rfl rfl
 |false=>
  refine jE jo0 (by rfl) (hb.pur 61 1 (by decide)) ?_;simp only[jjP,jt,Qai,Qaj,Qag,Qah];rw[(by unfold jaM;simp only[qq];rfl:jaM=_)];repeat'(first|(apply jc<;>intro _)|simp(disch:=first|exact dzG|fail) only[je,ji,jh,jd,jm,jn,jp,jq,jo,rzZ,Qab,Qac,Qad,Qaa,Qae])
  exact G0.v rfl rfl
def tpO (o:Option Int):AV:=.tup [.int .i64 (o.getD 0),.bool o.isSome]
theorem Zx {s:St}{o:Option Int}{x:Int}{q:Bool}(h1:x=o.getD 0)(h2:q=o.isSome):G0 (tpO o) (.tup [.int .i64 x,.bool q]) s:=by
 subst h1 h2;exact FzD.tup (.cons (.pc rfl) (.cons (.pc rfl) .nil))
set_option maxHeartbeats 4000000 in
theorem jrK (hb:NB base)(op a b:Int):Tot base 42 [.int .i64 op,.int .i64 a,.int .i64 b] (tpO (jbd op a b)):=by
 refine hb.tot ?_ rfl rfl;have B:=jr6 hb;refine jE jsl (by rfl) (hb.pur 42 1 (by decide)) ?_;simp only[jn5,jt,Qai,Qaj,Qag,Qah];rw[(by unfold jiW;simp only[qq];rfl:jiW=_)];repeat'(first|(apply jc<;>intro _)|simp(disch:=first|exact dzG|fail) only[B,jlh,jeH,jlg,je,ji,jh,jd,jm,jn,jp,jq,jo,rzZ,Qab,Qac,Qad,Qaa,Qae])
 all_goals(refine Zx ?_ ?_<;>simp[jbd,Qd,Int.min_def,Int.max_def, *])
theorem JJ {vars:List VarT}{s:List Int}:qU vars s=true↔s.length=vars.length/\∀ i (h1:i<vars.length) (h2:i<s.length),vars[i].lo<=s[i]/\s[i]<=vars[i].hi:=by
 unfold qU;rw[Qar,decide_eq_true_eq,QaA];refine⟨λ⟨a,b⟩=>⟨a,λi h1 h2=>?_⟩,λ⟨a,b⟩=>⟨a,λi hi=>?_⟩⟩
 ·have:=b i (QcA.2 h1);rw[Qax,Qau h1,Qax,Qau h2] at this;simpa using this
 ·have h1:=QcA.1 hi;have:=b i h1 (by omega);rw[Qax,Qau h1,Qax,Qau (show i<s.length by omega)];simpa using this
theorem ZQ {vars:List VarT}{s:List Int}(h:¬ (s.length=vars.length/\∀ i (h1:i<vars.length) (h2:i<s.length),vars[i].lo<=s[i]/\s[i]<=vars[i].hi)):qU vars s=false:=by
 rw[Bool.eq_false_iff];exact λk=>h (JJ.1 k)
set_option maxHeartbeats 4000000 in
theorem ke (hb:NB base)(m:ModT)(sv:List Int)(hm:m.vars.length<=1000000)(hs:sv.length<=1099511627776):PL Qaf base 25 [.agg (mdE m),svV sv] (.ok (.bool (qU m.vars sv))):=by
 unfold svV;have hl:((sv.length:Int)=(m.vars.length:Int))=(sv.length=m.vars.length):=by rw[eq_iff_iff];omega
 refine Jr jsr (by rfl) (hb.pur 25 5 (by decide)) rfl ?_;simp only[job,jt,Qai,Qaj,Qag,Qah];rw[(by unfold ji2;simp only[qq];rfl:ji2=_)];repeat'(first|(apply jc<;>intro _)|simp(disch:=first|exact dzG|fail) only[hl,je,ji,jh,jd,jm,jn,jp,jq,jo,rzZ,Qab,Qac,Qad,Qaa,Qae])
 ·rename_i h;exact G0.v (congrArg AV.bool (ZQ λk=>h k.1).symm) rfl
 ·rename_i h;have h:sv.length=m.vars.length:=by simpa using h
  refine qb m.vars.length (λk L st=>(∀ j (h1:j<m.vars.length) (h2:j<sv.length),j<k->m.vars[j].lo<=sv[j]/\sv[j]<=m.vars[j].hi)/\1<=st.nx/\Has L 1 (.lst sv.length (sv.map (.int .i64)))/\Has L 14 (.lst m.vars.length (fl vaE m.vars))) (by first|assumption|omega) (by decide) (by simp(disch:=decide) only[jf,jb]) (by simp(disch:=decide) only[jf,jb]) ?_ (λk L s v h=>(by obtain⟨a1,a2,a3,a4⟩:=h;refine⟨a1,a2,?_,?_⟩<;>simp(disch:=decide) only[jb]<;>assumption)) (λk L s v h=>(by obtain⟨a1,a2,a3,a4⟩:=h;refine⟨a1,a2,?_,?_⟩<;>simp(disch:=decide) only[jb]<;>assumption)) (λk L s hk hI hi hn=>?_) (λL s hI=>?_)
  ·refine⟨λj h1 h2 hj=>absurd hj (QaZ _),by(first|omega|(simp only[jg,jj,ju,jr,jk];first|done|omega)),?_,?_⟩<;>simp(disch:=decide) only[jb,jf]
  ·obtain⟨h0,n1,i1,i14⟩:=hI;have hks:k<sv.length:=by omega
   repeat'(first|(apply jc<;>intro _)|simp(disch:=first|exact dzG|fail) only[ja i1,ja i14,ja hi,ja hn,XN,je,ji,jh,jd,jm,jn,jp,jq,jo,rzZ,Qab,Qac,Qad,Qaa,Qae])
   ·rename_i h3;refine G0.v (congrArg AV.bool (ZQ λw=>?_).symm) rfl;have:=(w.2 k hk hks).1;omega
   ·rename_i h3 h4;refine G0.v (congrArg AV.bool (ZQ λw=>?_).symm) rfl;have:=(w.2 k hk hks).2;omega
   ·rename_i h3 h4;refine⟨⟨λj h1 h2 hj=>?_,by omega,?_,?_⟩,?_,?_⟩
    ·by_cases e:j=k
     ·subst e;omega
     ·exact h0 j h1 h2 (by omega)
    all_goals(simp(disch:=decide) only[jb];assumption)
  ·obtain⟨h0,n1,i1,i14⟩:=hI;repeat'(first|(apply jc<;>intro _)|simp(disch:=first|exact dzG|fail) only[je,ji,jh,jd,jm,jn,jp,jq,jo,rzZ,Qab,Qac,Qad,Qaa,Qae])
   exact G0.v (congrArg AV.bool (JJ.2 ⟨h,λi h1 h2=>h0 i h1 h2 h1⟩).symm) rfl
set_option maxHeartbeats 4000000 in
theorem jnx (hb:NB base)(a b:List Int)(ha:a.length<=1099511627776)(hb2:b.length<=1099511627776):PX Qaf base 48 [svV a,svV b] (.ok (.bool (decide (a=b)))):=by
 unfold svV;have hl:((a.length:Int)=(b.length:Int))=(a.length=b.length):=by rw[eq_iff_iff];omega
 refine jE jsh (by rfl) (hb.pur 48 1 (by decide)) ?_;simp only[jn1,jt,Qai,Qaj,Qag,Qah];rw[(by unfold jiS;simp only[qq];rfl:jiS=_)];repeat'(first|(apply jc<;>intro _)|simp(disch:=first|exact dzG|fail) only[hl,je,ji,jh,jd,jm,jn,jp,jq,jo,rzZ,Qab,Qac,Qad,Qaa,Qae])
 ·rename_i h;exact G0.v (congrArg AV.bool (decide_eq_false λk=>h (by rw[k])).symm) rfl
 ·rename_i h;have h:a.length=b.length:=by simpa using h
  refine qb a.length (λk L st=>(∀ j (h1:j<a.length) (h2:j<b.length),j<k->a[j]=b[j])/\Has L 0 (.lst a.length (a.map (.int .i64)))/\Has L 1 (.lst b.length (b.map (.int .i64)))) (by first|assumption|omega) (by decide) (by simp(disch:=decide) only[jf,jb]) (by simp(disch:=decide) only[jf,jb]) ?_ (λk L s v h=>by simp(disch:=decide) only[jb];exact h) (λk L s v h=>by simp(disch:=decide) only[jb];exact h) (λk L s hk hI hi hn=>?_) (λL s hI=>?_)
  ·refine⟨λj h1 h2 hj=>absurd hj (QaZ _),?_,?_⟩<;>simp(disch:=decide) only[jb,jf]
  ·obtain⟨h0,i0,i1⟩:=hI;have hks:k<b.length:=by omega
   repeat'(first|(apply jc<;>intro _)|simp(disch:=first|exact dzG|fail) only[ja i0,ja i1,ja hi,ja hn,XN,je,ji,jh,jd,jm,jn,jp,jq,jo,rzZ,Qab,Qac,Qad,Qaa,Qae])
   ·rename_i h3;exact G0.v (congrArg AV.bool (decide_eq_false λw=>h3 (by subst w;rfl)).symm) rfl
   ·rename_i h3;refine⟨⟨λj h1 h2 hj=>?_,?_,?_⟩,?_,?_⟩
    ·by_cases e:j=k
     ·subst e;simpa using h3
     ·exact h0 j h1 h2 (by omega)
    all_goals(simp(disch:=decide) only[jb];assumption)
  ·obtain⟨h0,i0,i1⟩:=hI;repeat'(first|(apply jc<;>intro _)|simp(disch:=first|exact dzG|fail) only[je,ji,jh,jd,jm,jn,jp,jq,jo,rzZ,Qab,Qac,Qad,Qaa,Qae])
   exact G0.v (congrArg AV.bool (decide_eq_true (QbI h λi h1 h2=>h0 i h1 h2 h1)).symm) rfl
end Go.Sy
end
noncomputable section
set_option maxRecDepth 100000
namespace Go.Sy
open Go.Ev Go.Proofs
variable {base:Bs}
theorem jj6 (sv:List Int)(x:Ex):yz sv x=match qM sv x.kids with|none=>none|some ns=>opV sv x.op x.num ns:=by cases x;rw[yz];rfl
theorem Wm {sv:List Int}:∀ {xs ys:List Ex} {ns:List Int},qM sv xs=some ns->qM sv (xs ++ ys)=match qM sv ys with|none=>none|some ms=>some (ns ++ ms)
 |[],ys,ns,h=>by
  rw[qM] at h;cases h;rw[QaF];cases qM sv ys<;>rfl
 |x :: xs,ys,ns,h=>by
  rw[qM] at h;rw[Qay,qM];cases h1:yz sv x with
  |none=>rw[h1] at h;cases h
  |some n=>
   rw[h1] at h;cases h2:qM sv xs with
   |none=>rw[h2] at h;cases h
   |some ms=>
    rw[h2] at h;cases h;rw[Wm h2];cases qM sv ys<;>rfl
theorem jj5 {sv:List Int}{xs:List Ex}{k:Nat}{ns:List Int}{n:Int}(hk:k<xs.length)(h:qM sv (xs.take k)=some ns)(h2:yz sv xs[k]=some n):qM sv (xs.take (k+1))=some (ns ++ [n]):=by
 rw[yE hk,Wm h];simp[qM,h2]
theorem GC {sv:List Int}{xs:List Ex}{k:Nat}{ns:List Int}(hk:k<xs.length)(h:qM sv (xs.take k)=some ns)(h2:yz sv xs[k]=none):qM sv xs=none:=by
 have e:xs=xs.take k ++ (xs[k] :: xs.drop (k+1)):=by rw[<-Qcb hk,Qbs]
 rw[e,Wm h];simp[qM,h2]
set_option maxHeartbeats 8000000 in
theorem jel (hb:NB base)(sv:List Int)(hs:sv.length<=1099511627776):∀ x:Ex,szE x<=BIG->Tot base 16 [.agg (eE x),svV sv] (tpO (yz sv x)):=by
 refine Ex.indk λx ih hx=>?_;refine hb.tot ?_ (by unfold svV;simp[pa,pc,qY,yM]) rfl;have hd:=jj6 sv x;have hz:=XO x;generalize hks:x.kids=ks at *;have hlen:=Yl ks;unfold BIG at *;unfold svV at *;refine jE jsu (by rfl) (hb.pur 16 1 (by decide)) ?_;simp only[joe,jt,Qai,Qaj,Qag,Qah];rw[(by unfold ji5;simp only[qq];rfl:ji5=_)];repeat'(first|(apply jc<;>intro _)|simp(disch:=first|exact dzG|fail) only[hks,je,ji,jh,jd,jm,jn,jp,jq,jo,rzZ,Qab,Qac,Qad,Qaa,Qae])
 refine qb ks.length (λk L s=>(∃ ns v,qM sv (ks.take k)=some ns/\ns.length=k/\Lv 1 s.nx s v k (ns.map (.int .i64)) 1/\Has L 6 v)/\1<=s.nx/\Cl s 0 (eE x)/\Has L 1 (.lst sv.length (sv.map (.int .i64)))/\Has L 2 (.ptr 0 0)/\Has L 12 (.lst ks.length (fl eE ks))) (by first|assumption|omega) (by decide) (by simp(disch:=decide) only[jf,jb]) (by simp(disch:=decide) only[jf,jb]) ?_ (λk L s v h=>(by obtain⟨⟨ns,v,a1,a2,a3,a4⟩,a5,a6,a7,a8,a9⟩:=h;refine⟨⟨ns,v,a1,a2,a3,?_⟩,a5,a6,?_,?_,?_⟩<;>simp(disch:=decide) only[jb]<;>assumption)) (λk L s v h=>(by obtain⟨⟨ns,v,a1,a2,a3,a4⟩,a5,a6,a7,a8,a9⟩:=h;refine⟨⟨ns,v,a1,a2,a3,?_⟩,a5,a6,?_,?_,?_⟩<;>simp(disch:=decide) only[jb]<;>assumption)) (λk L s hk hI hi hn=>?_) (λL s hI=>?_)
 ·refine⟨⟨[],.nils,rfl,rfl,Lv.nil,?_⟩,by(first|omega|(simp only[jg,jj,ju,jr,jk];first|done|omega)),by(first|exact cyG|fail),?_,?_,?_⟩<;>simp(disch:=decide) only[jb,jf]
 ·obtain⟨⟨ns,v,h1,h2,V,i6⟩,n1,C0,i1,i2,i12⟩:=hI;have hk2:=Xj hk;have e:=ih ks[k] (Qat hk) (by omega);cases hv:yz sv ks[k] with
  |none=>
   rw[hv] at e;have e:Tot base 16 [.agg (eE ks[k]),.lst sv.length (sv.map (.int .i64))] (.tup [.int .i64 0,.bool false]):=e
   (have zz:=C0.r;(repeat'(first|(apply jc<;>intro _)|simp(disch:=first|exact jY|fail) only[ja i1,ja i2,ja i6,ja i12,ja hi,ja hn,e,C0.q,C0.r,je,ji,jh,jd,jm,jn,jp,jq,jo,rzZ,Qab,Qac,Qad,Qaa,Qae]));(all_goals(clear zz)))
   exact Zx (by rw[hd,GC hk h1 hv];rfl) (by rw[hd,GC hk h1 hv];rfl)
  |some n=>
   rw[hv] at e;have e:Tot base 16 [.agg (eE ks[k]),.lst sv.length (sv.map (.int .i64))] (.tup [.int .i64 n,.bool true]):=e;obtain⟨m,hm⟩:∃ m,m=s.nx:=⟨_,rfl⟩;rw[<-hm] at V;have A:=λst bv xc xx K h hv=>@J0 1 m k 1 st v (ns.map (.int .i64)) K 8 bv xc xx h (by decide) (by omega) (by omega) hv;have V2:∀ st m',Lv 1 m st v k (ns.map (.int .i64)) 1->1<=st.nx->m'=st.nx+1->Lv 1 m' (aps v st [.int .i64 n]) (apv 1 v st) (k+1) ((ns ++ [n]).map (.int .i64)) 1:=λst m' h h2 h3=>by
    rw[QbV];exact h.put rfl h2 h3
   (have zz:=aI V.ln (aI @jA (aI @jF (aI @V C0.r)));(repeat'(first|(apply jc<;>intro _)|simp(disch:=first|exact jY|fail) only[ja i1,ja i2,ja i6,ja i12,ja hi,ja hn,e,A,V.at,C0.q,V.ln,jA,jF,V,C0.r,je,ji,jh,jd,jm,jn,jp,jq,jo,rzZ,Qab,Qac,Qad,Qaa,Qae]));(all_goals(clear zz)))
   refine⟨⟨⟨ns ++ [n],_,jj5 hk h1 hv,by simp[h2],V2 _ _ ?_ ?_ ?_,?_⟩,?_,?_,?_,?_,?_⟩,?_,?_⟩;all_goals first
    |(simp(disch:=decide) only[jb,jf];done)
    |(simp(disch:=decide) only[jb];assumption)
    |(simp(disch:=first|decide|omega|(simp only[jg,jj];omega)) only[jG,jA,jF];exact V)
    |(simp(disch:=first|decide|omega|(simp only[jg,jj];omega)) only[V.cl,jB,jD];exact C0)
    |(simp only[jg,jj];done)
    |(simp only[jg,jj];omega)
    |omega
    |rfl
 ·obtain⟨⟨ns,v,h1,h2,V,i6⟩,n1,C0,i1,i2,i12⟩:=hI;rw[Qaz] at h1;rw[h1] at hd;dsimp only at hd;unfold opV at hd;rcases V with ⟨rfl,h0,_⟩|⟨b,rfl,h0,_,C,hb1,hb2⟩
  ·have hn0:ns=[]:=List.length_eq_zero_iff.1 (by omega);subst hn0;have z1:¬ ((0:Nat)=1):=by decide
   by_cases g1:x.op=1\/x.op=2
   ·rw[if_pos ⟨rfl,g1⟩] at hd
    (have zz:=C0.r;(repeat'(first|(apply jc<;>intro _)|simp(disch:=first|exact jY|fail) only[ja i1,ja i2,ja i6,g1,C0.q,C0.r,je,ji,jh,jd,jm,jn,jp,jq,jo,rzZ,Qab,Qac,Qad,Qaa,Qae]));(all_goals(clear zz)))
    all_goals first|exact Zx (by rw[hd];rfl) (by rw[hd];rfl)|(exfalso;omega)
   ·rw[if_neg (λh=>g1 h.2)] at hd;by_cases g2:x.op=4/\0<=x.num/\x.num<(sv.length:Int)
    ·rw[if_pos ⟨rfl,g2⟩] at hd;obtain⟨g2,g3,g4⟩:=g2;have g5:x.num.toNat<sv.length:=by omega
     have eL:∀ (st:St) (K:AV->St->Prop),jl (qX (.lptr (sv.map (AV.int .i64)) x.num.toNat) st) K=K (.int .i64 sv[x.num.toNat]) st:=λst K=>XN g5
     (have zz:=C0.r;(repeat'(first|(apply jc<;>intro _)|simp(disch:=first|exact jY|fail) only[ja i1,ja i2,ja i6,g2,g3,g4,eL,C0.q,C0.r,je,ji,jh,jd,jm,jn,jp,jq,jo,rzZ,Qab,Qac,Qad,Qaa,Qae]));(all_goals(clear zz)))
     all_goals first|exact Zx (by rw[hd,Qax,Qau g5];rfl) (by rw[hd];rfl)|(exfalso;omega)
    ·rw[if_neg (λh=>g2 h.2),if_neg (λh=>by simp at h),if_neg (λh=>by simp at h),if_neg (by simp)] at hd
     (have zz:=C0.r;(repeat'(first|(apply jc<;>intro _)|simp(disch:=first|exact jY|fail) only[ja i1,ja i2,ja i6,C0.q,C0.r,je,ji,jh,jd,jm,jn,jp,jq,jo,rzZ,Qab,Qac,Qad,Qaa,Qae]));(all_goals(clear zz)))
     all_goals first|exact Zx (by rw[hd];rfl) (by rw[hd];rfl)|(exfalso;omega)
  ·have z0:¬ (ks.length:Int)=0:=by omega
   rw[if_neg (λh=>by omega),if_neg (λh=>by omega)] at hd;by_cases k1:ks.length=1
   ·have k1':(ks.length:Int)=1:=by omega
    have k2':¬ (ks.length:Int)=2:=by omega
    have f0:rat s.h b 0=.int .i64 (ns.getD 0 0):=by
     rw[C.cell 0 (by simp;omega)];simp[QaN,show 0<ns.length by omega]
    by_cases g5:x.op=5
    ·rw[if_pos ⟨by omega,g5⟩] at hd
     (have zz:=aI C.len C0.r;(repeat'(first|(apply jc<;>intro _)|simp(disch:=first|exact jY|fail) only[ja i1,ja i2,ja i6,z0,k1',g5,f0,jlf,C0.q,C.len,C0.r,je,ji,jh,jd,jm,jn,jp,jq,jo,rzZ,Qab,Qac,Qad,Qaa,Qae]));(all_goals(clear zz)))
     all_goals first|exact Zx (by rw[hd];rfl) (by rw[hd];rfl)
    ·rw[if_neg (λh=>g5 h.2)] at hd;by_cases g6:x.op=6
     ·rw[if_pos ⟨by omega,g6⟩] at hd
      (have zz:=aI C.len C0.r;(repeat'(first|(apply jc<;>intro _)|simp(disch:=first|exact jY|fail) only[ja i1,ja i2,ja i6,z0,k1',g5,g6,f0,jeH,C0.q,C.len,C0.r,je,ji,jh,jd,jm,jn,jp,jq,jo,rzZ,Qab,Qac,Qad,Qaa,Qae]));(all_goals(clear zz)))
      all_goals first|exact Zx (by rw[hd];rfl) (by rw[hd];rfl)
     ·rw[if_neg (λh=>g6 h.2),if_neg (by omega)] at hd
      (have zz:=C0.r;(repeat'(first|(apply jc<;>intro _)|simp(disch:=first|exact jY|fail) only[ja i1,ja i2,ja i6,z0,k1',k2',g5,g6,C0.q,C0.r,je,ji,jh,jd,jm,jn,jp,jq,jo,rzZ,Qab,Qac,Qad,Qaa,Qae]));(all_goals(clear zz)))
      all_goals first|exact Zx (by rw[hd];rfl) (by rw[hd];rfl)
   ·have k1':¬ (ks.length:Int)=1:=by omega
    rw[if_neg (λh=>by omega),if_neg (λh=>by omega)] at hd;by_cases k2:ks.length=2
    ·have k2':(ks.length:Int)=2:=by omega
     rw[if_pos (by omega)] at hd;have f0:rat s.h b 0=.int .i64 (ns.getD 0 0):=by
      rw[C.cell 0 (by simp;omega)];simp[QaN,show 0<ns.length by omega]
     have f1:rat s.h b 1=.int .i64 (ns.getD 1 0):=by
      rw[C.cell 1 (by simp;omega)];simp[QaN,show 1<ns.length by omega]
     have E2:=jrK hb x.op (ns.getD 0 0) (ns.getD 1 0);unfold tpO at E2
     (have zz:=aI C.len C0.r;(repeat'(first|(apply jc<;>intro _)|simp(disch:=first|exact jY|fail) only[ja i1,ja i2,ja i6,z0,k1',k2',f0,f1,E2,C0.q,C.len,C0.r,je,ji,jh,jd,jm,jn,jp,jq,jo,rzZ,Qab,Qac,Qad,Qaa,Qae]));(all_goals(clear zz)))
     all_goals first|exact Zx (by rw[hd]) (by rw[hd])
    ·have k2':¬ (ks.length:Int)=2:=by omega
     rw[if_neg (by omega)] at hd
     (have zz:=C0.r;(repeat'(first|(apply jc<;>intro _)|simp(disch:=first|exact jY|fail) only[ja i1,ja i2,ja i6,z0,k1',k2',C0.q,C0.r,je,ji,jh,jd,jm,jn,jp,jq,jo,rzZ,Qab,Qac,Qad,Qaa,Qae]));(all_goals(clear zz)))
     all_goals first|exact Zx (by rw[hd];rfl) (by rw[hd];rfl)
end Go.Sy
end
noncomputable section
set_option maxRecDepth 100000
namespace Go.Sy
open Go.Ev Go.Proofs
variable {base:Bs}
theorem jnU (hb:NB base)(sv:List Int)(hs:sv.length<=1099511627776)(x:Ex)(hx:szE x<=BIG):Tot base 17 [.agg (eE x),svV sv] (.tup [.bool (decide (yz sv x=some 1)),.bool (yz sv x).isSome]):=by
 refine hb.tot ?_ (by unfold svV;simp[pa,pc,qY,yM]) rfl;have e:=jel hb sv hs x hx;unfold tpO at e;unfold svV at *;refine jE jst (by rfl) (hb.pur 17 1 (by decide)) ?_;simp only[jod,jt,Qai,Qaj,Qag,Qah];rw[(by unfold ji4;simp only[qq];rfl:ji4=_)];cases hv:yz sv x with
 |none=>
  rw[hv] at e;repeat'(first|(apply jc<;>intro _)|simp(disch:=first|exact dzG|fail) only[e,je,ji,jh,jd,jm,jn,jp,jq,jo,rzZ,Qab,Qac,Qad,Qaa,Qae])
  exact FzD.tup (.cons (.pc rfl) (.cons (.pc rfl) .nil))
 |some n=>
  rw[hv] at e;have e:Tot base 16 [.agg (eE x),.lst sv.length (sv.map (.int .i64))] (.tup [.int .i64 n,.bool true]):=e;have e1:decide (some n=some 1)=decide (n=1):=by simp
  rw[e1];repeat'(first|(apply jc<;>intro _)|simp(disch:=first|exact dzG|fail) only[e,je,ji,jh,jd,jm,jn,jp,jq,jo,rzZ,Qab,Qac,Qad,Qaa,Qae])
  exact FzD.tup (.cons (.pc rfl) (.cons (.pc rfl) .nil))
theorem jmZ (s:List Int)(x:Ex):JS s x=if x.op=4 then s.getD x.num.toNat 0 else if x.kids.length=0 then x.num else QP x.op ((wk s x.kids).getD 0 0) ((wk s x.kids).getD (x.kids.length - 1) 0):=by cases x;rw[JS];rfl
theorem kg {s:List Int}:∀ {xs:List Ex} {i:Nat} (h:i<xs.length),(wk s xs).getD i 0=JS s xs[i]
 |x :: xs,0,h=>rfl
 |x :: xs,i+1,h=>by
  rw[wk,Qah,kg (by simpa using h)];rfl
set_option maxHeartbeats 8000000 in
theorem jbr (hb:NB base)(sv:List Int)(hs:sv.length<=1099511627776):∀ x:Ex,szE x<=BIG->X6 sv.length x=true->Tot base 18 [.agg (eE x),svV sv] (.int .i64 (JS sv x)):=by
 refine Ex.indk λx ih hx hn=>?_;refine hb.tot ?_ (by unfold svV;simp[pa,pc,qY,yM]) rfl;have hd:=jmZ sv x;have hz:=XO x;rw[jkr,Qar,Kw,QaA] at hn;obtain⟨hn1,hn2⟩:=hn;generalize hks:x.kids=ks at *;have hlen:=Yl ks;unfold BIG at *;unfold svV at *;refine jE jss (by rfl) (hb.pur 18 1 (by decide)) ?_;simp only[joc,jt,Qai,Qaj,Qag,Qah];rw[(by unfold ji3;simp only[qq];rfl:ji3=_)];by_cases h4:x.op=4
 ·have h5:0<=x.num/\x.num<(sv.length:Int):=by
   simp[h4] at hn1;omega
  obtain⟨h5,h6⟩:=h5;have h7:x.num.toNat<sv.length:=by omega
  have eL:∀ (st:St) (K:AV->St->Prop),jl (qX (.lptr (sv.map (AV.int .i64)) x.num.toNat) st) K=K (.int .i64 sv[x.num.toNat]) st:=λst K=>XN h7;repeat'(first|(apply jc<;>intro _)|simp(disch:=first|exact dzG|fail) only[hks,h4,eL,je,ji,jh,jd,jm,jn,jp,jq,jo,rzZ,Qab,Qac,Qad,Qaa,Qae])
  refine G0.v ?_ rfl;rw[hd,if_pos h4,Qax,Qau h7];rfl
 ·rw[if_neg h4] at hd;by_cases h0:ks.length=0
  ·have h0':(ks.length:Int)=0:=by omega
   rw[if_pos h0] at hd;repeat'(first|(apply jc<;>intro _)|simp(disch:=first|exact dzG|fail) only[hks,h4,h0',je,ji,jh,jd,jm,jn,jp,jq,jo,rzZ,Qab,Qac,Qad,Qaa,Qae])
   exact G0.v (by rw[hd]) rfl
  ·have h0':¬ (ks.length:Int)=0:=by omega
   rw[if_neg h0] at hd;have hp:0<ks.length:=by omega
   have hl:ks.length - 1<ks.length:=by omega
   have g0:=Xj hp;have g1:=Xj hl;have e0:=ih ks[0] (Qat hp) (by omega) (hn2 _ (Qat hp));have e1:=ih ks[ks.length - 1] (Qat hl) (by omega) (hn2 _ (Qat hl));have e9:((ks.length:Int) - 1).toNat=ks.length - 1:=by omega
   rw[kg hp,kg hl] at hd;have f0:∀ (st:St) (K:AV->St->Prop),jl (zg 6 (.lptr (fl eE ks) 0) st) K=K (.agg (eE ks[0])) st:=λst K=>by
    have:=JU (enc:=eE) (z:=6) (st:=st) (K:=K) zx hp;rwa [Qbp] at this
   have f1:∀ (st:St) (K:AV->St->Prop),jl (zg 6 (.lptr (fl eE ks) ((ks.length - 1) * 6)) st) K=K (.agg (eE ks[ks.length - 1])) st:=λst K=>JU zx hl;generalize JS sv ks[0]=a at *;generalize JS sv ks[ks.length - 1]=b at *;have eW:wq ((ks.length:Int) - 1)=(ks.length:Int) - 1:=jrh _ (by omega) (by omega);repeat'(first|(apply jc<;>intro _)|simp(disch:=first|exact dzG|fail) only[hks,h4,h0',e0,e1,e9,eW,f0,f1,jlh,jeH,jlg,jlf,je,ji,jh,jd,jm,jn,jp,jq,jo,rzZ,Qab,Qac,Qad,Qaa,Qae])
   all_goals(refine G0.v ?_ rfl;rw[hd];simp[QP,Qd, *])
end Go.Sy
end
noncomputable section
namespace Go.Sy
open Go.Ev Go.RowKit
def Lw (lo hi:Nat)(s:St)(v:AV)(n:Nat)(cs:List AV)(z:Nat):Prop:=∃ b ex,v=.slice b 0 n n z ex/\(ex=true->n=0)/\cs.length=n * z/\Cl s b cs/\lo<=b/\b<hi
theorem Lw.new {s:St}{z lo hi:Nat}(h1:lo<=s.nx)(h2:s.nx<hi):Lw lo hi (nw s []) (.slice s.nx 0 0 0 z true) 0 [] z:=⟨s.nx,true,rfl,λ_=>rfl,by simp,Cl.new s [],h1,h2⟩
theorem Lw.fz {lo hi n z m d:Nat}{s:St}{v:AV}{cs:List AV}(h:Lw lo hi s v n cs z)(hm:m<=lo)(hp:cs.all pc=true):FzD m (d+2) s v (.lst n cs):=by
 obtain⟨b,ex,rfl,_,h3,h4,h5,h6⟩:=h;refine FzD.slice h4.rw_ (QbC h3.symm) (by omega) ?_;rw[<-h3,Qaz];exact FzsD.pc hp
theorem Lw.nwO {lo hi n z:Nat}{s:St}{v:AV}{cs:List AV}(h:Lw lo hi s v n cs z)(ds:List AV):Lw lo hi (nw s ds) v n cs z:=by
 obtain⟨b,ex,h1,h2,h3,h4,h5,h6⟩:=h;exact⟨b,ex,h1,h2,h3,h4.nw ds,h5,h6⟩
structure ApL (lo:Nat)(s s':St):Prop where
 nx:s.nx<=s'.nx
 fr:s'.fr=s.fr
 cl:∀ c ds,c<lo->Cl s c ds->Cl s' c ds
theorem Lw.keep {lo hi lo2 n z:Nat}{s s':St}{v:AV}{cs:List AV}(h:Lw lo hi s v n cs z)(a:ApL lo2 s s')(hh:hi<=lo2):Lw lo hi s' v n cs z:=by
 obtain⟨b,ex,h1,h2,h3,h4,h5,h6⟩:=h;exact⟨b,ex,h1,h2,h3,a.cl b cs (by omega) h4,h5,h6⟩
theorem ApL.nwO (s:St)(ds:List AV):ApL s.nx s (nw s ds):=⟨by rw[jg];omega,by rw[UH],λc cs hc C=>C.nw ds⟩
theorem ApL.trans {lo lo2:Nat}{s t u:St}(a:ApL lo s t)(b:ApL lo2 t u)(h:lo<=lo2):ApL lo s u:=⟨Qaw a.nx b.nx,b.fr.trans a.fr,λc ds hc C=>b.cl c ds (by omega) (a.cl c ds hc C)⟩
theorem jq0 {lo hi n z n2 bytes:Nat}{s:St}{v:AV}{cs cs2:List AV}(h:Lw lo hi s v n cs z)(hhi:hi<=s.nx)(hl:cs2.length=n2 * z)(hz:0<z)(hby:(n+n2) * bytes<=140737488355328)(h63:n+n2<=9223372036854775807) :
  ∃ v' s',(∀ K:AV->St->Prop,jl (uG z bytes v (.lst n2 cs2) s) K=K v' s')/\Lw lo s'.nx s' v' (n+n2) (cs ++ cs2) z/\ApL lo s s':=by
 obtain⟨b,ex,rfl,hex,h3,h4,h5,h6⟩:=h;obtain⟨m',zl',zz',ks',hg'⟩:=h4.row;have h4l:=h4.len;rw[JR hg'] at h4l;have e1:Qap (Qav n2 z) (jP cs2)=true:=q9 (by rw[jR];exact QbC hl.symm);have e2:yu cs2 (Qav n2 z)=cs2:=by rw[yb];exact(by rw[show Qav n2 z=cs2.length from hl.symm,Qaz])
 have e3:Qas (jP cs2) (Qav n2 z)=true:=wF (by rw[jR];exact hl);by_cases h0:n2=0
 ·subst h0;have hc:cs2=[]:=List.length_eq_zero_iff.1 (by omega);subst hc;refine⟨_,s,λK=>?_,⟨b,ex,rfl,by simpa using hex,by simpa using h3,by simpa using h4,h5,by omega⟩,⟨Qao _,rfl,λ_ _ _ c=>c⟩⟩;have e4:Qap (QaC n 0) n=true:=q9 (Qao _);have e5:Qas 0 0=true:=rfl;simp only[uG,Qt,firstCells,e1,cond_true,e2,yh,e3,hg',yB,jH,e4,e5,jl];rfl
 ·have e4:Qap (QaC n n2) n=false:=jfT (by show n<n+n2;omega);have e5:Qap (Qav (QaC n n2) bytes) 140737488355328=true:=q9 hby;have e6:Qap (QaC n n2) 9223372036854775807=true:=q9 h63;cases ex with
  |true=>
   have hn:=hex rfl;subst hn;have hc:cs=[]:=List.length_eq_zero_iff.1 (by omega);subst hc;have e7:Qap (QaC 0 (Qav 0 z)) m'=true:=q9 (by show 0+0 * z<=m';omega);have e8:jV zl' zz' ks' (Qav 0 z) 0=[]:=by rw[qD,show Qav 0 z=0 from Qbp z];rfl
   have e9:zh [] cs2=cs2:=by rw[yL];rfl
   refine⟨.slice s.nx 0 (0+n2) (0+n2) z false,nw s cs2,λK=>?_,⟨s.nx,false,rfl,(λh=>by cases h),by rw[QaF,hl,QaK],Cl.new s _,by omega,by rw[jg];omega⟩,⟨by rw[jg];omega,by rw[UH],λc ds hc C=>C.nw _⟩⟩;simp only[uG,Qt,firstCells,e1,cond_true,e2,yh,e3,hg',yB,jH,e4,e5,e6,cond_false,e7,e8,e9,St.alloc_eq,jl];conv=>rhs;unfold nw
   rw[show Qav (QaC 0 n2) z=cs2.length by rw[hl];exact congrArg (· * z) (QaK n2)];rfl
  |false=>
   have e7:Qas z z=true:=wF rfl;have e8:Qas 0 0=true:=rfl;have e9:Qas (Qav n z) m'=true:=wF (by rw[h4l,h3];rfl);have e10:Qav (QaC n n2) z=m'+cs2.length:=by rw[hl,h4l,h3];exact Qbn n n2 z
   have ea:ap s b cs2=⟨s.nx+1,(qc (jM s.nx)).run (.row (m'+cs2.length) zl' zz' (qr cs2 ks' m')) ((qc (jM b)).run .dead s.h),min s.dirty b,s.fr⟩:=by
    unfold ap apO;rw[hg']
   have hne:b≠s.nx:=by omega
   refine⟨.slice s.nx 0 (n+n2) (n+n2) z false,ap s b cs2,λK=>?_,⟨s.nx,false,rfl,(λh=>by cases h),by rw[Qal,h3,hl,Qbn],h4.ap cs2,by omega,by rw[ea];exact QbR _⟩,⟨by rw[ea];exact Nat.le_succ _,by rw[ea],λc ds hc C=>C.apO (by omega)⟩⟩;simp only[uG,Qt,firstCells,e1,cond_true,e2,yh,e3,hg',yB,jH,e4,e5,e6,cond_false,e7,e8,e9,St.put_eq,St.alloc_eq,jl];rw[e10,ea];rfl
end Go.Sy
end
noncomputable section
set_option maxRecDepth 100000
namespace Go.Sy
open Go.Ev Go.Proofs
variable {base:Bs}
structure CloneP (base:Bs):Prop where
 zero:∀ st,base.run 49 [.lst 0 []] st=.ok (.lst 0 []) st
 more:∀ n cs st,base.run 49 [.lst (n+1) cs] st=.no
def OutV (lo:Nat)(s:St)(v:AV)(out:List Int):Prop:=(out=[]/\v=.lst 0 [])\/∃ b,v=.slice b 0 out.length out.length 1 false/\Cl s b (out.map (.int .i64))/\lo<=b/\0<out.length
theorem OutV.fz {lo m d:Nat}{s:St}{v:AV}{out:List Int}(h:OutV lo s v out)(hm:m<=lo):FzD m (d+2) s v (svV out):=by
 rcases h with ⟨rfl,rfl⟩|⟨b,rfl,C,hl,_⟩
 ·exact FzD.pa rfl
 ·refine FzD.slice C.rw_ (by simp) (by omega) ?_;rw[Qcs,<-QaP (f:=AV.int .i64),Qaz];exact FzsD.pc (yM _)
theorem OutV.nwO {lo:Nat}{s:St}{v:AV}{out:List Int}(h:OutV lo s v out)(ds:List AV):OutV lo (Go.Sy.nw s ds) v out:=h.imp id λ⟨b,h1,h2,h3,h4⟩=>⟨b,h1,h2.nw ds,h3,h4⟩
theorem ApL.refl (lo:Nat)(s:St):ApL lo s s:=⟨Qao _,rfl,λ_ _ _ c=>c⟩
theorem jec (hb:NB base)(hC:CloneP base){sv:List Int}(hs:sv.length<=1000000000000){st:St}{K Kp:AV->St->Prop}(hK:∀ v s',OutV st.nx s' v sv->ApL st.nx st s'->K v s'):XB Qaf base 49 [svV sv] st K Kp:=by
 cases sv with
 |nil=>
  have E:=V9 (P:=Qaf) (base:=base) (hC.zero st) K Kp;refine Eq.mpr E ?_;rw[V5];exact hK _ _ (.inl ⟨rfl,rfl⟩) (ApL.refl _ _)
 |cons x xs=>
  obtain⟨cs,hcs⟩:∃ cs,cs=(x :: xs).map (AV.int .i64):=⟨_,rfl⟩;have N:∀ s,YZ Qaf .eql 30 true (.lst (xs.length+1) cs) .nils s=.ok (.bool false) s:=λs=>by kernel_rfl
  unfold svV;rw[<-hcs];refine zW jsg (by rfl) ⟨hC.more _ _ _,hb.pur 49 0 (by decide)⟩ ?_;simp only[jn0,jt,Qai,Qaj,Qag,Qah];have hbk:bk st st.bare=st:=rfl;have hbc:back st st.bare=st:=rfl;have hbb:st.bare.bare=st.bare:=rfl;have hbn:st.bare.nx=st.nx:=rfl;obtain⟨v',s',e,w,q⟩:=jq0 (s:=nw st.bare []) (lo:=st.nx) (hi:=st.nx+1) (bytes:=8) (z:=1) (n:=0) (cs:=[]) (cs2:=cs) (n2:=xs.length+1) (v:=.slice st.nx 0 0 0 1 true) (Lw.new (s:=st.bare) (z:=1) (Qao _) (QbR _)) (Qao _) (by rw[hcs];simp) (by decide) (by simp at hs;omega) (by simp at hs;omega);rw[(by unfold jiR;simp only[qq];rfl:jiR=_)];repeat'(first|(apply jc<;>intro _)|simp(disch:=first|exact dzG|fail) only[N,jav,e,hbn,je,ji,jh,jd,jm,jn,jp,jq,jo,rzZ,Qab,Qac,Qad,Qaa,Qae])
  obtain⟨b,ex,rfl,hex,h3,C,h5,h6⟩:=w;have hx:ex=false:=by
   cases ex with
   |false=>rfl
   |true=>exact absurd (hex rfl) (by omega)
  subst hx;rw[QaK];refine hK _ _ (.inr ⟨b,rfl,?_,h5,by simp⟩) ⟨?_,?_,λc ds hc D=>?_⟩
  ·rw[<-hcs];exact⟨C.lt,C.row,C.len,C.cell⟩
  ·have:=q.nx;rw[jg] at this;show st.nx<=s'.nx;have e0:st.bare.nx=st.nx:=rfl;omega
  ·show st.fr=st.fr;rfl
  ·have D0:Cl st.bare c ds:=⟨D.lt,D.row,D.len,D.cell⟩;have D1:=q.cl c ds hc (D0.nw []);exact⟨D1.lt,D1.row,D1.len,D1.cell⟩
end Go.Sy
end
noncomputable section
set_option maxRecDepth 100000
namespace Go.Sy
open Go.Ev Go.Proofs
variable {base:Bs}
theorem OutV.lend {lo:Nat}{s:St}{v:AV}{out:List Int}(h:OutV lo s v out):lend s.h v=some (svV out):=by
 rcases h with ⟨rfl,rfl⟩|⟨b,rfl,C,_,_⟩
 ·exact jdJ rfl
 ·exact jfc C (by simp) (yM _)
theorem gH:∀ (l:List Int) (i:Nat) (n:Int),i<l.length->upd (l.map (AV.int .i64)) i [.int .i64 n]=(l.set i n).map (.int .i64)
 |x :: xs,0,n,_=>by simp[YM,Zv]
 |x :: xs,i+1,n,h=>by
  have:=gH xs i n (by simpa using h);simp only[Qai,List.set_cons_succ,Zw,this]
structure ModB (m:ModT):Prop where
 vars:m.vars.length<=1000000
 moves:m.moves.length<=1000000
 acts:∀ v∈m.moves,v.acts.length<=1000000/\szE v.when<=BIG/\∀ a∈v.acts,szE a.to<=BIG
theorem jaH {s:St}{vars:List VarT}{mv:MoveT}{sv:List Int}{v:AV}{q:Bool}(h:FzD 0 8 s v (svV (zF vars mv sv).1))(h2:q=(zF vars mv sv).2):G0 (.tup [svV (zF vars mv sv).1,.bool (zF vars mv sv).2]) (.tup [v,.bool q]) s:=by
 subst h2;exact FzD.tup (.cons h (.cons (.pc rfl) .nil))
theorem jrS (mv:MoveT):((moE mv).drop 0).take 6=eE mv.when:=by
 unfold moE;rw[Qbx,List.take_left' (zx _)]
theorem jg4 {s:St}{b:Nat}{mv:MoveT}(C:Cl s b (moE mv)):rats s.h b 0 6=eE mv.when:=by
 rw[C.ratsP 6 0 (by rw[vV];decide),jrS]
theorem Km (s:St)(a:SetT):rats (Go.Sy.wr (Go.Sy.nw s [.int .i64 0,.int .i64 0,.int .i64 0,.str [],.nils,.int .i64 0,.int .i64 0]) s.nx 0 (seE a)).h s.nx 1 6=eE a.to:=by
 have C:Cl (Go.Sy.wr (Go.Sy.nw s [.int .i64 0,.int .i64 0,.int .i64 0,.str [],.nils,.int .i64 0,.int .i64 0]) s.nx 0 (seE a)) s.nx (seE a):=(Cl.new s _).wr0 (by rw[Xk];rfl);rw[C.ratsP 6 1 (by rw[Xk];decide)];unfold seE;rw[List.drop_one,List.tail_cons,<-zx a.to,Qaz]
set_option maxHeartbeats 8000000 in
theorem jqA (hb:NB base)(hC:CloneP base)(m:ModT)(hm:m.vars.length<=1000000)(mv:MoveT)(ha:mv.acts.length<=1000000)(hw:szE mv.when<=BIG)(hto:∀ a∈mv.acts,szE a.to<=BIG)(sv:List Int)(hs:sv.length<=1000000000000) :
  Tot base 45 [.agg (mdE m),.agg (moE mv),svV sv] (.tup [svV (zF m.vars mv sv).1,.bool (zF m.vars mv sv).2]):=by
 refine hb.tot ?_ (by unfold svV;simp[pa,pc,Jj,YX,yM]) rfl;have EH:=jnU hb sv (by omega) mv.when hw;have hd:zF m.vars mv sv=if yz sv mv.when=some 1 then(match ZB sv mv.acts sv with|none=>([],false)|some t=>(t,qU m.vars t)) else([],false):=rfl
 have fW:=jg4 (Cl.new (nw st0 (mdE m)) (moE mv));have f1:(nw st0 (mdE m)).nx=1:=rfl;rw[f1] at fW;unfold svV at *;refine jE jsk (by rfl) (hb.pur 45 1 (by decide)) ?_;simp only[jn4,jt,Qai,Qaj,Qag,Qah];rw[(by unfold jiV;simp only[qq];rfl:jiV=_)];by_cases h1:yz sv mv.when=some 1
 ·rw[h1] at EH;rw[if_pos h1] at hd;have EH:Tot base 17 [.agg (eE mv.when),(.lst sv.length (sv.map (.int .i64)))] (.tup [.bool true,.bool true]):=by simpa using EH
  repeat'(first|(apply jc<;>intro _)|simp(disch:=first|exact dzG|fail) only[fW,EH,je,ji,jh,jd,jm,jn,jp,jq,jo,rzZ,Qab,Qac,Qad,Qaa,Qae])
  refine jec (sv:=sv) hb hC hs λv u O q=>?_;have f2:(nw (nw st0 (mdE m)) (moE mv)).nx=2:=rfl;have C0:Cl u 0 (mdE m):=q.cl 0 _ (by rw[f2];decide) ((Cl.new st0 (mdE m)).nw _);have C1:Cl u 1 (moE mv):=q.cl 1 _ (by rw[f2];decide) (f1▸Cl.new (nw st0 (mdE m)) (moE mv));have n2:2<=u.nx:=q.nx;have uf:u.fr=[]:=q.fr;rw[f2] at O;clear fW f1 f2 q EH
  (have zz:=aI C0.r C1.r;(repeat'(first|(apply jc<;>intro _)|simp(disch:=first|exact jY|fail) only[uf,C0.q,C1.q,C0.r,C1.r,je,ji,jh,jd,jm,jn,jp,jq,jo,rzZ,Qab,Qac,Qad,Qaa,Qae]));(all_goals(clear zz)))
  refine qb mv.acts.length (λk L s=>(∃ out v,ZB sv mv.acts sv=ZB sv (mv.acts.drop k) out/\out.length=sv.length/\OutV 2 s v out/\Has L 10 v)/\2<=s.nx/\Cl s 0 (mdE m)/\Cl s 1 (moE mv)/\Has L 2 (.lst sv.length (sv.map (.int .i64)))/\Has L 3 (.ptr 0 0)/\Has L 4 (.ptr 1 0)/\Has L 31 (.lst mv.acts.length (fl seE mv.acts))) (by first|assumption|omega) (by decide) (by simp(disch:=decide) only[jf,jb]) (by simp(disch:=decide) only[jf,jb]) ?_ (λk L s v h=>(by obtain⟨⟨out,v,a1,a2,a3,a4⟩,a5,a6,a7,a8,a9,a10,a11⟩:=h;refine⟨⟨out,v,a1,a2,a3,?_⟩,a5,a6,a7,?_,?_,?_,?_⟩<;>simp(disch:=decide) only[jb]<;>assumption)) (λk L s v h=>(by obtain⟨⟨out,v,a1,a2,a3,a4⟩,a5,a6,a7,a8,a9,a10,a11⟩:=h;refine⟨⟨out,v,a1,a2,a3,?_⟩,a5,a6,a7,?_,?_,?_,?_⟩<;>simp(disch:=decide) only[jb]<;>assumption)) (λk L s hk hI hi hn=>?_) (λL s hI=>?_)
  ·refine⟨⟨sv,v,rfl,rfl,O,?_⟩,n2,C0,C1,?_,?_,?_,?_⟩<;>simp(disch:=decide) only[jb,jf]
  ·obtain⟨⟨out,v,h2,h3,O,i10⟩,n2,C0,C1,i2,i3,i4,i31⟩:=hI;have e:=jel hb sv (by omega) mv.acts[k].to (hto _ (Qat hk));have hdr:mv.acts.drop k=mv.acts[k] :: mv.acts.drop (k+1):=Qcb hk;rw[hdr,ZB] at h2;unfold svV tpO at e;cases hv:yz sv mv.acts[k].to with
   |none=>
    rw[hv] at h2 e;have e:Tot base 16 [.agg (eE mv.acts[k].to),.lst sv.length (sv.map (.int .i64))] (.tup [.int .i64 0,.bool false]):=e;rw[h2] at hd
    (have zz:=aI C0.r C1.r;(repeat'(first|(apply jc<;>intro _)|simp(disch:=first|exact jY|fail) only[ja i2,ja i3,ja i4,ja i10,ja i31,ja hi,ja hn,Km,e,C0.q,C1.q,C0.r,C1.r,je,ji,jh,jd,jm,jn,jp,jq,jo,rzZ,Qab,Qac,Qad,Qaa,Qae]));(all_goals(clear zz)))
    all_goals first|(refine jaH ?_ (by rw[hd]);rw[hd];exact FzD.nils)
   |some n=>
    rw[hv] at h2 e;have e:Tot base 16 [.agg (eE mv.acts[k].to),.lst sv.length (sv.map (.int .i64))] (.tup [.int .i64 n,.bool true]):=e;dsimp only at h2;by_cases g:mv.acts[k].var<0\/(sv.length:Int)<=mv.acts[k].var
    ·rw[if_pos g] at h2;rw[h2] at hd
     (have zz:=aI C0.r C1.r;(repeat'(first|(apply jc<;>intro _)|simp(disch:=first|exact jY|fail) only[ja i2,ja i3,ja i4,ja i10,ja i31,ja hi,ja hn,Km,e,C0.q,C1.q,C0.r,C1.r,je,ji,jh,jd,jm,jn,jp,jq,jo,rzZ,Qab,Qac,Qad,Qaa,Qae]));(all_goals(clear zz)))
     all_goals first|(refine jaH ?_ (by rw[hd]);rw[hd];exact FzD.nils)|(exfalso;omega)
    ·rw[if_neg g] at h2;have g1:¬ mv.acts[k].var<0:=λh=>g (.inl h);have g2:¬ (sv.length:Int)<=mv.acts[k].var:=λh=>g (.inr h);rcases O with ⟨rfl,_⟩|⟨b,rfl,C,hb2,hl⟩
     ·simp at h3;omega
     ·have hbn:=C.lt;have hlen:qt s.h b=out.length:=by rw[C.len,QaP]
      have hz:mv.acts[k].var.toNat+1<=out.length:=by omega
      have gx:mv.acts[k].var<(out.length:Int):=by omega
      (have zz:=aI C0.r (aI C1.r C.r);(repeat'(first|(apply jc<;>intro _)|simp(disch:=first|exact jY|fail) only[ja i2,ja i3,ja i4,ja i10,ja i31,ja hi,ja hn,Km,e,g1,g2,gx,C0.q,C1.q,C.q,C0.r,C1.r,C.r,je,ji,jh,jd,jm,jn,jp,jq,jo,rzZ,Qab,Qac,Qad,Qaa,Qae]));(all_goals(clear zz)))
      have hC2:Cl (Go.Sy.wr (Go.Sy.wr (Go.Sy.nw s [.int .i64 0,.int .i64 0,.int .i64 0,.str [],.nils,.int .i64 0,.int .i64 0]) s.nx 0 (seE mv.acts[k])) b mv.acts[k].var.toNat [.int .i64 n]) b ((out.set mv.acts[k].var.toNat n).map (.int .i64)):=by
       rw[<-gH _ _ _ (by omega)];exact((C.nw _).wrO (by omega) _ _).wr _ _
      refine⟨⟨⟨_,.slice b 0 out.length out.length 1 false,h2,by simp[h3],.inr ⟨b,by rw[Qcj],hC2,hb2,by simp;omega⟩,?_⟩,?_,?_,?_,?_,?_,?_,?_⟩,?_,?_⟩;all_goals first
       |(simp(disch:=decide) only[jb,jf,Qcj];done)
       |(simp(disch:=decide) only[jb,Qcj];assumption)
       |(simp only[jg,jj];omega)
       |exact((C0.nw _).wrO (by omega) _ _).wrO (by omega) _ _
       |exact((C1.nw _).wrO (by omega) _ _).wrO (by omega) _ _
       |omega
  ·obtain⟨⟨out,v,h2,h3,O,i10⟩,n2,C0,C1,i2,i3,i4,i31⟩:=hI;rw[Qce,ZB] at h2;rw[h2] at hd;dsimp only at hd;have E25:=λK Kp=>(ke hb m out hm (by omega)).xb (st:=s) (Q4 (by simp[pa,pc,Jj]) (yC O.lend Yy)) (λst=>hb.no 25 (by decide) _ _) K Kp;unfold mdE at E25
   (have zz:=aI C0.r C1.r;(repeat'(first|(apply jc<;>intro _)|simp(disch:=first|exact jY|fail) only[ja i2,ja i3,ja i4,ja i10,E25,ZF,C0.q,C1.q,C0.r,C1.r,je,ji,jh,jd,jm,jn,jp,jq,jo,rzZ,Qab,Qac,Qad,Qaa,Qae]));(all_goals(clear zz)))
   refine jaH (v:=v) ?_ (by rw[hd]);rw[hd];have O2:OutV 2 s.bare v out:=O.imp id λ⟨b,a1,C,a3,a4⟩=>⟨b,a1,⟨C.lt,C.row,C.len,C.cell⟩,a3,a4⟩;exact O2.fz (QaG _)
 ·have EH:Tot base 17 [.agg (eE mv.when),(.lst sv.length (sv.map (.int .i64)))] (.tup [.bool false,.bool (yz sv mv.when).isSome]):=by simpa[h1] using EH
  rw[if_neg h1] at hd;repeat'(first|(apply jc<;>intro _)|simp(disch:=first|exact dzG|fail) only[fW,EH,je,ji,jh,jd,jm,jn,jp,jq,jo,rzZ,Qab,Qac,Qad,Qaa,Qae])
  all_goals(refine jaH ?_ (by rw[hd]);rw[hd];exact FzD.nils)
end Go.Sy
end
noncomputable section
set_option maxRecDepth 100000
namespace Go.Sy
open Go.Ev Go.Proofs
variable {base:Bs}
abbrev SvT:=List Int
def svE (s:SvT):List AV:=[svV s]
theorem vK (s:SvT):(svE s).length=1:=nr rfl
theorem jlG (s:SvT)(k:Nat):(svE s).getD k .bad=([svV s]:List AV).getD k .bad:=nr rfl
theorem jlI (s:SvT)(k:Nat):(svE s).drop k=([svV s]:List AV).drop k:=nr rfl
theorem k9 (s:SvT):(svE s).all pc=true:=by simp[svE,jpt]
theorem jeO (s:SvT):lall AV.cell (svE s)=true:=nr rfl
theorem jlH {st:St}{K:AV->St->Prop}{xs:List SvT}{i:Nat}(h:i<xs.length):jl (zg 1 (.lptr (fl svE xs) (i * 1)) st) K=K (.agg (svE xs[i])) st:=JU vK h
theorem jgP {st:St}{K:AV->St->Prop}{xs:List SvT}{i:Nat}(h:i<xs.length){k:Nat}(hk:k<1):jl (qX (.lptr (fl svE xs) (i * 1+k)) st) K=K ((svE xs[i]).getD k .bad) st:=q7 vK h hk
theorem jbe {st:St}{K:AV->St->Prop}{xs:List SvT}{i:Nat}(h:i<xs.length):jl (qX (.lptr (fl svE xs) (i * 1)) st) K=K ((svE xs[i]).getD 0 .bad) st:=q7 (k:=0) vK h (by decide)
theorem qy:type_of% (aI @vK (aI @jlG (aI @jlI (aI @jeO (aI @jlH (aI @jbe @jgP)))))):=aI @vK (aI @jlG (aI @jlI (aI @jeO (aI @jlH (aI @jbe @jgP)))))
theorem jeJ {ls:List SvT}{k:Nat}{st:St}{K:AV->St->Prop}(h:k<ls.length):jl (qX (.lptr (fl svE ls) k) st) K=K (svV ls[k]) st:=by
 have:=jbe (st:=st) (K:=K) h;rw[Qcs] at this;exact this
theorem jqu (hb:NB base)(a b:List Int)(ha:a.length<=1099511627776)(hb2:b.length<=1099511627776):Tot base 48 [svV a,svV b] (.bool (decide (a=b))):=hb.tot (jnx hb a b ha hb2) rfl rfl
theorem jrR (hb:NB base)(a b:List Int)(ha:a.length<=1099511627776)(hb2:b.length<=1099511627776):Tot base 47 [svV a,.lptr [svV b] 0] (.bool (decide (a=b))):=by
 refine hb.tot ?_ (by unfold svV;simp[pa,pc,yM]) rfl;have e:=jqu hb a b ha hb2;generalize svV a=va at *;generalize svV b=vb at *;refine jE jsi (by rfl) (hb.pur 47 1 (by decide)) ?_;simp only[jn2,jt,Qai,Qaj,Qag,Qah];rw[(by unfold jiT;simp only[qq];rfl:jiT=_)];repeat'(first|(apply jc<;>intro _)|simp(disch:=first|exact dzG|fail) only[zU,e,je,ji,jh,jd,jm,jn,jp,jq,jo,qy,rzZ,Qab,Qac,Qad,Qaa,Qae])
 exact G0.v rfl rfl
theorem jr0 (hb:NB base)(a b:List Int)(ha:a.length<=1099511627776)(hb2:b.length<=1099511627776):Tot base 51 [svV a,.lptr [svV b] 0] (.bool (decide (a=b))):=by
 refine hb.tot ?_ (by unfold svV;simp[pa,pc,yM]) rfl;have e:=jqu hb a b ha hb2;generalize svV a=va at *;generalize svV b=vb at *;refine jE jsf (by rfl) (hb.pur 51 1 (by decide)) ?_;simp only[jnZ,jt,Qai,Qaj,Qag,Qah];rw[(by unfold jiQ;simp only[qq];rfl:jiQ=_)];repeat'(first|(apply jc<;>intro _)|simp(disch:=first|exact dzG|fail) only[zU,e,je,ji,jh,jd,jm,jn,jp,jq,jo,qy,rzZ,Qab,Qac,Qad,Qaa,Qae])
 exact G0.v rfl rfl
theorem jrV (hb:NB base)(f:Nat)(ls:List SvT)(hl:ls.length<=BIG)(t:SvT)(hf:∀ x∈ls,Tot base f [svV x,.lptr [svV t] 0] (.bool (decide (x=t)))):PL Qaf base 63 [.lst ls.length (fl svE ls),.fn f [.lptr [svV t] 0]] (.ok (.int .i64 (fi (λx=>decide (x=t)) ls))):=by
 refine Jr jse (by rfl) (hb.pur 63 5 (by decide)) rfl ?_;simp only[jnY,jt,Qai,Qaj,Qag,Qah];rw[(by unfold jiP;simp only[qq];rfl:jiP=_)];unfold BIG at hl;repeat'(first|(apply jc<;>intro _)|simp(disch:=first|exact dzG|fail) only[je,ji,jh,jd,jm,jn,jp,jq,jo,qy,rzZ,Qab,Qac,Qad,Qaa,Qae])
 refine qb ls.length (λk L s=>(∀ j (hj:j<ls.length),j<k->(λx=>decide (x=t)) ls[j]=false)/\Has L 0 (.lst ls.length (fl svE ls))/\Has L 1 (.fn f [.lptr [svV t] 0])) (by first|assumption|omega) (by decide) (by simp(disch:=decide) only[jf,jb]) (by simp(disch:=decide) only[jf,jb]) ?_ (λk L s v h=>by simp(disch:=decide) only[jb];exact h) (λk L s v h=>by simp(disch:=decide) only[jb];exact h) (λk L s hk hI hi hn=>?_) (λL s hI=>?_)
 ·refine⟨λj _ hj=>absurd hj (QaZ _),?_⟩;simp(disch:=decide) only[Qam,Qaq,z0,z1,jf,jb,and_true,true_and]
 ·obtain⟨h0,i0,i1⟩:=hI;have e:=hf ls[k] (Qat hk);repeat'(first|(apply jc<;>intro _)|simp(disch:=first|exact dzG|fail) only[ja i0,ja i1,ja hi,ja hn,jeJ,e,je,ji,jh,jd,jm,jn,jp,jq,jo,qy,rzZ,Qab,Qac,Qad,Qaa,Qae])
  ·rename_i h;exact G0.v (congrArg _ (uc hk (λj hj=>h0 j (by omega) hj) (by simpa using h)).symm) rfl
  ·rename_i h;refine⟨⟨λj hj hjk=>?_,?_⟩,?_⟩
   ·rcases QaT j k with h2|h2
    ·have:=h0 j hj h2;simpa using this
    ·have:j=k:=by omega
     subst this;simpa using h
   ·simp(disch:=decide) only[Qam,Qaq,z0,z1,jf,jb,and_true,true_and,i0,i1]
   ·simp(disch:=decide) only[Qam,Qaq,z0,z1,jf,jb,and_true,true_and,hi,hn]
 ·obtain⟨h0,i0,i1⟩:=hI;repeat'(first|(apply jc<;>intro _)|simp(disch:=first|exact dzG|fail) only[je,ji,jh,jd,jm,jn,jp,jq,jo,qy,rzZ,Qab,Qac,Qad,Qaa,Qae])
  exact G0.v (congrArg _ (ub λj hj=>h0 j hj hj).symm) rfl
theorem jh7 {t:SvT}:∀ {ls:List SvT},decide (0<=fi (λx=>decide (x=t)) ls)=decide (t∈ls)
 |[]=>by simp[fi]
 |x :: xs=>by
  have ih:=jh7 (t:=t) (ls:=xs);by_cases h:x=t
  ·simp[fi,h]
  ·have h2:t∈x :: xs↔t∈xs:=by simp[Ne.symm h]
   rw[decide_eq_decide] at ih ⊢;rw[h2,<-ih];have e:fi (λx=>decide (x=t)) (x :: xs)=if fi (λx=>decide (x=t)) xs<0 then -1 else fi (λx=>decide (x=t)) xs+1:=by simp[fi,h]
   rw[e];split<;>omega
theorem jrX (hb:NB base)(f:Nat)(ls:List SvT)(hl:ls.length<=BIG)(t:SvT)(hf:∀ x∈ls,Tot base f [svV x,.lptr [svV t] 0] (.bool (decide (x=t)))):PL Qaf base 46 [.lst ls.length (fl svE ls),.fn f [.lptr [svV t] 0]] (.ok (.bool (decide (t∈ls)))):=by
 refine Jr jsj (by rfl) (hb.pur 46 5 (by decide)) rfl ?_;simp only[jn3,jt,Qai,Qaj,Qag,Qah];rw[(by unfold jiU;simp only[qq];rfl:jiU=_)];have e:∀ (st:St) (K Kp:AV->St->Prop),XB Qaf base 63 [.lst ls.length (fl svE ls),.fn f [.lptr [svV t] 0]] st K Kp=_:=λst K Kp=>(jrV hb f ls hl t hf).xb (Q4 (by simp[pa,pc,yT k9]) (yC rfl rfl)) (λst=>hb.no 63 (by decide) _ _) K Kp;have:=jh7 (ls:=ls) (t:=t);repeat'(first|(apply jc<;>intro _)|simp(disch:=first|exact dzG|fail) only[e,je,ji,jh,jd,jm,jn,jp,jq,jo,qy,rzZ,Qab,Qac,Qad,Qaa,Qae])
 exact G0.v (congrArg AV.bool this) rfl
end Go.Sy
end
noncomputable section
set_option maxRecDepth 100000
namespace Go.Sy
open Go.Ev Go.Proofs
variable {base:Bs}
theorem G4 {vars:List VarT}{sv:List Int}:∀ {xs ys:List MoveT} {out:List (List Int)},zp vars sv (xs ++ ys) out=zp vars sv ys (zp vars sv xs out)
 |[],ys,out=>rfl
 |x :: xs,ys,out=>by rw[Qay,zp,zp,G4]
theorem jnc {vars:List VarT}{sv:List Int}{xs:List MoveT}{k:Nat}(hk:k<xs.length){out:List (List Int)}(h:zp vars sv (xs.take k) []=out):zp vars sv (xs.take (k+1)) []=if(zF vars xs[k] sv).2=true/\(zF vars xs[k] sv).1∉out then out ++ [(zF vars xs[k] sv).1] else out:=by
 rw[yE hk,G4,h,zp,zp]
theorem jmh (hb:NB base)(f:Nat)(ls:List SvT)(hl:ls.length<=BIG)(t:SvT)(hf:∀ x∈ls,Tot base f [svV x,.lptr [svV t] 0] (.bool (decide (x=t)))){v:AV}{st:St}{q n:Nat}(hn:n=ls.length)(h:Lr st v n (fl svE ls))(C:Cl st q [svV t])(K Kp:AV->St->Prop) :
  XB Qaf base 46 [v,.fn f [.ptr q 0]] st K Kp=K (.bool (decide (t∈ls))) st:=by
 subst hn;refine(jrX hb f ls hl t hf).xb (yC (h.lend (yT k9 ls)) (yC ?_ Yy)) (λst=>hb.no 46 (by decide) _ _) K Kp;show(J7 st.h [.ptr q 0]).map (AV.fn f)=_;have:ZI st.h (.ptr q 0)=some (.lptr (svE t) 0):=vn C (Vx (k9 t) (jeO t));simp only[J7,this];rfl
set_option maxHeartbeats 8000000 in
theorem jiK (hb:NB base)(hC:CloneP base)(m:ModT)(B:ModB m)(sv:SvT)(hs:sv.length<=1000000000000):Tot base 27 [.agg (mdE m),svV sv] (.lst (Qv m sv).length (fl svE (Qv m sv))):=by
 refine hb.tot ?_ (by unfold svV;simp[pa,pc,Jj,yM]) rfl;have hm:=B.vars;have E25:=λst K Kp=>(ke hb m sv hm (by omega)).pa (by unfold svV;simp[pa,pc,Jj,yM]) (λst=>hb.no 25 (by decide) _ _) st K Kp;have hd:Qv m sv=if qU m.vars sv=true then(if(zp m.vars sv m.moves []).length=0 then [sv] else zp m.vars sv m.moves []) else []:=rfl
 have hmv:=B.moves;obtain⟨vs,hvs⟩:∃ vs,vs=svV sv:=⟨_,rfl⟩;rw[<-hvs] at E25 ⊢;refine jE jsq (by rfl) (hb.pur 27 1 (by decide)) ?_;simp only[joa,jt,Qai,Qaj,Qag,Qah];rw[(by unfold ji1;simp only[qq];rfl:ji1=_)];cases hr:qU m.vars sv with
 |false=>
  rw[hr] at E25 hd;rw[if_neg (by decide)] at hd;rw[hd];repeat'(first|(apply jc<;>intro _)|simp(disch:=first|exact dzG|fail) only[E25,ZF,je,ji,jh,jd,jm,jn,jp,jq,jo,qy,rzZ,Qab,Qac,Qad,Qaa,Qae])
  all_goals first|exact FzD.nils
 |true=>
  rw[hr] at E25 hd;rw[if_pos rfl] at hd;repeat'(first|(apply jc<;>intro _)|simp(disch:=first|exact dzG|fail) only[E25,ZF,je,ji,jh,jd,jm,jn,jp,jq,jo,qy,rzZ,Qab,Qac,Qad,Qaa,Qae])
  refine qb m.moves.length (λk L s=>(∃ out v,zp m.vars sv (m.moves.take k) []=out/\out.length<=k/\Lv 1 s.nx s v out.length (fl svE out) 1/\Has L 5 v)/\1<=s.nx/\Cl s 0 (mdE m)/\Has L 1 vs/\Has L 2 (.ptr 0 0)/\Has L 15 (.lst m.moves.length (fl moE m.moves))) (by first|assumption|omega) (by decide) (by simp(disch:=decide) only[jf,jb]) (by simp(disch:=decide) only[jf,jb]) ?_ (λk L s v h=>(by obtain⟨⟨out,v,a1,a2,a3,a4⟩,a5,a6,a7,a8,a9⟩:=h;refine⟨⟨out,v,a1,a2,a3,?_⟩,a5,a6,?_,?_,?_⟩<;>simp(disch:=decide) only[jb]<;>assumption)) (λk L s v h=>(by obtain⟨⟨out,v,a1,a2,a3,a4⟩,a5,a6,a7,a8,a9⟩:=h;refine⟨⟨out,v,a1,a2,a3,?_⟩,a5,a6,?_,?_,?_⟩<;>simp(disch:=decide) only[jb]<;>assumption)) (λk L s hk hI hi hn=>?_) (λL s hI=>?_)
  ·refine⟨⟨[],.nils,rfl,Qao _,Lv.nil,?_⟩,by(first|omega|(simp only[jg,jj,ju,jr,jk];first|done|omega)),by(first|exact cyG|fail),?_,?_,?_⟩<;>simp(disch:=decide) only[jb,jf]
  ·obtain⟨⟨out,v,h1,h2,V,i5⟩,n1,C0,i1,i2,i15⟩:=hI;have b:=B.acts m.moves[k] (Qat hk);have E45:=jqA hb hC m hm m.moves[k] b.1 b.2.1 b.2.2 sv hs;have hS:=jnc hk h1;have hR:(zF m.vars m.moves[k] sv).2=true->qU m.vars (zF m.vars m.moves[k] sv).1=true:=λh=>wA (mv:=m.moves[k]) (s:=sv) (by rw[<-h]);have hO:∀ x∈out,x.length=m.vars.length:=λx hx=>by
    rw[<-h1] at hx;rcases vT hx with h|⟨w,_,e⟩
    ·cases h
    ·exact(JJ.1 (wA e)).1
   obtain⟨p,hp⟩:∃ p,p=s.nx:=⟨_,rfl⟩;rw[<-hp] at V;rw[<-hvs] at E45;unfold mdE at E45;generalize zF m.vars m.moves[k] sv=d at E45 hS hR;obtain⟨t,q⟩:=d;dsimp only at E45 hS hR;have tp:(svV t).plain=true:=rfl;have tcl:(svV t).cells.length=1:=rfl;have tc:(svV t).cells=[svV t]:=rfl;have tl:lall AV.cell [svV t]=true:=rfl;have tl':lall AV.cell (svV t).cells=true:=rfl;cases q with
   |false=>
    rw[if_neg (by simp)] at hS
    (have zz:=C0.r;(repeat'(first|(apply jc<;>intro _)|simp(disch:=first|exact jY|fail) only[ja i1,ja i2,ja i5,ja i15,ja hi,ja hn,E45,tc,C0.q,C0.r,je,ji,jh,jd,jm,jn,jp,jq,jo,qy,rzZ,Qab,Qac,Qad,Qaa,Qae]));(all_goals(clear zz)))
    refine⟨⟨⟨out,v,hS,by omega,?_,?_⟩,?_,?_,?_,?_,?_⟩,?_,?_⟩;all_goals first
     |(simp(disch:=decide) only[jb,jf];done)
     |(simp(disch:=decide) only[jb];assumption)
     |(refine Lv.up ?_ (show p<=_ by omega);simp(disch:=first|omega|(simp only[jg,jj];omega)) only[jF,jA];exact V)
     |exact(((C0.nw _).wrO (by omega) _ _).nw _).wrO (by omega) _ _
     |omega
   |true=>
    have ht:=(JJ.1 (hR rfl)).1
    (have zz:=C0.r;(repeat'(first|(apply jc<;>intro _)|simp(disch:=first|exact jY|fail) only[ja i1,ja i2,ja i5,ja i15,ja hi,ja hn,E45,tc,C0.q,C0.r,je,ji,jh,jd,jm,jn,jp,jq,jo,qy,rzZ,Qab,Qac,Qad,Qaa,Qae]));(all_goals(clear zz)))
    obtain⟨S,hSt⟩:∃ S,S=Go.Sy.wr (Go.Sy.nw (Go.Sy.wr (Go.Sy.nw s [AV.int IntKind.i64 0,AV.int IntKind.i64 0,AV.str [],AV.nils,AV.int IntKind.i64 0,AV.int IntKind.i64 0,AV.nils]) s.nx 0 (moE m.moves[k])) [AV.nils]) (s.nx+1) 0 [svV t]:=⟨_,rfl⟩;have VS:Lv 1 p S v out.length (fl svE out) 1:=by
     rw[hSt];simp(disch:=first|omega|(simp only[jg,jj];omega)) only[jF,jA];exact V
    have CS:Cl S 0 (mdE m):=by rw[hSt];exact(((C0.nw _).wrO (by omega) _ _).nw _).wrO (by omega) _ _
    have CX:Cl S (s.nx+1) [svV t]:=by
     rw[hSt];have:=Cl.new (Go.Sy.wr (Go.Sy.nw s [AV.int IntKind.i64 0,AV.int IntKind.i64 0,AV.str [],AV.nils,AV.int IntKind.i64 0,AV.int IntKind.i64 0,AV.nils]) s.nx 0 (moE m.moves[k])) [AV.nils];rw[jj,jg] at this;exact this.wr0 rfl
    have nS:S.nx=p+2:=by rw[hSt,hp];rfl
    rw[<-hSt];clear hSt;refine Eq.mpr (jmh hb 47 out (by unfold BIG;omega) t (λx hx=>jrR hb x t (by have:=hO x hx;omega) (by omega)) rfl VS.lr CX _ _) ?_;have A:=λst bv xc xx K h hv=>@J0 1 p out.length 1 st v (fl svE out) K 24 bv xc xx h (by decide) (by omega) (by omega) hv;by_cases hin:t∈out
    ·rw[if_neg (λh=>h.2 hin)] at hS;rw[decide_eq_true hin];repeat'(first|(apply jc<;>intro _)|simp(disch:=first|exact dzG|fail) only[ja i1,ja i2,ja i5,ja i15,ja hi,ja hn,je,ji,jh,jd,jm,jn,jp,jq,jo,qy,rzZ,Qab,Qac,Qad,Qaa,Qae])
     refine⟨⟨⟨out,v,hS,by omega,VS.up (by omega),?_⟩,?_,CS,?_,?_,?_⟩,?_,?_⟩;all_goals first
      |(simp(disch:=decide) only[jb,jf];done)
      |(simp(disch:=decide) only[jb];assumption)
      |omega
    ·rw[if_pos ⟨rfl,hin⟩] at hS;rw[decide_eq_false hin];rw[<-hp] at CX;have hX:rat S.h (p+1) 0=svV t:=CX.cell 0 (by simp)
     (have zz:=aI @VS (aI @jF (aI @jA @CX.r));(repeat'(first|(apply jc<;>intro _)|simp(disch:=first|exact jY|fail) only[ja i1,ja i2,ja i5,ja i15,ja hi,ja hn,<-hp,hX,tc,A,CX.q,VS,jF,jA,CX.r,je,ji,jh,jd,jm,jn,jp,jq,jo,qy,rzZ,Qab,Qac,Qad,Qaa,Qae]));(all_goals(clear zz)))
     have VN:Lv 1 p (Go.Sy.nw S [svV t]) v out.length (fl svE out) 1:=by
      simp(disch:=omega) only[jF];exact VS
     have V3:=VN.put (news:=[svV t]) rfl (by rw[jg];omega) (m:=S.nx+1+1) (by rw[jg]);have e3:fl svE (out ++ [t])=fl svE out ++ [svV t]:=by rw[QH,JL];rfl
     refine⟨⟨⟨out ++ [t],apv 1 v (Go.Sy.nw S [svV t]),hS,by simp;omega,?_,?_⟩,?_,(CS.nw _).aps VN (.inl (by decide)),?_,?_,?_⟩,?_,?_⟩;all_goals first
      |(rw[e3,Qal];exact V3)
      |(simp(disch:=decide) only[jb,jf];done)
      |(simp(disch:=decide) only[jb];assumption)
      |omega
  ·obtain⟨⟨out,v,h1,h2,V,i5⟩,n1,C0,i1,i2,i15⟩:=hI;rw[Qaz] at h1;rw[h1] at hd;rcases V with ⟨rfl,h0,_⟩|⟨b,rfl,h0,_,C,hb1,hb2⟩
   ·rw[if_pos h0] at hd;repeat'(first|(apply jc<;>intro _)|simp(disch:=first|exact dzG|fail) only[ja i1,ja i2,ja i5,je,ji,jh,jd,jm,jn,jp,jq,jo,qy,rzZ,Qab,Qac,Qad,Qaa,Qae])
    rw[hvs];refine jec (sv:=sv) hb hC hs λw u O q=>?_;have wp:w.plain=true/\w.cells=[w]/\lall AV.cell [w]=true:=by
     rcases O with ⟨_,rfl⟩|⟨b,rfl,_⟩<;>exact⟨rfl,rfl,rfl⟩
    obtain⟨wp,wc,wl⟩:=wp;have wcl:w.cells.length=1:=by rw[wc];rfl
    have A:=λst bv xc xx K hv=>@J0 1 u.nx 0 1 st .nils [] K 24 bv xc xx Lv.nil (by decide) (by decide) (by decide) hv;repeat'(first|(apply jc<;>intro _)|simp(disch:=first|exact dzG|fail) only[A,wc,je,ji,jh,jd,jm,jn,jp,jq,jo,qy,rzZ,Qab,Qac,Qad,Qaa,Qae])
    rw[hd];have C3:=Cl.new (Go.Sy.nw u [w]) [w];have C4:Cl (Go.Sy.nw (Go.Sy.nw u [w]) [w]).bare (Go.Sy.nw u [w]).nx [w]:=⟨C3.lt,C3.row,C3.len,C3.cell⟩;have O2:=(O.nwO [w]).nwO [w];have O3:OutV s.nx (Go.Sy.nw (Go.Sy.nw u [w]) [w]).bare w sv:=O2.imp id λ⟨b,a1,C,a3,a4⟩=>⟨b,a1,⟨C.lt,C.row,C.len,C.cell⟩,a3,a4⟩;show G0 (.lst 1 [svV sv]) (.slice (Go.Sy.nw u [w]).nx 0 1 1 1 false) (Go.Sy.nw (Go.Sy.nw u [w]) [w]).bare;refine FzD.slice C4.rw_ (by simp) (QaG _) ?_;exact FzsD.cons (O3.fz (QaG _)) .nil
   ·have h0':¬ (out.length:Int)=0:=by omega
    rw[if_neg (by omega)] at hd;repeat'(first|(apply jc<;>intro _)|simp(disch:=first|exact dzG|fail) only[ja i1,ja i2,ja i5,h0',je,ji,jh,jd,jm,jn,jp,jq,jo,qy,rzZ,Qab,Qac,Qad,Qaa,Qae])
    rw[hd];have C2:Cl s.bare b (fl svE out):=⟨C.lt,C.row,C.len,C.cell⟩;refine FzD.slice C2.rw_ (by rw[zY vK];exact Qao _) (QaG _) ?_;rw[<-zY vK,Qaz];exact FzsD.pc (yT k9 _)
end Go.Sy
end
noncomputable section
set_option maxRecDepth 100000
namespace Go.Sy
open Go.Ev Go.Proofs
variable {base:Bs}
theorem G2 {m:ModT}{sv x:SvT}(h:x∈Qv m sv):x.length=m.vars.length:=by
 unfold Qv at h;split at h
 ·rename_i hr;split at h
  ·simp only[Qbq] at h;rw[h];exact(JJ.1 hr).1
  ·rcases vT h with h|⟨w,_,e⟩
   ·cases h
   ·exact(JJ.1 (wA e)).1
 ·cases h
theorem G3 {m:ModT}{sv:SvT}:(Qv m sv).length<=m.moves.length+1:=by
 unfold Qv;split
 ·split
  ·simp
  ·have:=@Vo m.vars sv m.moves [];simp at this;omega
 ·simp
set_option maxHeartbeats 4000000 in
theorem jiN (hb:NB base)(hC:CloneP base)(m:ModT)(B:ModB m)(sv t:SvT)(hs:sv.length<=1000000000000)(ht:t.length<=1000000000000):Tot base 30 [.agg (mdE m),svV sv,svV t] (.bool (decide (t∈Qv m sv))):=by
 refine hb.tot ?_ (by unfold svV;simp[pa,pc,Jj,yM]) rfl;have E27:=jiK hb hC m B sv hs;have hm:=B.vars;have hmv:=B.moves;have hf:=@G3 m sv;have tp:(svV t).plain=true:=rfl;have tcl:(svV t).cells.length=1:=rfl;have tc:(svV t).cells=[svV t]:=rfl;have tl:lall AV.cell [svV t]=true:=rfl;have tl':lall AV.cell (svV t).cells=true:=rfl;have H:=λ(st:St) q C K Kp=>jmh hb 51 (Qv m sv) (by unfold BIG;omega) t (λx hx=>jr0 hb x t (by have:=G2 hx;omega) (by omega)) (v:=.lst (Qv m sv).length (fl svE (Qv m sv))) (st:=st) (q:=q) rfl (.inl rfl) C K Kp;have f1:(nw st0 (mdE m)).nx=1:=rfl;have CX:=Cl.new (nw st0 (mdE m)) [svV t];rw[f1] at CX;have H1:=H _ _ CX;generalize svV t=vt at *;generalize svV sv=vs at *;refine jE jso (by rfl) (hb.pur 30 1 (by decide)) ?_;simp only[jn8,jt,Qai,Qaj,Qag,Qah];rw[(by unfold jiZ;simp only[qq];rfl:jiZ=_)];repeat'(first|(apply jc<;>intro _)|simp(disch:=first|exact dzG|fail) only[E27,tc,H1,je,ji,jh,jd,jm,jn,jp,jq,jo,qy,rzZ,Qab,Qac,Qad,Qaa,Qae])
 all_goals exact G0.v rfl rfl
set_option maxHeartbeats 4000000 in
theorem jd1 (hb:NB base)(a b:List Int)(ha:a.length<=1099511627776)(hb2:b.length<=1099511627776):PX Qaf base 29 [svV a,svV b] (.ok (.bool (decide (a=b)))):=by
 unfold svV;have hl:((a.length:Int)=(b.length:Int))=(a.length=b.length):=by rw[eq_iff_iff];omega
 refine jE jsp (by rfl) (hb.pur 29 1 (by decide)) ?_;simp only[jn9,jt,Qai,Qaj,Qag,Qah];rw[(by unfold ji0;simp only[qq];rfl:ji0=_)];repeat'(first|(apply jc<;>intro _)|simp(disch:=first|exact dzG|fail) only[hl,je,ji,jh,jd,jm,jn,jp,jq,jo,qy,rzZ,Qab,Qac,Qad,Qaa,Qae])
 ·rename_i h;exact G0.v (congrArg AV.bool (decide_eq_false λk=>h (by rw[k])).symm) rfl
 ·rename_i h;have h:a.length=b.length:=by simpa using h
  refine qb a.length (λk L st=>(∀ j (h1:j<a.length) (h2:j<b.length),j<k->a[j]=b[j])/\Has L 0 (.lst a.length (a.map (.int .i64)))/\Has L 1 (.lst b.length (b.map (.int .i64)))) (by first|assumption|omega) (by decide) (by simp(disch:=decide) only[jf,jb]) (by simp(disch:=decide) only[jf,jb]) ?_ (λk L s v h=>by simp(disch:=decide) only[jb];exact h) (λk L s v h=>by simp(disch:=decide) only[jb];exact h) (λk L s hk hI hi hn=>?_) (λL s hI=>?_)
  ·refine⟨λj h1 h2 hj=>absurd hj (QaZ _),?_,?_⟩<;>simp(disch:=decide) only[jb,jf]
  ·obtain⟨h0,i0,i1⟩:=hI;have hks:k<b.length:=by omega
   repeat'(first|(apply jc<;>intro _)|simp(disch:=first|exact dzG|fail) only[ja i0,ja i1,ja hi,ja hn,XN,je,ji,jh,jd,jm,jn,jp,jq,jo,qy,rzZ,Qab,Qac,Qad,Qaa,Qae])
   ·rename_i h3;exact G0.v (congrArg AV.bool (decide_eq_false λw=>h3 (by subst w;rfl)).symm) rfl
   ·rename_i h3;refine⟨⟨λj h1 h2 hj=>?_,?_,?_⟩,?_,?_⟩
    ·by_cases e:j=k
     ·subst e;simpa using h3
     ·exact h0 j h1 h2 (by omega)
    all_goals(simp(disch:=decide) only[jb];assumption)
  ·obtain⟨h0,i0,i1⟩:=hI;repeat'(first|(apply jc<;>intro _)|simp(disch:=first|exact dzG|fail) only[je,ji,jh,jd,jm,jn,jp,jq,jo,qy,rzZ,Qab,Qac,Qad,Qaa,Qae])
   exact G0.v (congrArg AV.bool (decide_eq_true (QbI h λi h1 h2=>h0 i h1 h2 h1)).symm) rfl
theorem jmk (hb:NB base)(a b:List Int)(ha:a.length<=1099511627776)(hb2:b.length<=1099511627776):Tot base 29 [svV a,svV b] (.bool (decide (a=b))):=hb.tot (jd1 hb a b ha hb2) rfl rfl
theorem jnV (hb:NB base)(ls:List SvT)(hl:ls.length<=BIG)(t:SvT)(ht:t.length<=1099511627776)(hx:∀ x∈ls,x.length<=1099511627776):Tot base 32 [.lst ls.length (fl svE ls),svV t] (.bool (decide (t∈ls))):=by
 refine hb.tot ?_ (by unfold svV;simp[pa,pc,yM,yT k9]) rfl;unfold BIG at hl;obtain⟨vt,hvt⟩:∃ vt,vt=svV t:=⟨_,rfl⟩;rw[<-hvt];refine jE jsn (by rfl) (hb.pur 32 1 (by decide)) ?_;simp only[jn7,jt,Qai,Qaj,Qag,Qah];rw[(by unfold jiY;simp only[qq];rfl:jiY=_)];repeat'(first|(apply jc<;>intro _)|simp(disch:=first|exact dzG|fail) only[je,ji,jh,jd,jm,jn,jp,jq,jo,qy,rzZ,Qab,Qac,Qad,Qaa,Qae])
 refine qb ls.length (λk L s=>(∀ j (hj:j<ls.length),j<k->ls[j]≠t)/\Has L 1 vt/\Has L 7 (.lst ls.length (fl svE ls))) (by first|assumption|omega) (by decide) (by simp(disch:=decide) only[jf,jb]) (by simp(disch:=decide) only[jf,jb]) ?_ (λk L s v h=>by simp(disch:=decide) only[jb];exact h) (λk L s v h=>by simp(disch:=decide) only[jb];exact h) (λk L s hk hI hi hn=>?_) (λL s hI=>?_)
 ·refine⟨λj _ hj=>absurd hj (QaZ _),?_⟩;simp(disch:=decide) only[Qam,Qaq,z0,z1,jf,jb,and_true,true_and]
 ·obtain⟨h0,i1,i7⟩:=hI;have e:=jmk hb ls[k] t (hx _ (Qat hk)) ht;rw[<-hvt] at e;repeat'(first|(apply jc<;>intro _)|simp(disch:=first|exact dzG|fail) only[ja i1,ja i7,ja hi,ja hn,jeJ,<-hvt,e,je,ji,jh,jd,jm,jn,jp,jq,jo,qy,rzZ,Qab,Qac,Qad,Qaa,Qae])
  ·rename_i h;exact G0.v (congrArg AV.bool (decide_eq_true (h▸Qat hk)).symm) rfl
  ·rename_i h;refine⟨⟨λj hj hjk=>?_,?_,?_⟩,?_,?_⟩
   ·by_cases e:j=k
    ·subst e;exact h
    ·exact h0 j hj (by omega)
   all_goals(simp(disch:=decide) only[jb];assumption)
 ·obtain⟨h0,i1,i7⟩:=hI;repeat'(first|(apply jc<;>intro _)|simp(disch:=first|exact dzG|fail) only[je,ji,jh,jd,jm,jn,jp,jq,jo,qy,rzZ,Qab,Qac,Qad,Qaa,Qae])
  refine G0.v (congrArg AV.bool (decide_eq_false λh=>?_).symm) rfl;obtain⟨j,hj,e⟩:=Qbu.1 h;exact h0 j hj hj e
set_option maxHeartbeats 4000000 in
theorem HI (hb:NB base)(m:ModT)(sv:SvT)(hm:m.vars.length<=1000000)(hs:sv.length<=1099511627776):Tot base 13 [.agg (mdE m),svV sv] (.bool (qU m.vars sv)):=by
 refine hb.tot ?_ (by unfold svV;simp[pa,pc,Jj,yM]) rfl;unfold svV;have hl:((sv.length:Int)=(m.vars.length:Int))=(sv.length=m.vars.length):=by rw[eq_iff_iff];omega
 refine jE jsv (by rfl) (hb.pur 13 1 (by decide)) ?_;simp only[jof,jt,Qai,Qaj,Qag,Qah];rw[(by unfold ji6;simp only[qq];rfl:ji6=_)];repeat'(first|(apply jc<;>intro _)|simp(disch:=first|exact dzG|fail) only[hl,je,ji,jh,jd,jm,jn,jp,jq,jo,qy,rzZ,Qab,Qac,Qad,Qaa,Qae])
 refine zj (λmm L s=>∃ (k:Nat) (q:Bool),k<=sv.length/\mm=sv.length - k/\(0<k->sv.length=m.vars.length)/\(q=true↔sv.length=m.vars.length/\∀ j (h1:j<m.vars.length) (h2:j<sv.length),j<k->m.vars[j].lo<=sv[j]/\sv[j]<=m.vars[j].hi)/\1<=s.nx/\Cl s 0 (mdE m)/\Has L 1 (.lst sv.length (sv.map (.int .i64)))/\Has L 2 (.ptr 0 0)/\Has L 5 (.bool q)/\Has L 6 (.int .i64 (k:Int))) ?_ sv.length ?_
 ·rintro mm L s ⟨k,q,hk,rfl,h1,h2,n1,C0,i1,i2,i5,i6⟩;unfold Gy;by_cases hlt:k<sv.length
  ·have hlt':(k:Int)<(sv.length:Int):=by omega
   have e1:((k+1:Nat):Int)=(k:Int)+1:=by omega
   cases q with
   |false=>
    (have zz:=C0.r;(repeat'(first|(apply jc<;>intro _)|simp(disch:=first|exact jY|fail) only[ja i1,ja i2,ja i5,ja i6,hlt',C0.q,C0.r,je,ji,jh,jd,jm,jn,jp,jq,jo,qy,rzZ,Qab,Qac,Qad,Qaa,Qae]));(all_goals(clear zz)))
    refine G0.v (congrArg AV.bool (ZQ λw=>?_).symm) rfl;exact absurd (h2.2 ⟨w.1,λj a b _=>w.2 j a b⟩) (by decide)
   |true=>
    have hq:=h2.1 rfl;have hkv:k<m.vars.length:=by omega
    (have zz:=C0.r;(repeat'(first|(apply jc<;>intro _)|simp(disch:=first|exact jY|fail) only[ja i1,ja i2,ja i5,ja i6,hlt',XN,C0.q,C0.r,je,ji,jh,jd,jm,jn,jp,jq,jo,qy,rzZ,Qab,Qac,Qad,Qaa,Qae]));(all_goals(clear zz)))
    ·rename_i h3;refine⟨sv.length - (k+1),by omega,k+1,decide (sv[k]<=m.vars[k].hi),by omega,rfl,λ_=>hq.1,?_,n1,C0,?_,?_,?_,?_⟩
     ·rw[decide_eq_true_eq];refine⟨λh=>⟨hq.1,λj a b hj=>?_⟩,λh=>(h.2 k hkv hlt (by omega)).2⟩;by_cases e:j=k
      ·subst e;exact⟨h3,h⟩
      ·exact hq.2 j a b (by omega)
     all_goals first
      |(rw[e1];simp(disch:=decide) only[jb,jf];done)
      |(simp(disch:=decide) only[jb,jf];done)
      |(simp(disch:=decide) only[jb];assumption)
    ·rename_i h3;refine⟨sv.length - (k+1),by omega,k+1,false,by omega,rfl,λ_=>hq.1,?_,n1,C0,?_,?_,?_,?_⟩
     ·exact⟨(λh=>by cases h),λh=>absurd (h.2 k hkv hlt (by omega)).1 h3⟩
     all_goals first
      |(rw[e1];simp(disch:=decide) only[jb,jf];done)
      |(simp(disch:=decide) only[jb,jf];done)
      |(simp(disch:=decide) only[jb];assumption)
  ·have hlt':¬ (k:Int)<(sv.length:Int):=by omega
   have hke:k=sv.length:=by omega
   have hqr:qU m.vars sv=q:=by
    cases q with
    |true=>exact JJ.2 ⟨(h2.1 rfl).1,λj a b=>(h2.1 rfl).2 j a b (by omega)⟩
    |false=>exact ZQ λw=>absurd (h2.2 ⟨w.1,λj a b _=>w.2 j a b⟩) (by decide)
   rw[hqr]
   (have zz:=C0.r;(repeat'(first|(apply jc<;>intro _)|simp(disch:=first|exact jY|fail) only[ja i1,ja i2,ja i5,ja i6,hlt',C0.q,C0.r,je,ji,jh,jd,jm,jn,jp,jq,jo,qy,rzZ,Qab,Qac,Qad,Qaa,Qae]));(all_goals(clear zz)))
   all_goals exact G0.v rfl rfl
 ·refine⟨0,decide (sv.length=m.vars.length),by omega,rfl,λh=>absurd h (QbD _),?_,by(first|omega|(simp only[jg,jj,ju,jr,jk];first|done|omega)),by(first|exact cyG|fail),?_,?_,?_,?_⟩
  ·rw[decide_eq_true_eq];exact⟨λh=>⟨h,λj a b hj=>absurd hj (QaZ _)⟩,λh=>h.1⟩
  all_goals first
   |(simp(disch:=decide) only[jb,jf];done)
   |(rw[show((0:Nat):Int)=0 from rfl];simp only[jf])
end Go.Sy
end
noncomputable section
set_option maxRecDepth 100000
namespace Go.Sy
open Go.Ev Go.Proofs
variable {base:Bs}
theorem jtk:Go.Ev.isAgg Qaf 3=some false:=by kernel_rfl
theorem jtj:Go.Ev.sizeOf Qaf 3=some 1:=by kernel_rfl
theorem sq3 {b o:Nat}{v:AV}{h:T AO}(ho:o<qt h b)(hv:rat h b o=v)(hc:eqs v=true):(jX Qaf 3 (.ptr b o) v h=true)=True:=eq_true (J4 jtk jtj ho hv hc)
theorem GD {sv:List Int}:∀ {xs ys:List SetT} {out:List Int},Qp sv (xs ++ ys) out=Qp sv ys (Qp sv xs out)
 |[],ys,out=>rfl
 |x :: xs,ys,out=>by rw[Qay,Qp,Qp,GD]
theorem jmW {sv:List Int}{xs:List SetT}{k:Nat}(hk:k<xs.length){out:List Int}(h:Qp sv (xs.take k) sv=out):Qp sv (xs.take (k+1)) sv=out.set xs[k].var.toNat (JS sv xs[k].to):=by
 rw[yE hk,GD,h,Qp,Qp]
set_option maxHeartbeats 8000000 in
theorem jts (hb:NB base)(m:ModT){enums:List EnumT}(hm:m.vars.length<=1000000)(mv:MoveT)(K:MoveK m.vars enums mv)(hw:szE mv.when<=BIG)(hto:∀ a∈mv.acts,szE a.to<=BIG)(sv t:SvT)(hs:sv.length<=1000000000000)(ht:t.length<=1000000000000) :
  Tot base 33 [.agg (mdE m),.agg (moE mv),svV sv,svV t] (.bool (byM m.vars mv sv t)):=by
 refine hb.tot ?_ (by unfold svV;simp[pa,pc,Jj,YX,yM]) rfl;have E1:=HI hb m sv hm (by omega);have E2:=HI hb m t hm (by omega);have fW:=jg4 (Cl.new (nw st0 (mdE m)) (moE mv));have f1:(nw st0 (mdE m)).nx=1:=rfl;rw[f1] at fW;have hd:byM m.vars mv sv t=(qU m.vars sv && qU m.vars t && decide (JS sv mv.when=1) && decide (Qp sv mv.acts sv=t)):=rfl;have hal:=K.len;unfold svV at *;refine jE jsm (by rfl) (hb.pur 33 1 (by decide)) ?_;simp only[jn6,jt,Qai,Qaj,Qag,Qah];rw[(by unfold jiX;simp only[qq];rfl:jiX=_)];cases h1:qU m.vars sv with
 |false=>
  rw[h1] at E1 hd;repeat'(first|(apply jc<;>intro _)|simp(disch:=first|exact dzG|fail) only[fW,E1,je,ji,jh,jd,jm,jn,jp,jq,jo,qy,rzZ,Qab,Qac,Qad,Qaa,Qae])
  all_goals exact G0.v (by rw[hd];rfl) rfl
 |true=>
  have hl:=(JJ.1 h1).1;rw[h1] at E1 hd;cases h2:qU m.vars t with
  |false=>
   rw[h2] at E2 hd;repeat'(first|(apply jc<;>intro _)|simp(disch:=first|exact dzG|fail) only[fW,E1,E2,je,ji,jh,jd,jm,jn,jp,jq,jo,qy,rzZ,Qab,Qac,Qad,Qaa,Qae])
   all_goals exact G0.v (by rw[hd];rfl) rfl
  |true=>
   rw[h2] at E2 hd;have E3:=jbr hb sv (by omega) mv.when hw (by rw[hl];exact K.when.numb);unfold svV at E3;by_cases h3:JS sv mv.when=1
   ·rw[h3] at E3;rw[decide_eq_true h3,Qcg,Qcg,Qcg] at hd;obtain⟨v',s',e,w,q⟩:=jq0 (s:=nw (nw (nw st0 (mdE m)) (moE mv)) []) (lo:=2) (hi:=3) (bytes:=8) (z:=1) (n:=0) (cs:=[]) (cs2:=sv.map (.int .i64)) (n2:=sv.length) (v:=.slice 2 0 0 0 1 true) (Lw.new (s:=nw (nw st0 (mdE m)) (moE mv)) (z:=1) (Qao _) (QbR _)) (Qao _) (by simp) (by decide) (by omega) (by omega);have f2:(nw (nw st0 (mdE m)) (moE mv)).nx=2:=rfl;have C1:Cl s' 1 (moE mv):=q.cl 1 _ (by decide) ((f1▸Cl.new (nw st0 (mdE m)) (moE mv)).nw _);have n2:2<=s'.nx:=by
     have:=q.nx;rw[jg,f2] at this;omega
    obtain⟨b0,ex0,rfl,_,_,C,hb0,_⟩:=w;rw[QaF] at C;rw[QaK] at e
    (have zz:=C1.r;(repeat'(first|(apply jc<;>intro _)|simp(disch:=first|exact jY|fail) only[fW,E1,E2,E3,e,C1.q,C1.r,je,ji,jh,jd,jm,jn,jp,jq,jo,qy,rzZ,Qab,Qac,Qad,Qaa,Qae]));(all_goals(clear zz)))
    refine qb mv.acts.length (λk L s=>(∃ out b ex,Qp sv (mv.acts.take k) sv=out/\out.length=sv.length/\Cl s b (out.map (.int .i64))/\2<=b/\Has L 9 (.slice b 0 out.length out.length 1 ex))/\2<=s.nx/\Has L 2 (.lst sv.length (sv.map (.int .i64)))/\Has L 3 (.lst t.length (t.map (.int .i64)))/\Has L 33 (.lst mv.acts.length (fl seE mv.acts))) (by first|assumption|omega) (by decide) (by simp(disch:=decide) only[jf,jb]) (by simp(disch:=decide) only[jf,jb]) ?_ (λk L s v h=>(by obtain⟨⟨out,b,ex,a1,a2,a3,a4,a5⟩,a6,a7,a8,a9⟩:=h;refine⟨⟨out,b,ex,a1,a2,a3,a4,?_⟩,a6,?_,?_,?_⟩<;>simp(disch:=decide) only[jb]<;>assumption)) (λk L s v h=>(by obtain⟨⟨out,b,ex,a1,a2,a3,a4,a5⟩,a6,a7,a8,a9⟩:=h;refine⟨⟨out,b,ex,a1,a2,a3,a4,?_⟩,a6,?_,?_,?_⟩<;>simp(disch:=decide) only[jb]<;>assumption)) (λk L s hk hI hi hn=>?_) (λL s hI=>?_)
    ·refine⟨⟨sv,b0,ex0,rfl,rfl,C,hb0,?_⟩,n2,?_,?_,?_⟩<;>simp(disch:=decide) only[jb,jf]
    ·obtain⟨⟨out,b,ex,a1,a2,C,hb2,i9⟩,n2,i2,i3,i33⟩:=hI;have ka:=K.acts _ (Qat hk);have E18:=jbr hb sv (by omega) mv.acts[k].to (hto _ (Qat hk)) (by rw[hl];exact ka.2.2.numb);unfold svV at E18;have hS:=jmW hk a1;have CA:Cl (Go.Sy.wr (Go.Sy.nw s [AV.int IntKind.i64 0,AV.int IntKind.i64 0,AV.int IntKind.i64 0,AV.str [],AV.nils,AV.int IntKind.i64 0,AV.int IntKind.i64 0]) s.nx 0 (seE mv.acts[k])) s.nx (seE mv.acts[k]):=(Cl.new s _).wr0 (by rw[Xk];rfl);have sm:=sq3 (h:=(Go.Sy.wr (Go.Sy.nw s [AV.int IntKind.i64 0,AV.int IntKind.i64 0,AV.int IntKind.i64 0,AV.str [],AV.nils,AV.int IntKind.i64 0,AV.int IntKind.i64 0]) s.nx 0 (seE mv.acts[k])).h) (b:=s.nx) (o:=0) (v:=.int .i64 mv.acts[k].var) (by rw[CA.len,Xk];decide) ((CA.cell 0 (by rw[Xk];decide)).trans rfl) rfl;have hbn:=C.lt;have hlen:qt s.h b=out.length:=by rw[C.len,QaP]
     have gv0:=ka.1;have gv1:mv.acts[k].var<(out.length:Int):=by omega
     have hz:mv.acts[k].var.toNat+1<=out.length:=by omega
     generalize JS sv mv.acts[k].to=n at E18 hS;repeat'(first|(apply jc<;>intro _)|simp(disch:=first|exact dzG|fail) only[ja i2,ja i3,ja i9,ja i33,ja hi,ja hn,Km,E18,sm,je,ji,jh,jd,jm,jn,jp,jq,jo,qy,rzZ,Qab,Qac,Qad,Qaa,Qae])
     have hC2:Cl (Go.Sy.wr (Go.Sy.wr (Go.Sy.nw s [AV.int IntKind.i64 0,AV.int IntKind.i64 0,AV.int IntKind.i64 0,AV.str [],AV.nils,AV.int IntKind.i64 0,AV.int IntKind.i64 0]) s.nx 0 (seE mv.acts[k])) b mv.acts[k].var.toNat [AV.int IntKind.i64 n]) b ((out.set mv.acts[k].var.toNat n).map (.int .i64)):=by
      rw[<-gH _ _ _ (by omega)];exact((C.nw _).wrO (by omega) _ _).wr _ _
     refine⟨⟨⟨_,b,ex,hS,by rw[Qcj];exact a2,hC2,hb2,?_⟩,by omega,?_,?_,?_⟩,?_,?_⟩;all_goals first
      |(simp(disch:=decide) only[jb,jf,Qcj];done)
      |(simp(disch:=decide) only[jb,Qcj];assumption)
    ·obtain⟨⟨out,b,ex,a1,a2,C,hb2,i9⟩,n2,i2,i3,i33⟩:=hI;rw[Qaz] at a1;have F:Fza s [.slice b 0 out.length out.length 1 ex,svV t] [.lst out.length (out.map (.int .i64)),svV t] [b]:=Fza.sl C (by simp) (yM _) (Fza.pa rfl .nil);have E29:=λK Kp=>(jd1 hb out t (by omega) (by omega)).xf F (λst=>hb.no 29 (by decide) _ _) K Kp;unfold svV at E29;repeat'(first|(apply jc<;>intro _)|simp(disch:=first|exact dzG|fail) only[ja i2,ja i3,ja i9,E29,ZF,je,ji,jh,jd,jm,jn,jp,jq,jo,qy,rzZ,Qab,Qac,Qad,Qaa,Qae])
     exact G0.v (by rw[hd,a1]) rfl
   ·rw[decide_eq_false h3] at hd;repeat'(first|(apply jc<;>intro _)|simp(disch:=first|exact dzG|fail) only[fW,E1,E2,E3,h3,je,ji,jh,jd,jm,jn,jp,jq,jo,qy,rzZ,Qab,Qac,Qad,Qaa,Qae])
    all_goals first|exact G0.v (by rw[hd];simp) rfl
end Go.Sy
end
noncomputable section
set_option maxRecDepth 100000
namespace Go.Sy
open Go.Ev Go.Proofs
variable {base:Bs}
theorem jrM:Go.Ev.isAgg Qaf 35=some true:=by kernel_rfl
theorem jrL:Go.Ev.sizeOf Qaf 35=some 3:=by kernel_rfl
theorem jrN {b:Nat}{m:ModT}{h:T AO}(ho:3<=qt h b)(hv:rats h b 0 3=mdE m):(jX Qaf 35 (.ptr b 0) (.agg (mdE m)) h=true)=True:=eq_true (YR jrM jrL (by decide) (by omega) hv rfl)
theorem jaa {s:St}{m:ModT}{c:List AV}{q p:Bool}(h:FzsD 0 7 s c (mdE m))(h2:q=p):G0 (.tup [.agg (mdE m),.bool p]) (.tup [.agg c,.bool q]) s:=by
 subst h2;exact FzD.tup (.cons (.agg h) (.cons (.pc rfl) .nil))
theorem jhw {s:St}:FzsD 0 7 s [.nils,.nils,.nils] (mdE md0):=.cons .nils (.cons .nils (.cons .nils .nil))
set_option maxHeartbeats 8000000 in
theorem jpL (hb:NB base)(hP:PI base)(src:SrcT)(wr:WrS src):Tot base 10 [.agg (srE src)] (.tup [.agg (mdE (ZC src).1),.bool (ZC src).2]):=by
 refine hb.tot ?_ (by simp[pa,Kb]) rfl;have E35:=jiH hb src wr;unfold jeM at E35;have hd:ZC src=match Qo src with|none=>(md0,false)|some t=>if 5000<t.length then(md0,false) else((zS t [116,114,117,101]).m,decide ((zS t [116,114,117,101]).c=0/\(zS t [116,114,117,101]).l=0/\(zS t [116,114,117,101]).k=0) && decide (Zf (zS t [116,114,117,101]).m.vars<=300)):=rfl
 refine jE jsw (by rfl) (hb.pur 10 1 (by decide)) ?_;simp only[jog,jt,Qai,Qaj,Qag,Qah];rw[(by unfold ji7;simp only[qq];rfl:ji7=_)];cases hs:Qo src with
 |none=>
  rw[hs] at E35 hd;have E35:Tot base 35 [.agg (srE src)] (.tup [.str [],.int .i64 141]):=E35;dsimp only at hd;rw[hd];repeat'(first|(apply jc<;>intro _)|simp(disch:=first|exact dzG|fail) only[E35,je,ji,jh,jd,jm,jn,jp,jq,jo,qy,rzZ,Qab,Qac,Qad,Qaa,Qae])
  all_goals exact jaa jhw rfl
 |some t=>
  rw[hs] at E35 hd;have E35:Tot base 35 [.agg (srE src)] (.tup [.str t,.int .i64 0]):=E35;dsimp only at hd;by_cases h5:5000<t.length
  ·have h5':(5000:Int)<(t.length:Int):=by omega
   rw[if_pos h5] at hd;rw[hd];repeat'(first|(apply jc<;>intro _)|simp(disch:=first|exact dzG|fail) only[E35,h5',je,ji,jh,jd,jm,jn,jp,jq,jo,qy,rzZ,Qab,Qac,Qad,Qaa,Qae])
   all_goals exact jaa jhw rfl
  ·have h5':¬ (5000:Int)<(t.length:Int):=by omega
   rw[if_neg h5] at hd;rw[hd];have E34:=jq7 hb hP t [116,114,117,101] (by omega) (by decide);have ok:=λh=>jbs (l:=t) (f:=[116,114,117,101]) h;unfold kZ at E34;generalize zS t [116,114,117,101]=r at E34 ok;obtain⟨m,x,c,l,k⟩:=r;dsimp only at E34 ok ⊢;have E34:Tot base 34 [.str t,.str [116,114,117,101]] (.tup [.agg (mdE m),.agg (eE x),.agg [.int .i64 c,.int .i64 l,.int .i64 k]]):=E34;by_cases hz:c=0/\l=0/\k=0
   ·have V:=(ok hz.1).1;have E36:=λst K Kp=>(jbg hb m.vars V.len m.enums.length m.moves.length (fl enE m.enums) (fl moE m.moves)).pa (by simp[pa,pc]) (λst=>hb.no 36 (by decide) _ _) st K Kp;rw[decide_eq_true hz,Qcg];have E36:∀ (st:St) (K Kp:AV->St->Prop),XB Qaf base 36 [.agg (mdE m)] st K Kp=K (.int .i64 (Zf m.vars)) st:=E36;have f2:(nw (nw st0 (srE src)) [AV.nils,AV.nils,AV.nils]).nx=2:=rfl;have CX:=((((((f2▸Cl.new (nw (nw st0 (srE src)) [AV.nils,AV.nils,AV.nils]) [AV.nils,AV.nils,AV.nils]:Cl (nw (nw (nw st0 (srE src)) [AV.nils,AV.nils,AV.nils]) [AV.nils,AV.nils,AV.nils]) 2 [AV.nils,AV.nils,AV.nils]).nw [AV.int .i64 0,AV.int .i64 0,AV.str [],AV.nils,AV.int .i64 0,AV.int .i64 0]).nw [AV.int .i64 0,AV.int .i64 0,AV.int .i64 0]).wr0 (c':=mdE m) rfl).wrO (c:=3) (by decide) 0 (eE x)).wrO (c:=4) (by decide) 0 [AV.int .i64 0,AV.int .i64 0,AV.int .i64 0]);have sm:=jrN (by rw[CX.len];exact Qao 3) (CX.rats0 rfl);obtain⟨rfl,rfl,rfl⟩:=hz;repeat'(first|(apply jc<;>intro _)|simp(disch:=first|exact dzG|fail) only[E35,h5',E34,jlA,jlz,jly,fEq,E36,sm,je,ji,jh,jd,jm,jn,jp,jq,jo,qy,rzZ,Qab,Qac,Qad,Qaa,Qae])
    all_goals exact jaa (FzsD.pc (Jj m)) rfl
   ·rw[decide_eq_false hz,Bool.false_and];repeat'(first|(apply jc<;>intro _)|simp(disch:=first|exact dzG|fail) only[E35,h5',E34,jlA,jlz,jly,fEq,hz,je,ji,jh,jd,jm,jn,jp,jq,jo,qy,rzZ,Qab,Qac,Qad,Qaa,Qae])
    all_goals exact jaa (FzsD.pc (Jj m)) rfl
end Go.Sy
end
noncomputable section
set_option maxRecDepth 100000
namespace Go.Sy
open Go.Ev Go.Proofs
variable {base:Bs}
set_option maxHeartbeats 16000000 in
theorem law7_ok (hb:NB base)(h9:∀ st,base.run 9 [] st=.ok (.bool true) st)(hP:PI base)(hC:CloneP base)(src:SrcT)(sv:SvT)(hm:szS src<=1048576)(hs:sv.length<=1048576):XB Qaf base 7 [.agg (srE src),svV sv] st0 (λv _=>v=.bool true) λ_ _=>False:=by
 have E9:=λ(st:St) (K Kp:AV->St->Prop)=>V9 (P:=Qaf) (base:=base) (h9 st) K Kp;have E10:=jpL hb hP src (jo7 hm);obtain⟨vs,hvs⟩:∃ vs,vs=svV sv:=⟨_,rfl⟩;rw[<-hvs];refine zW xs7 (by rfl) (hb.at0 7 (by decide) (by decide) _ _) ?_;simp only[ys7,jt,Qai,Qaj,Qag,Qah];rw[(by unfold zs7;simp only[qq];rfl:zs7=_)];cases h1:(ZC src).2 with
 |false=>
  rw[h1] at E10;repeat'(first|(apply jc<;>intro _)|simp(disch:=first|exact dzG|fail) only[E9,E10,je,ji,jh,jd,jm,jn,jp,jq,jo,qy,rzZ,Qab,Qac,Qad,Qaa,Qae])
 |true=>
  rw[h1] at E10;obtain⟨MK,V⟩:=jki h1;generalize (ZC src).1=m at E10 MK V;have B:ModB m:=⟨V.len,by have:=MK.len;omega,λv hv=>⟨(MK.moves v hv).len,(MK.moves v hv).when.sz,λa ha=>((MK.moves v hv).acts a ha).2.2.sz⟩⟩;have hmv:=MK.len;have E25:=λ(t:SvT) (ht:t.length<=1099511627776) st K Kp=>(ke hb m t V.len ht).pa (by unfold svV;simp[pa,pc,Jj,yM]) (λst=>hb.no 25 (by decide) _ _) st K Kp;have E25s:=E25 sv (by omega);rw[<-hvs] at E25s;cases hr:qU m.vars sv with
  |false=>
   rw[hr] at E25s;repeat'(first|(apply jc<;>intro _)|simp(disch:=first|exact dzG|fail) only[E9,E10,E25s,ZF,je,ji,jh,jd,jm,jn,jp,jq,jo,qy,rzZ,Qab,Qac,Qad,Qaa,Qae])
  |true=>
   rw[hr] at E25s;have E27:=jiK hb hC m B sv (by omega);have EF:=λ(t:SvT) (ht:t.length<=1000000000000)=>jiN hb hC m B sv t (by omega) ht;have EB:=λ(mv:MoveT) (hv:mv∈m.moves) (t:SvT) (ht:t.length<=1000000000000)=>jts hb m V.len mv (MK.moves mv hv) (MK.moves mv hv).when.sz (λa ha=>((MK.moves mv hv).acts a ha).2.2.sz) sv t (by omega) ht;have G:=jnu MK hr;have hl:∀ t∈Qv m sv,t.length=m.vars.length:=λt h=>G2 h;have hVl:=V.len;have hf:=@G3 m sv;rw[<-hvs] at E27;generalize Qv m sv=ls at E27 EF G hl hf;have g0:¬ (ls.length:Int)=0:=by have:=G.some;omega
   have q1:((m.moves.length:Int)<(ls.length:Int))=(m.moves.length<ls.length):=by rw[eq_iff_iff];omega
   have q2:((ls.length:Int)=1)=(ls.length=1):=by rw[eq_iff_iff];omega
   have few:=G.few;repeat'(first|(apply jc<;>intro _)|simp(disch:=first|exact dzG|fail) only[E9,E10,E25s,ZF,E27,g0,q1,q2,je,ji,jh,jd,jm,jn,jp,jq,jo,qy,rzZ,Qab,Qac,Qad,Qaa,Qae])
   all_goals try(exfalso;omega)
   all_goals
    refine qb ls.length (λk L s=>2<=s.nx/\Cl s 1 (mdE m)/\Has L 1 vs/\Has L 5 (.ptr 1 0)/\Has L 7 (.lst ls.length (fl svE ls))/\Has L 47 (.lst ls.length (fl svE ls))) (by first|assumption|omega) (by decide) (by simp(disch:=decide) only[jf,jb]) (by simp(disch:=decide) only[jf,jb]) ?_ (λk L s v h=>(by obtain⟨a1,a2,a3,a4,a5,a6⟩:=h;refine⟨a1,a2,?_,?_,?_,?_⟩<;>simp(disch:=decide) only[jb]<;>assumption)) (λk L s v h=>(by obtain⟨a1,a2,a3,a4,a5,a6⟩:=h;refine⟨a1,a2,?_,?_,?_,?_⟩<;>simp(disch:=decide) only[jb]<;>assumption)) (λk L s hk hI hi hn=>?_) (λL s hI=>?_)
    ·refine⟨by(first|omega|(simp only[jg,jj,ju,jr,jk];first|done|omega)),by(first|exact cyG|fail),?_,?_,?_,?_⟩<;>simp(disch:=decide) only[jb,jf]
    ·obtain⟨n2,C1,i1,i5,i7,i47⟩:=hI;have ht:=hl _ (Qat hk);have Et:=E25 ls[k] (by omega);rw[G.right _ (Qat hk)] at Et;have EFt:=EF ls[k] (by omega);rw[decide_eq_true (Qat hk),<-hvs] at EFt;have EH:=jnV hb (ls.take k) (by unfold BIG;rw[QaH];omega) ls[k] (by omega) (λx hx=>by have:=hl x (QbM hx);omega);have hnd:ls[k]∉ls.take k:=λh=>by
      obtain⟨j,hj,e⟩:=Qbu.1 h;rw[QaH] at hj;rw[List.getElem_take] at e;exact List.pairwise_iff_getElem.1 G.nodup j k (by omega) hk (by omega) e
     rw[decide_eq_false hnd,QaH,QbU (by omega)] at EH;have eS:∀ (st:St) (K:AV->St->Prop),jl (w9 1 (.lst ls.length (fl svE ls)) none (some (.int .i64 (k:Int))) st) K=K (.lst k (fl svE (ls.take k))) st:=λst K=>jlo vK (by omega);have EE:=jmk hb sv ls[k] (by omega) (by omega);rw[<-hvs] at EE;have EBt:=λmv hv=>EB mv hv ls[k] (by omega);have hby:=G.by_ _ (Qat hk);rw[<-hvs] at EBt;generalize hvt:svV ls[k]=vt at *;unfold mdE at Et EFt EBt
     (have zz:=C1.r;(repeat'(first|(apply jc<;>intro _)|simp(disch:=first|exact jY|fail) only[ja i1,ja i5,ja i7,ja i47,ja hi,ja hn,jeJ,hvt,Et,ZF,EFt,eS,EH,C1.q,C1.r,je,ji,jh,jd,jm,jn,jp,jq,jo,qy,rzZ,Qab,Qac,Qad,Qaa,Qae]));(all_goals(clear zz)))
     refine qb m.moves.length (λk2 L s=>Has L 10 (.bool ((m.moves.take k2).any λmv=>byM m.vars mv sv ls[k]))/\2<=s.nx/\Cl s 1 (mdE m)/\Has L 1 vs/\Has L 5 (.ptr 1 0)/\Has L 7 (.lst ls.length (fl svE ls))/\Has L 9 vt/\Has L 47 (.lst ls.length (fl svE ls))/\Has L 49 (.int .i64 (k:Int))/\Has L 48 (.int .i64 (ls.length:Int))/\Has L 73 (.lst m.moves.length (fl moE m.moves))) (by first|assumption|omega) (by decide) (by simp(disch:=decide) only[jf,jb]) (by simp(disch:=decide) only[jf,jb]) ?_ (λk L s v h=>(by obtain⟨a1,a2,a3,a4,a5,a6,a7,a8,a9,a10,a11⟩:=h;refine⟨?_,a2,a3,?_,?_,?_,?_,?_,?_,?_,?_⟩<;>simp(disch:=decide) only[jb]<;>assumption)) (λk L s v h=>(by obtain⟨a1,a2,a3,a4,a5,a6,a7,a8,a9,a10,a11⟩:=h;refine⟨?_,a2,a3,?_,?_,?_,?_,?_,?_,?_,?_⟩<;>simp(disch:=decide) only[jb]<;>assumption)) (λky Ly sy hky hIy hiy hny=>?_) (λLy sy hIy=>?_)
     ·refine⟨?_,n2,C1,?_,?_,?_,?_,?_,?_,?_,?_⟩;all_goals first
       |(simp(disch:=decide) only[jb,jf,Qbd,List.any_nil];done)
       |(simp(disch:=decide) only[jb];assumption)
     ·obtain⟨j10,m2,D1,j1,j5,j7,j9,j47,j49,j48,j73⟩:=hIy;have E33:=EBt m.moves[ky] (Qat hky);have hS:=jr9 (p:=λmv=>byM m.vars mv sv ls[k]) hky;cases hq:(m.moves.take ky).any λmv=>byM m.vars mv sv ls[k] with
      |true=>
       rw[hq] at j10 hS;repeat'(first|(apply jc<;>intro _)|simp(disch:=first|exact dzG|fail) only[ja j10,ja j1,ja j5,ja j9,ja j73,ja hiy,ja hny,je,ji,jh,jd,jm,jn,jp,jq,jo,qy,rzZ,Qab,Qac,Qad,Qaa,Qae])
       refine⟨⟨?_,by omega,(D1.nw _).wrO (by omega) _ _,?_,?_,?_,?_,?_,?_,?_,?_⟩,?_,?_⟩
       ·rw[hS];simp(disch:=decide) only[jf,Bool.true_or,Bool.false_or]
       all_goals(simp(disch:=decide) only[jb];assumption)
      |false=>
       rw[hq] at j10 hS
       (have zz:=D1.r;(repeat'(first|(apply jc<;>intro _)|simp(disch:=first|exact jY|fail) only[ja j10,ja j1,ja j5,ja j9,ja j73,ja hiy,ja hny,E33,D1.q,D1.r,je,ji,jh,jd,jm,jn,jp,jq,jo,qy,rzZ,Qab,Qac,Qad,Qaa,Qae]));(all_goals(clear zz)))
       all_goals
        refine⟨⟨?_,by omega,(D1.nw _).wrO (by omega) _ _,?_,?_,?_,?_,?_,?_,?_,?_⟩,?_,?_⟩
        ·rw[hS,Bool.false_or];first
          |(simp only[jf];done)
          |(have e:byM m.vars m.moves[ky] sv ls[k]=true:=by assumption;rw[e];simp only[jf];done)
          |(exfalso;omega)
        all_goals(simp(disch:=decide) only[jb];assumption)
     ·obtain⟨j10,m2,D1,j1,j5,j7,j9,j47,j49,j48,j73⟩:=hIy;rw[Qaz] at j10;cases hq:m.moves.any λmv=>byM m.vars mv sv ls[k] with
      |true=>
       rw[hq] at j10;repeat'(first|(apply jc<;>intro _)|simp(disch:=first|exact dzG|fail) only[ja j10,ja j1,ja j5,ja j7,ja j9,ja j49,je,ji,jh,jd,jm,jn,jp,jq,jo,qy,rzZ,Qab,Qac,Qad,Qaa,Qae])
       refine⟨⟨m2,D1,?_,?_,?_,?_⟩,?_,?_⟩<;>simp(disch:=decide) only[jb]<;>assumption
      |false=>
       rw[hq] at j10;obtain⟨h1l,hse⟩:ls.length=1/\sv=ls[k]:=by
        rcases hby with h|h
        ·rw[hq] at h;cases h
        ·exact h
       rw[decide_eq_true hse] at EE;have q2t:((ls.length:Int)=1)=True:=eq_true (by omega);repeat'(first|(apply jc<;>intro _)|simp(disch:=first|exact dzG|fail) only[ja j10,ja j1,ja j5,ja j7,ja j9,ja j49,q2t,EE,je,ji,jh,jd,jm,jn,jp,jq,jo,qy,rzZ,Qab,Qac,Qad,Qaa,Qae])
       refine⟨⟨m2,D1,?_,?_,?_,?_⟩,?_,?_⟩<;>simp(disch:=decide) only[jb]<;>assumption
    ·repeat'(first|(apply jc<;>intro _)|simp(disch:=first|exact dzG|fail) only[je,ji,jh,jd,jm,jn,jp,jq,jo,qy,rzZ,Qab,Qac,Qad,Qaa,Qae])
     all_goals rfl
end Go.Sy
end
noncomputable section
namespace Go.Proofs
open Go.Shelf
def Tryz.laysC174_ren:Go.Shelf.Ren:=⟨λ|174=>117|247=>140|245=>141|287=>159|279=>160|280=>161|281=>162|282=>163|321=>171|322=>172|316=>173|171=>175|205=>174|243=>176|246=>177|283=>135|284=>136|285=>137|286=>138|129=>155|317=>154|318=>156|319=>157|320=>158|337=>169|338=>170|n=>n,λ|9=>9|3=>3|2=>2|75=>191|85=>192|4=>4|167=>227|5=>5|53=>122|175=>228|46=>225|168=>230|37=>125|0=>0|210=>241|21=>21|127=>245|145=>248|143=>246|171=>209|173=>212|212=>222|51=>223|20=>20|213=>224|232=>243|233=>244|80=>250|n=>n,λ|15=>1|16=>2|17=>0|18=>3|19=>4|n=>n⟩
theorem Tryz.laysC174:Go.Proofs.LaysC.n174 Qaf Tryz.laysC174_ren:={
 mixed:=by kernel_rfl
 f129:=Tryz.func155.trans (congrArg some (by kernel_rfl))
 f171:=Tryz.func175.trans (congrArg some (by kernel_rfl))
 f174:=Tryz.func117.trans (congrArg some (by kernel_rfl))
 f205:=Tryz.func174.trans (congrArg some (by kernel_rfl))
 f243:=Tryz.func176.trans (congrArg some (by kernel_rfl))
 f245:=Tryz.func141.trans (congrArg some (by kernel_rfl))
 f246:=Tryz.func177.trans (congrArg some (by kernel_rfl))
 f247:=Tryz.func140.trans (congrArg some (by kernel_rfl))
 f279:=Tryz.func160.trans (congrArg some (by kernel_rfl))
 f280:=Tryz.func161.trans (congrArg some (by kernel_rfl))
 f281:=Tryz.func162.trans (congrArg some (by kernel_rfl))
 f282:=Tryz.func163.trans (congrArg some (by kernel_rfl))
 f283:=Tryz.func135.trans (congrArg some (by kernel_rfl))
 f284:=Tryz.func136.trans (congrArg some (by kernel_rfl))
 f285:=Tryz.func137.trans (congrArg some (by kernel_rfl))
 f286:=Tryz.func138.trans (congrArg some (by kernel_rfl))
 f287:=Tryz.func159.trans (congrArg some (by kernel_rfl))
 f316:=Tryz.func173.trans (congrArg some (by kernel_rfl))
 f317:=Tryz.func154.trans (congrArg some (by kernel_rfl))
 f318:=Tryz.func156.trans (congrArg some (by kernel_rfl))
 f319:=Tryz.func157.trans (congrArg some (by kernel_rfl))
 f320:=Tryz.func158.trans (congrArg some (by kernel_rfl))
 f321:=Tryz.func171.trans (congrArg some (by kernel_rfl))
 f322:=Tryz.func172.trans (congrArg some (by kernel_rfl))
 f337:=Tryz.func169.trans (congrArg some (by kernel_rfl))
 f338:=Tryz.func170.trans (congrArg some (by kernel_rfl))
 t0:=Tryz.underlying0
 a0:=Tryz.isAgg0
 z0:=Tryz.sizeOf0
 v0:=Tryz.zeroValue0
 t2:=Tryz.underlying2
 a2:=Tryz.isAgg2
 z2:=Tryz.sizeOf2
 v2:=Tryz.zeroValue2
 t3:=Tryz.underlying3
 a3:=Tryz.isAgg3
 z3:=Tryz.sizeOf3
 v3:=Tryz.zeroValue3
 t4:=Tryz.underlying4
 a4:=Tryz.isAgg4
 z4:=Tryz.sizeOf4
 v4:=Tryz.zeroValue4
 t5:=Tryz.underlying5
 a5:=Tryz.isAgg5
 z5:=Tryz.sizeOf5
 v5:=Tryz.zeroValue5
 t9:=Tryz.underlying9
 a9:=Tryz.isAgg9
 z9:=Tryz.sizeOf9
 v9:=Tryz.zeroValue9
 t20:=Tryz.underlying20
 a20:=Tryz.isAgg20
 z20:=Tryz.sizeOf20
 v20:=Tryz.zeroValue20
 t21:=Tryz.underlying21
 a21:=Tryz.isAgg21
 z21:=Tryz.sizeOf21
 v21:=Tryz.zeroValue21
 t37:=Tryz.underlying125
 a37:=Tryz.isAgg125
 z37:=Tryz.sizeOf125
 v37:=Tryz.zeroValue125
 t46:=Tryz.underlying225
 a46:=Tryz.isAgg225
 z46:=Tryz.sizeOf225
 v46:=Tryz.zeroValue225
 t51:=Tryz.underlying223
 a51:=Tryz.isAgg223
 z51:=Tryz.sizeOf223
 v51:=Tryz.zeroValue223
 t53:=Tryz.underlying122
 a53:=Tryz.isAgg122
 z53:=Tryz.sizeOf122
 v53:=Tryz.zeroValue122
 t75:=Tryz.underlying191
 a75:=Tryz.isAgg191
 z75:=Tryz.sizeOf191
 v75:=Tryz.zeroValue191
 t85:=Tryz.underlying192
 a85:=Tryz.isAgg192
 z85:=Tryz.sizeOf192
 v85:=Tryz.zeroValue192
 t127:=Tryz.underlying245
 a127:=Tryz.isAgg245
 z127:=Tryz.sizeOf245
 v127:=Tryz.zeroValue245
 t143:=Tryz.underlying246
 a143:=Tryz.isAgg246
 z143:=Tryz.sizeOf246
 v143:=Tryz.zeroValue246
 t145:=Tryz.underlying248
 a145:=Tryz.isAgg248
 z145:=Tryz.sizeOf248
 v145:=Tryz.zeroValue248
 t167:=Tryz.underlying227
 a167:=Tryz.isAgg227
 z167:=Tryz.sizeOf227
 v167:=Tryz.zeroValue227
 t168:=Tryz.underlying230
 a168:=Tryz.isAgg230
 z168:=Tryz.sizeOf230
 v168:=Tryz.zeroValue230
 t171:=Tryz.underlying209
 a171:=Tryz.isAgg209
 z171:=Tryz.sizeOf209
 v171:=Tryz.zeroValue209
 t173:=Tryz.underlying212
 a173:=Tryz.isAgg212
 z173:=Tryz.sizeOf212
 v173:=Tryz.zeroValue212
 t175:=Tryz.underlying228
 a175:=Tryz.isAgg228
 z175:=Tryz.sizeOf228
 v175:=Tryz.zeroValue228
 t210:=Tryz.underlying241
 a210:=Tryz.isAgg241
 z210:=Tryz.sizeOf241
 v210:=Tryz.zeroValue241
 t212:=Tryz.underlying222
 a212:=Tryz.isAgg222
 z212:=Tryz.sizeOf222
 v212:=Tryz.zeroValue222
 t213:=Tryz.underlying224
 a213:=Tryz.isAgg224
 z213:=Tryz.sizeOf224
 t232:=Tryz.underlying243
 a232:=Tryz.isAgg243
 z232:=Tryz.sizeOf243
 v232:=Tryz.zeroValue243
 t233:=Tryz.underlying244
 a233:=Tryz.isAgg244
 z233:=Tryz.sizeOf244
 v233:=Tryz.zeroValue244
 g15:=by kernel_rfl
 g16:=by kernel_rfl
 g17:=by kernel_rfl
 g18:=by kernel_rfl
 g19:=by kernel_rfl
 t80:=Tryz.underlying250
 a80:=Tryz.isAgg250
 z80:=Tryz.sizeOf250
 v80:=Tryz.zeroValue250
 i0:=by kernel_rfl
 i2:=by kernel_rfl
 i3:=by kernel_rfl
 i4:=by kernel_rfl
 i5:=by kernel_rfl
 i9:=by kernel_rfl
 i20:=by kernel_rfl
 i21:=by kernel_rfl
 i37:=by kernel_rfl
 i46:=by kernel_rfl
 i51:=by kernel_rfl
 i53:=by kernel_rfl
 i75:=by kernel_rfl
 i80:=by kernel_rfl
 i85:=by kernel_rfl
 i127:=by kernel_rfl
 i143:=by kernel_rfl
 i145:=by kernel_rfl
 i167:=by kernel_rfl
 i168:=by kernel_rfl
 i171:=by kernel_rfl
 i173:=by kernel_rfl
 i175:=by kernel_rfl
 i210:=by kernel_rfl
 i212:=by kernel_rfl
 i232:=by kernel_rfl
 i233:=by kernel_rfl
 m15:=by kernel_rfl
 m16:=by kernel_rfl
 m17:=by kernel_rfl
 m18:=by kernel_rfl
 m19:=by kernel_rfl
 c0:=by kernel_rfl
 c2:=by kernel_rfl
 c3:=by kernel_rfl
 c4:=by kernel_rfl
 c5:=by kernel_rfl
 c9:=by kernel_rfl
 c20:=by kernel_rfl
 c21:=by kernel_rfl
 c37:=by kernel_rfl
 c46:=by kernel_rfl
 c51:=by kernel_rfl
 c53:=by kernel_rfl
 c75:=by kernel_rfl
 c80:=by kernel_rfl
 c85:=by kernel_rfl
 c127:=by kernel_rfl
 c143:=by kernel_rfl
 c145:=by kernel_rfl
 c167:=by kernel_rfl
 c168:=by kernel_rfl
 c171:=by kernel_rfl
 c173:=by kernel_rfl
 c175:=by kernel_rfl
 c210:=by kernel_rfl
 c212:=by kernel_rfl
 c213:=by kernel_rfl
 c232:=by kernel_rfl
 c233:=by kernel_rfl }
open Go.RowKit in
theorem Tryz.strconv_ParseInt_10_at64_ok (s:ByteArray)(hmax:s.size<=9223372036854775806)(v:Int)(h:Lib.parseIntB 64 s.data.toList=.ok v)(w:World) :
 Calls Qaf 117 #[.string s,.int .i64 10,.int .i64 64] w λe w'=>e=.returned (.tuple #[.int .i64 v,.nilIface])/\(w'=w\/∃ t,w'=Lib.bytesWorld w 5 t):=Any.strconv_ParseInt_10_at64_ok Tryz.laysC174 s hmax v h w
open Go.RowKit in
theorem Tryz.strconv_ParseInt_10_at64_range (s:ByteArray)(hlim:s.size<=281474976710656)(h:Lib.parseIntB 64 s.data.toList=.range)(ev:Value)(w:World)(hv:w.cell? ⟨2,0,none⟩=some ev)(hev:ev=.nilIface\/∃ te pe,ev=.iface te pe) :
 Calls Qaf 117 #[.string s,.int .i64 10,.int .i64 64] w λe w'=>∃ N,e=.returned (.tuple #[.int .i64 (Lib.intSat 64 s.data.toList),.iface 230 (.pointer (some ⟨N,0,none⟩))])/\w.heap.size<=N/\w'.heap[N]? = some (.cells #[.string ⟨#[80,97,114,115,101,73,110,116]⟩,.string s,ev] 241 (0,0))/\Below w.heap.size w w':=Any.strconv_ParseInt_10_at64_range Tryz.laysC174 s hlim h ev w hv hev
end Go.Proofs
end
noncomputable section
namespace Go.Proofs
open Go.Shelf Go.RowKit Go.Lib
set_option maxHeartbeats 1000000 in
theorem Tryz.clone_nil (n c:Nat)(w:World):Calls Qaf 49 #[.slice none n c] w λe w'=>e=.returned (.slice none 0 0)/\w'=w:=by
 have mixed:Tryz.prog.follows .mixedOrders=true:=by kernel_rfl
 have t3:=Tryz.underlying2;have a3:=Tryz.isAgg2;have z3:=Tryz.sizeOf2;have v3:=Tryz.zeroValue2;have t4:=Tryz.underlying4;have a4:=Tryz.isAgg4;have z4:=Tryz.sizeOf4;have v4:=Tryz.zeroValue4;have t22:=Tryz.underlying30;have a22:=Tryz.isAgg30;have z22:=Tryz.sizeOf30;have v22:=Tryz.zeroValue30;have q22:∀ (w:World) (a:Option Addr) (n c n' c':Nat),(binOp .eql 30 (.slice a n c) (.slice none n' c')).run Qaf w=.ok (.bool a.isNone) w:=λw a n c n' c'=>Lib.run_eql_slice_nil w _ _ a n c n' c' Tryz.underlying30
 go_enter Tryz.func49,Tryz.ntmps49
 go_wp2
 go_ret
 exact⟨rfl,rfl⟩
set_option maxHeartbeats 2000000 in
set_option maxRecDepth 100000 in
theorem Tryz.clone_zero (a:Addr)(c:Nat)(w:World):Calls Qaf 49 #[.slice (some a) 0 c] w λe w'=>∃ v',e=.returned v'/\w'.ownsRow w.heap.size 2 1 v' 0 []/\Below w.heap.size w w':=by
 have mixed:Tryz.prog.follows .mixedOrders=true:=by kernel_rfl
 have t3:=Tryz.underlying2;have a3:=Tryz.isAgg2;have z3:=Tryz.sizeOf2;have v3:=Tryz.zeroValue2;have t4:=Tryz.underlying4;have a4:=Tryz.isAgg4;have z4:=Tryz.sizeOf4;have v4:=Tryz.zeroValue4;have t22:=Tryz.underlying30;have a22:=Tryz.isAgg30;have z22:=Tryz.sizeOf30;have v22:=Tryz.zeroValue30;have i3:(Tryz.prog.info? 2).map (λi=>(i.zero,i.size,i.bytes))=some (some (Value.int IntKind.i64 0),1,8):=by kernel_rfl
 obtain⟨i0,hi,hz0,hz1,hz2⟩:=info_parts i3;have q22:∀ (w:World) (a:Option Addr) (n c n' c':Nat),(binOp .eql 30 (.slice a n c) (.slice none n' c')).run Qaf w=.ok (.bool a.isNone) w:=λw a n c n' c'=>Lib.run_eql_slice_nil w _ _ a n c n' c' Tryz.underlying30;have u22:∀ w,Sem.run Qaf (underlying 30) w=.ok (TypeDesc.slice 2) w:=run_underlying t22
 go_enter Tryz.func49,Tryz.ntmps49
 go_wp2_with (at_builtin;refine wpList_append_own _ rfl _ _ 30 rfl w.heap.size 2 i0 (.int .i64 0) 1 8 t22 hi hz0 hz1 hz2 rfl (by decide) _ _ _ rfl (World.ownsRow_made w #[] 0 (Qao _) (QaG _) rfl) a 0 c [] rfl rfl (by intro j u hj;simp at hj) (by intro u hu;cases hu) (by unfold maxLen;omega) (by omega) (by simp) ?_)
 intro v' w1 hown hgrow hnil
 go_wp2
 go_ret
 refine⟨v',rfl,by simpa using hown,?_⟩;exact((Below.refl _ w).alloc (Qao _) _).grown hgrow (by simp) (by intro k hk;simp[Value.ownBlock] at hk;omega)
end Go.Proofs
end
noncomputable section
set_option maxRecDepth 100000
namespace Go.Sy
open Go.Ev Go.Proofs
open Go.RowKit (Below)
theorem w8:okP Qaf=true:=by kernel_rfl
theorem kX:Tryz.prog.follows .mixedOrders=true:=by kernel_rfl
theorem jrO:jhF (gb Qaf 10000000 400 9 [] st0)=true:=by kernel_rfl
def Gs (l:List UInt8):Prop:=∀ c∈l,48<=c.toNat/\c.toNat<=57
theorem GT:∀ (l:List UInt8) (acc:Nat),Gs l->(acc+1) * 10 ^ l.length<=100000000->Lib.parseUintM 18446744073709551615 acc l=.ok ((l.map UInt8.toNat).foldl (λv c=>10 * v+(c - 48)) acc)
 |[],acc,_,_=>rfl
 |c :: r,acc,hd,h=>by
  have hc:=hd c (by simp);rw[Qak,Nat.pow_succ] at h;have hp:1<=10 ^ r.length:=Nat.one_le_pow _ _ (by decide);have hacc:(acc+1) * 10<=100000000:=by
   have:(acc+1) * 10 * 1<=(acc+1) * 10 * 10 ^ r.length:=Nat.mul_le_mul_left _ hp;have e:(acc+1) * 10 * 10 ^ r.length=(acc+1) * (10 ^ r.length * 10):=by rw[Nat.mul_assoc,Nat.mul_comm 10]
   omega
  unfold Lib.parseUintM;rw[if_pos hc,if_neg (by omega),if_neg (by omega),GT r _ (λd hd'=>hd d (by simp[hd']))]
  ·show _=Lib.NumEnd.ok ((r.map UInt8.toNat).foldl _ (10 * acc+(c.toNat - 48)));rw[Nat.mul_comm acc 10]
  ·refine Qaw ?_ h;have e:(acc+1) * (10 ^ r.length * 10)=((acc+1) * 10) * 10 ^ r.length:=by rw[Nat.mul_comm (10 ^ r.length),Nat.mul_assoc]
   rw[e];exact QaM _ (by omega)
theorem W0:∀ (l:List UInt8) (acc:Nat),Gs l->(∃ u,Lib.parseUintM 18446744073709551615 acc l=.ok u)\/Lib.parseUintM 18446744073709551615 acc l=.range
 |[],acc,_=>.inl ⟨acc,rfl⟩
 |c :: r,acc,hd=>by
  have hc:=hd c (by simp);unfold Lib.parseUintM;rw[if_pos hc];by_cases h1:1844674407370955162<=acc
  ·rw[if_pos h1];exact .inr rfl
  ·rw[if_neg h1];by_cases h2:18446744073709551615<acc * 10+(c.toNat - 48)
   ·rw[if_pos h2];exact .inr rfl
   ·rw[if_neg h2];exact W0 r _ λd hd'=>hd d (by simp[hd'])
theorem GU {l:List UInt8}(hne:l≠[])(hd:Gs l):Lib.parseIntB 64 l=Lib.signlessC (2 ^ 63) (Lib.parseUintM 18446744073709551615 0 l):=by
 obtain⟨c,r,rfl⟩:=List.exists_cons_of_ne_nil hne;have hc:=hd c (by simp);rw[Lib.parseIntB_plain 64 c r (by omega) (by omega)];unfold Lib.parseUintB;rw[if_neg (by simp)]
theorem jhj {l:List UInt8}(hne:l≠[])(hd:Gs l)(h7:l.length<=7):Lib.parseIntB 64 l=.ok (w5 (l.map UInt8.toNat):Int):=by
 have hle:10 ^ l.length<=10 ^ 7:=Nat.pow_le_pow_right (by decide) h7;have e7:10 ^ 7=10000000:=by decide
 rw[GU hne hd,GT l 0 hd (by omega)];have hv:=jmJ (s:=l.map UInt8.toNat) (n:=l.length) (by simp) h7 (λc hc=>by
  obtain⟨b,hb,rfl⟩:=Qbo.1 hc;have:=hd b hb;unfold qf;simp;omega)
 show Lib.signlessC _ (.ok (w5 (l.map UInt8.toNat)))=_;generalize w5 (l.map UInt8.toNat)=v at hv;unfold Lib.signlessC;simp;omega
end Go.Sy
end
noncomputable section
set_option maxRecDepth 100000
namespace Go.Sy
open Go.Ev Go.Proofs
open Go.RowKit (Below)
theorem je2 {l:List UInt8}(hne:l≠[])(hd:Gs l):(∃ v,Lib.parseIntB 64 l=.ok v)\/Lib.parseIntB 64 l=.range:=by
 rw[GU hne hd];rcases W0 l 0 hd with ⟨u,h⟩|h
 ·rw[h];unfold Lib.signlessC;by_cases hu:2 ^ 63<=u
  ·right;simp only[if_pos hu]
  ·left;exact⟨u,by simp only[if_neg hu]⟩
 ·rw[h];exact .inr rfl
def jcm (s:List Nat):Bool:=decide (s≠[]) && s.all qf
theorem jcl (s:List Nat):jcm s=true↔u1 s:=by
 unfold jcm u1;simp
def Y6:qE:=λf args st=>match args with
 |[]=>if f=9 then .ok (.bool true) st else .no
 |[.str s,.int .i64 a,.int .i64 b]=>if f=117/\a=10/\b=64/\jcm s=true/\s.length<=281474976710656 then(if s.length<=7 then .ok (.tup [.int .i64 (w5 s:Int),.nilif]) st else .ok (.tup [.bad,.bad]) st) else .no
 |[.lst n cs]=>if f=49/\n=0/\cs=[] then .ok (.lst 0 []) st else .no
 |_=>.no
theorem jnH (st:St):Y6 9 [] st=.ok (.bool true) st:=rfl
def Y7:Bs:=⟨Y6,je0⟩
theorem jcE:PI Y7:=λs st hd hl=>by
 have e:Y6 117 [.str s,.int .i64 10,.int .i64 64] st=if(117=117/\(10:Int)=10/\(64:Int)=64/\jcm s=true/\s.length<=281474976710656) then(if s.length<=7 then .ok (.tup [.int .i64 (w5 s:Int),.nilif]) st else .ok (.tup [.bad,.bad]) st) else .no:=rfl
 simp only[show Y7.run=Y6 from rfl];rw[e,if_pos ⟨rfl,rfl,rfl,(jcl s).2 hd,hl⟩];exact⟨λh=>if_pos h,λh=>if_neg (by omega)⟩
theorem baseW_Clone:CloneP Y7:=⟨λst=>rfl,λn cs st=>by
 simp only[show Y7.run=Y6 from rfl];show(if 49=49/\n+1=0/\cs=[] then ER.ok (.lst 0 []) st else .no)=.no;exact if_neg λh=>by simp at h⟩
theorem U0 (f:FuncId)(args:List AV)(st:St):Y6 f args st=.no\/(f=9/\args=[])\/(f=117/\∃ s,args=[.str s,.int .i64 10,.int .i64 64]/\u1 s/\s.length<=281474976710656)\/(f=49/\args=[.lst 0 []]):=by
 unfold Y6;split
 ·by_cases h:f=9
  ·exact .inr (.inl ⟨h,rfl⟩)
  ·exact .inl (if_neg h)
 ·rename_i s a b;by_cases h:f=117/\a=10/\b=64/\jcm s=true/\s.length<=281474976710656
  ·obtain⟨h1,rfl,rfl,h4,h5⟩:=h;exact .inr (.inr (.inl ⟨h1,s,rfl,(jcl s).1 h4,h5⟩))
  ·exact .inl (if_neg h)
 ·rename_i n cs;by_cases h:f=49/\n=0/\cs=[]
  ·obtain⟨h1,rfl,rfl⟩:=h;exact .inr (.inr (.inr ⟨h1,rfl⟩))
  ·exact .inl (if_neg h)
 ·exact .inl rfl
theorem jk0 (f:FuncId)(args:List AV)(st:St)(h9:f≠9)(h31:f≠117)(h49:f≠49):Y6 f args st=.no:=by
 rcases U0 f args st with h|⟨h,_⟩|⟨h,_⟩|⟨h,_⟩
 ·exact h
 ·exact absurd h h9
 ·exact absurd h h31
 ·exact absurd h h49
theorem Qi {ι:Inj}{st:St}{w w':World}(hs:Sim ι st.h st.nx w)(b:Below w.heap.size w w'):Sim ι st.h st.nx w'/\Grew ι w ι w':=by
 have gr:Grew ι w ι w':=⟨b.os,b.tape,b.output,b.size,λk hk _=>b.block k hk,λb B S e=>.inl ⟨b,S,e⟩,λB vs h=>.inl h⟩;exact⟨⟨λc B S e=>by
  obtain⟨o,x,h1,h2,h3⟩:=hs.obj c B S e;exact⟨o,x,h1,(b.block B (hs.lt e)).trans h2,h3⟩,hs.gone,hs.inj,hs.born,hs.glob.grew gr⟩,gr⟩
theorem jk1:JC Qaf Y7.run:=by
 intro f args st ι w vs hs hv;simp only[show Y7.run=Y6 from rfl];rcases U0 f args st with h|⟨rfl,rfl⟩|⟨rfl,s,rfl,hd,hl⟩|⟨rfl,rfl⟩
 ·rw[h];trivial
 ·rw[jnH];have hvs:vs = #[]:=by
   have:vs.toList=[]:=by simpa[VRs] using hv
   simpa using this
  subst hvs;have hb:Tryz.f9.body.isSome=true:=by kernel_rfl
  obtain⟨c,hc⟩:=Qcy.1 hb;refine⟨(Zo w8 Tryz.func9 hc).2,Calls.mono (jkd w8 (jd5 kX) jrO w ⟨⟨hs.glob.1.1,λb S e=>by cases e⟩,λB vs e=>by cases e⟩) λe w' ⟨he,hos,ht,ho,hsz,hk⟩=>⟨_,he,ι,Le.refl ι,?_,?_,?_,Cleanly.refl ι st⟩⟩
  ·simp only[VR]
  ·exact(Qi hs ⟨hos,ht,ho,hsz,hk⟩).1
  ·exact(Qi hs ⟨hos,ht,ho,hsz,hk⟩).2
 ·simp only[VRs,VR] at hv;obtain⟨v1,l1,e1,⟨bs,rfl,hbs⟩,v2,l2,rfl,rfl,v3,l3,rfl,rfl,rfl⟩:=hv;have hvs:vs = #[.string bs,.int .i64 10,.int .i64 64]:=by
   cases vs;simpa using e1
  subst hvs;have hlen:bs.data.toList.length=s.length:=by rw[<-hbs,QaP]
  have hsz:bs.size=s.length:=by rw[<-hlen,QaB];rfl
  have hne:bs.data.toList≠[]:=λh=>hd.1 (by rw[<-hbs,h];rfl);have hd8:Gs bs.data.toList:=λc hc=>by
   have:=hd.2 c.toNat (by rw[<-hbs];exact Qbo.2 ⟨c,hc,rfl⟩);unfold qf at this;simp at this;omega
  have hent:Ev.Enters Qaf 117:=by
   have hb:Tryz.f117.body.isSome=true:=by kernel_rfl
   obtain⟨c,hc⟩:=Qcy.1 hb;exact(Zo w8 Tryz.func117 hc).2
  have okc:∀ v,Lib.parseIntB 64 bs.data.toList=.ok v->Calls Qaf 117 #[.string bs,.int .i64 10,.int .i64 64] w λe w'=>e=.returned (.tuple #[.int .i64 v,.nilIface])/\Below w.heap.size w w':=λv h=>
   (Tryz.strconv_ParseInt_10_at64_ok bs (by omega) v h w).mono λe w' ⟨he,hw⟩=>⟨he,by
    rcases hw with rfl|⟨t,rfl⟩
    ·exact⟨rfl,rfl,rfl,Qao _,λ_ _=>rfl⟩
    ·exact Lib.bytesWorld_below w 5 t⟩
  have hP:=jcE s st hd hl;simp only[show Y7.run=Y6 from rfl] at hP;by_cases h7:s.length<=7
  ·rw[hP.1 h7];refine⟨hent,(okc _ (jhj hne hd8 (by omega))).mono λe w' ⟨he,hb⟩=>⟨_,he,ι,Le.refl ι,?_,(Qi hs hb).1,(Qi hs hb).2,Cleanly.refl ι st⟩⟩;rw[hbs];simp only[VR,VRs];exact⟨_,rfl,_,_,rfl,rfl,_,_,rfl,rfl,rfl⟩
  ·rw[hP.2 (by omega)];refine⟨hent,?_⟩;have fin:∀ (x y:Value) (w':World),Below w.heap.size w w'->Jp ι w st st (.tup [.bad,.bad]) (.tuple #[x,y]) w':=λx y w' hb=>by
    refine⟨ι,Le.refl ι,?_,(Qi hs hb).1,(Qi hs hb).2,Cleanly.refl ι st⟩;simp only[VR,VRs];exact⟨_,rfl,_,_,rfl,trivial,_,_,rfl,trivial,rfl⟩
   rcases je2 hne hd8 with ⟨v,h⟩|h
   ·exact(okc v h).mono λe w' ⟨he,hb⟩=>⟨_,he,fin _ _ w' hb⟩
   ·obtain⟨te,pe,hg⟩:=hs.glob.1.1;exact(Tryz.strconv_ParseInt_10_at64_range bs (by omega) h _ w hg (.inr ⟨te,pe,rfl⟩)).mono λe w' ⟨N,he,_,_,hb⟩=>⟨_,he,fin _ _ w' hb⟩
 ·have e49:Y6 49 [.lst 0 []] st=.ok (.lst 0 []) st:=rfl;rw[e49];simp only[VRs,VR] at hv;obtain⟨v1,l1,e1,⟨p,C,rfl,-,-,-⟩,rfl⟩:=hv;have hvs:vs = #[.slice p 0 C]:=by
   cases vs;simpa using e1
  subst hvs;have hb:Tryz.f49.body.isSome=true:=by kernel_rfl
  obtain⟨c,hc⟩:=Qcy.1 hb;refine⟨(Zo w8 Tryz.func49 hc).2,?_⟩;cases p with
  |none=>
   refine(Tryz.clone_nil 0 C w).mono λe w' ⟨he,hw⟩=>⟨_,he,ι,Le.refl ι,?_,?_,?_,Cleanly.refl ι st⟩
   ·simp only[VR];exact⟨none,0,rfl,Qao _,rfl,λh=>absurd h (QbD _)⟩
   ·rw[hw];exact hs
   ·rw[hw];exact Grew.refl ι w
  |some a=>
   refine(Tryz.clone_zero a C w).mono λe w' ⟨v',he,ho,hb⟩=>⟨_,he,ι,Le.refl ι,?_,(Qi hs hb).1,(Qi hs hb).2,Cleanly.refl ι st⟩;simp only[VR];rcases ho.2 with ⟨rfl,_⟩|⟨g,cap,cur,rfl,_⟩
   ·exact⟨none,0,rfl,Qao _,rfl,λh=>absurd h (QbD _)⟩
   ·exact⟨_,cap,rfl,QaG _,rfl,λh=>absurd h (QbD _)⟩
end Go.Sy
end
noncomputable section
set_option maxRecDepth 100000
namespace Go.Sy
open Go.Ev Go.Proofs
theorem jmF {ι:Inj}:∀ {cs:List AV} {v:Value},VRs ι cs v.cells.toList->2<=cs.length->VR ι (.agg cs) v
 |a :: b :: r,v,h,_=>by
  cases v;case agg c=>exact⟨c,rfl,h⟩
  all_goals
   exfalso;obtain⟨v1,l1,e1,_,v2,l2,e2,_⟩:=h;simp[Value.cells] at e1;rw[e2] at e1;simp at e1
 |[],v,h,h2=>by simp at h2
 |[a],v,h,h2=>by simp at h2
theorem arg_src {w:World}{m:SrcT}{v:Value}(h:VRs (frW w) (srE m) v.cells.toList):VR (frW w) (.agg (srE m)) v:=jmF h (by rw[wg];decide)
theorem jdX:∀ xs:List {n:Int // (Lit.int .i64 n).wf=true},fl (jb1 .i64) xs=(xs.map (·.1)).map (AV.int .i64)
 |[]=>rfl
 |x :: r=>by
  have:=jdX r;simp only[fl,QcC,Qai,jb1,List.singleton_append] at this ⊢;rw[this]
theorem rd_sv {H:Type}{w:World}(N:Nat):Reads H Qaf w (N+1) 30 1 (λs:List {n:Int // (Lit.int .i64 n).wf=true}=>[svV (s.map (·.1))]) (λs=>(s.map λ_=>1).sum+1):=by
 have h:Reads H Qaf w (N+1) 30 1 (λxs=>[.lst xs.length (fl (jb1 .i64) xs)]) (λxs=>(xs.map λ_=>1).sum+1):=Qr (by decide) Tryz.underlying30 (by kernel_rfl) (Jy (N:=N) Tryz.underlying2 (by kernel_rfl)) (λx=>Qao _);have e:(λxs:List {n:Int // (Lit.int .i64 n).wf=true}=>[AV.lst xs.length (fl (jb1 .i64) xs)])=λs=>[svV (s.map (·.1))]:=funext λxs=>by rw[jdX];unfold svV;rw[QaP]
 rw[e] at h;exact h
theorem sum_ones {α:Type}:∀ s:List α,(s.map λ_=>1).sum=s.length
 |[]=>rfl
 |_ :: r=>by rw[Qai,List.sum_cons,sum_ones r,Qak,Qco]
theorem arg_sv {w:World}{s:List Int}{a:Option Addr}{len cap:Nat}(h:VRs (frW w) [svV s] (Value.slice a len cap).cells.toList):VR (frW w) (svV s) (.slice a len cap):=by
 obtain⟨v,l,e,h1,rfl⟩:=h;rw[show(Value.slice a len cap).cells.toList=[.slice a len cap] from rfl] at e;cases e;exact h1
theorem base4_9 (st:St):Y7.run 9 [] st=.ok (.bool true) st:=rfl
theorem base4_PI:PI Y7:=jcE
theorem base4_NB:NB Y7:=⟨λf h args st=>jk0 f args st (by rintro rfl;simp[Vn] at h) (by rintro rfl;simp[Vn] at h) (by rintro rfl;simp[Vn] at h),rfl⟩
theorem law_calls {f:FuncId}{xs:List AV}{vs:Array Value}{w:World}(h:XB Qaf Y7 f xs st0 (λv _=>v=.bool true) λ_ _=>False)(hg:∃ te pe,w.cell? ⟨2,0,none⟩=some (.iface te pe))(hv:VRs (frW w) xs vs.toList) :
  Calls Qaf f vs w λe w'=>e=.returned (.bool true)/\w'.os=w.os/\w'.tape=w.tape/\w'.output=w.output/\w.heap.size<=w'.heap.size/\∀ k,k<w.heap.size->w'.heap[k]? = w.heap[k]?:=by
 have h2:=CW.calls w8 (jd5 kX) jk1 (K:=λv _=>v=.bool true) h.cb (jmV hg) hv;refine Calls.mono h2 λe w' ⟨v,x,st',he,hK,ι',_,hv,_,hg,_⟩=>?_;rw[hK] at hv;simp only[VR] at hv;rw[hv] at he;exact⟨he,hg.os,hg.tape,hg.output,hg.size,λk hk=>hg.keep k hk (λb S e=>by cases e)⟩
end Go.Sy
end
