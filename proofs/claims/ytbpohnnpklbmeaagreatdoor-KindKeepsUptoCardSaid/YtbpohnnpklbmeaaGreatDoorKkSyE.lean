/-
  Contracts: the code lowered, what it does told by rules, and the contracts of the functions that the law reaches.
-/
import Derived.Test.YtbpohnnpklbmeaaGreatDoorKkSyD
import Derived.Shelf.LaysC
import Derived.Shelf.Strconv.ParseIntPublic10
import Derived.Test.YtbpohnnpklbmeaaGreatDoorProg
import Derived.KernelRfl
set_option linter.unusedVariables false
set_option linter.unusedSimpArgs false
open Int renaming reduceToNat → Qaa, natCast_zero → Qam, zero_add → Qao, ofNat → Qbl, eq_ofNat_of_zero_le → Qbu, natCast_nonneg → Qch
open Nat renaming reduceAdd → Qab, reduceSub → Qac, reduceMul → Qad, reduceBEq → Qae, ble → Qap, le_refl → Qaq, beq → Qas, mul → Qat, le_trans → Qau, succ → QaD, add → QaG, le_max_right → QaH, le_max_left → QaJ, zero_le → QaL, zero_add → QaM, mul_le_mul_right → QaN, lt_of_lt_of_le → QaP, lt_or_ge → QaV, sub → Qbg, sub_zero → Qbm, not_lt_zero → Qbn, succ_pos → Qbr, add_mul → Qbt, zero_mul → Qbv, succ_mul → Qbw, le_of_eq → QbJ, add_assoc → QbK, mod_eq_of_lt → QbL, succ_lt_succ → QbN, lt_irrefl → Qce, min_eq_left → Qcg, add_zero → Qcj, ne_of_lt → Qcl, add_comm → Qcs, le_of_lt → Qct, lt_trichotomy → Qcw, le_succ_of_le → Qcx
open Go.Proofs.Tryz renaming prog → Qaf
open List renaming getD_cons_zero → Qag, getD_cons_succ → Qah, map_cons → Qai, length_cons → Qaj, length_append → Qak, map_nil → Qal, length_nil → Qan, getElem?_eq_getElem → Qav, cons_append → Qaw, all_eq_true → Qax, getElem_mem → Qay, getD_eq_getElem?_getD → QaB, append_assoc → QaC, take_length → QaE, nil_append → QaF, range' → QaI, length_take → QaK, getD → QaO, length_map → QaQ, length_drop → QaS, eq_nil_of_length_eq_zero → QaT, range → QaW, all_cons → QaY, take_zero → QaZ, cons → Qba, append_nil → Qbf, mem_cons → Qbh, all_append → Qbi, mem_map → Qbj, mem_append → Qbk, take_append_drop → Qbp, drop_zero → Qbs, getElem_cons_zero → Qbx, map_congr_left → Qby, range'_succ → QbA, getElem_cons_succ → QbD, getElem_cons_drop → QbE, map_map → QbH, mem_iff_getElem → QbI, getElem?_take → QbO, mem_singleton → QbP, map_append → QbQ, singleton_append → QbR, getElem?_append_right → QbS, getElem?_map → QbT, flatMap_cons → QbU, foldl_append → QbV, mem_of_mem_take → QbW, getElem?_append_left → QbX, mem_cons_of_mem → QbY, drop_drop → QbZ, ext_getElem → Qca, map_toArray → Qcb, length_pos_iff → Qcc, getElem?_drop → Qcf, take_add_one → Qci, countP_singleton → Qck, drop_length → Qcn, take_succ_cons → Qcp, foldr_cons → Qcr, take_take → Qcu
open Bool renaming and_eq_true → Qar, not_eq_true' → QaR, eq_iff_iff → QaX, false_eq_true → Qbb, or_eq_true → Qbc, or_eq_false_iff → Qbq, true_eq_false → QbG
open Array renaming length_toList → Qaz, getElem?_eq_some_iff → QaA, replicate → Qbe, getD_eq_getD_getElem? → QbB, getElem?_toList → QbF, toList_map → QbM, getElem?_setIfInBounds_ne → Qcd, mem_toList_iff → Qcm, toList_append → Qco, getElem?_eq_getElem → Qcq
open Option renaming map_some → QaU, getD_some → Qbd, bind_some → Qbo, map_none → Qbz, map_eq_some_iff → QbC
open Function renaming comp_def → Qcv
noncomputable section
set_option maxRecDepth 100000
namespace Go.Sy
open Go.Ev Go.Proofs
variable {base:Bs}
set_option maxHeartbeats 4000000 in
theorem jqe (hb:NB base){vars:List VarT}{enums:List EnumT}(V:VarsOK vars enums){p q:Nat}{v1 v2 v3 mm:AV}{x:Ex}{fm:Bool}{st:St}{L:Sl}{s:St}(ih:∀ k∈x.kids,KE base vars enums k)(hn:Qy x.kids=true)(hw:x.kids.length<=1000000)(H:Ck p v1 v2 v3 mm vars enums fm st)
  (k:Keep p st.bare s) (hs:s.nx=q+3) (qn:q=st.nx) (hp:p<q) (Cp:Cl s p [v1,v2,v3,mm,.bool fm]) (C0:Cl s q (eE x)) (C1:Cl s (q+1) z6) (C2:Cl s (q+2) z4) (i0:Has L 0 (.ptr p 0)) (i3:Has L 3 (.ptr q 0)) (i4:Has L 4 (.ptr (q+1) 0)) (i5:Has L 5 (.ptr (q+2) 0)) (K Kp:AV->St->Prop) (hK:KC p v1 v2 v3 mm fm st (yF vars enums fm x) K Kp) :
  xC Qaf base Z8 L s (iQ st K) (iP st Kp):=by
 have nk:=λK Kp=>jng hb V x s (H.bare.keep k Cp) K Kp;have fin:∀ (y:Ex) (m:MtT) (s':St),Keep p st.bare s'->Cl s' p [v1,v2,v3,mm,.bool fm]->yF vars enums fm x=.ok (y,m)->∃ u ks,fz 9 s'.h (.tup [.agg (eE y),.agg (mtE m)])=some (u,ks)/\K u (back st (kills ks s')):=λy m s' k' C h=>by
  rw[h] at hK;exact UT (m:=st.nx) (cs:=[v1,v2,v3,mm,.bool fm]) (FzD.tup (.cons (FzD.agg (.pc (q8 y))) (.cons (.agg (.pc (Yp m))) .nil))) (Qaq _) (by omega) k' C hK
 by_cases h1:x.op=1
 ·have e:=WY vars enums fm x;rw[if_pos h1] at e;unfold iQ iP y97;rw[(by unfold Z8;simp only[qq];rfl:Z8=_)];unfold z6 z4 at *;have f:=fin x ⟨1,[],x.num,x.num⟩ (Go.Sy.wr (Go.Sy.wr s (q+1) 0 (eE x)) (q+2) 0 (mtE ⟨1,[],x.num,x.num⟩)) ((k.wr (.inr (by show st.nx<=_;omega)) _ _).wr (.inr (by show st.nx<=_;omega)) _ _) (by(first|exact Cp|(simp(disch:=first|assumption|decide|(first|omega|(simp only[jg,jh,jk,jj,ji];first|done|omega))) only[jA,jB,jy,jN,jC,jG,jF,jH];exact Cp))) e;rw[qI,h1] at f
  (have zz:=aI @Cp.r (aI C0.r (aI C1.r C2.r));(repeat'(first|(apply jc<;>intro _)|simp(disch:=first|exact qu|fail) only[ja i0,ja i3,ja i4,ja i5,h1,Qw,sm2,Cp.q,C0.q,C1.q,C2.q,Cp.r,C0.r,C1.r,C2.r,je,jo,jn,jf,jr,jt,jv,jx,ju,rzZ,Qab,Qac,Qad,Qaa,Qae]));(all_goals(clear zz)))
  refine⟨?_,f⟩;have a1:rat s.h q 1=.int .i64 x.num:=(C0.cell 1 (by rw[Jw];decide)).trans (by rw[GN];rfl);exact⟨(sm2 (by rw[C0.len,Jw];decide) a1 rfl).mpr trivial,(sm2 (by rw[Xt,C0.len,Jw];decide) (by rw[Z6 (by omega)];exact a1) rfl).mpr trivial⟩
 ·by_cases h2:x.op=2
  ·have e:=WY vars enums fm x;rw[if_neg h1,if_pos h2] at e;unfold iQ iP y97;rw[(by unfold Z8;simp only[qq];rfl:Z8=_)];unfold z6 z4 at *;have f:=fin x ⟨2,[],0,1⟩ (Go.Sy.wr (Go.Sy.wr s (q+1) 0 (eE x)) (q+2) 0 (mtE ⟨2,[],0,1⟩)) ((k.wr (.inr (by show st.nx<=_;omega)) _ _).wr (.inr (by show st.nx<=_;omega)) _ _) (by(first|exact Cp|(simp(disch:=first|assumption|decide|(first|omega|(simp only[jg,jh,jk,jj,ji];first|done|omega))) only[jA,jB,jy,jN,jC,jG,jF,jH];exact Cp))) e;rw[qI,h2] at f
   (have zz:=aI @Cp.r (aI C0.r (aI C1.r C2.r));(repeat'(first|(apply jc<;>intro _)|simp(disch:=first|exact qu|fail) only[ja i0,ja i3,ja i4,ja i5,h2,Cp.q,C0.q,C1.q,C2.q,Cp.r,C0.r,C1.r,C2.r,je,jo,jn,jf,jr,jt,jv,jx,ju,rzZ,Qab,Qac,Qad,Qaa,Qae]));(all_goals(clear zz)))
   exact f
  ·by_cases h3:x.op=3
   ·have e:=WY vars enums fm x;rw[if_neg h1,if_neg h2,if_pos h3] at e;rw[qI,h3] at nk;unfold z6 z4 at *;cases hr:zW vars enums x with
    |er a b d=>
     rw[e,hr] at hK;rw[hr] at nk;rw[(by unfold Z8;simp only[qq];rfl:Z8=_)]
     (have zz:=aI @Cp.r (aI C0.r (aI C1.r C2.r));(repeat'(first|(apply jc<;>intro _)|simp(disch:=first|exact qu|fail) only[ja i0,ja i3,ja i4,ja i5,h3,nk,kO,jfm,Cp.q,C0.q,C1.q,C2.q,Cp.r,C0.r,C1.r,C2.r,je,jo,jn,jf,jr,jt,jv,jx,ju,rzZ,Qab,Qac,Qad,Qaa,Qae]));(all_goals(clear zz)))
     exact hK _ (Y0 k)
    |ok y=>
     obtain⟨y,m⟩:=y;have f:=fin y m (Go.Sy.wr (Go.Sy.wr s (q+1) 0 (eE y)) (q+2) 0 (mtE m)) ((k.wr (.inr (by show st.nx<=_;omega)) _ _).wr (.inr (by show st.nx<=_;omega)) _ _) (by(first|exact Cp|(simp(disch:=first|assumption|decide|(first|omega|(simp only[jg,jh,jk,jj,ji];first|done|omega))) only[jA,jB,jy,jN,jC,jG,jF,jH];exact Cp))) (e.trans hr);rw[hr] at nk;unfold iQ iP y97;rw[(by unfold Z8;simp only[qq];rfl:Z8=_)]
     (have zz:=aI @Cp.r (aI C0.r (aI C1.r C2.r));(repeat'(first|(apply jc<;>intro _)|simp(disch:=first|exact qu|fail) only[ja i0,ja i3,ja i4,ja i5,h3,nk,kO,jfn,Cp.q,C0.q,C1.q,C2.q,Cp.r,C0.r,C1.r,C2.r,je,jo,jn,jf,jr,jt,jv,jx,ju,rzZ,Qab,Qac,Qad,Qaa,Qae]));(all_goals(clear zz)))
     exact f
   ·have ee:=λL (j0:Has L 0 (.ptr p 0)) (j3:Has L 3 (.ptr q 0)) (j4:Has L 4 (.ptr (q+1) 0)) (j5:Has L 5 (.ptr (q+2) 0))=>jqd hb V ih hn hw H ⟨h1,h2,h3⟩ k hs qn hp Cp C0 C1 C2 j0 j3 j4 j5 K Kp hK;rw[(by unfold Z8;simp only[qq];rfl:Z8=_)]
    (have zz:=C0.r;(repeat'(first|(apply jc<;>intro _)|simp(disch:=first|exact qu|fail) only[ja i0,ja i3,h1,h2,h3,C0.q,C0.r,je,jo,jn,jf,jr,jt,jv,jx,ju,rzZ,Qab,Qac,Qad,Qaa,Qae]));(all_goals(clear zz)))
    refine ee _ ?_ ?_ ?_ ?_;all_goals(simp(disch:=decide) only[jb];assumption)
theorem jp8 (hb:NB base){vars:List VarT}{enums:List EnumT}(V:VarsOK vars enums):∀ x:Ex,ZR x=true->wk x=true->KE base vars enums x:=by
 refine Ex.indk λx ih hn hw p v1 v2 v3 mm fm st H K Kp hK=>?_;have hn':Qy x.kids=true:=by cases x;rw[ZR,Qar] at hn;exact hn.2
 have hw':x.kids.length<=1000000/\Y3 x.kids=true:=by cases x;rw[wk,Qar,decide_eq_true_eq] at hw;exact hw
 have ih':∀ k∈x.kids,KE base vars enums k:=λk hk=>by
  obtain⟨i,hi,rfl⟩:=QbI.1 hk;exact ih _ hk (Hh hi hn') (Vo hi hw'.2)
 refine jcb x97 (by rfl) (hb.pur 97 2 (by decide)) (hb.no 97 (by decide) _ _) ?_;simp only[y97,jp,Qai,Qal,Qag,Qah];have Cp:=H.cl.bar;have h0:p<st.nx:=H.cl.lt;have hB:st.bare.nx=st.nx:=rfl;rw[(by unfold z97;simp only[qq];rfl:z97=_)]
 (have zz:=@Cp.r;(repeat'(first|(apply jc<;>intro _)|simp(disch:=first|exact qu|fail) only[Cp.q,Cp.r,je,jo,jn,jf,jr,jt,jv,jx,ju,rzZ,Qab,Qac,Qad,Qaa,Qae]));(all_goals(clear zz)))
 have Hc:=H.cl;have n0:Cl (Go.Sy.nw st.bare (eE x)) st.nx (eE x):=Cl.new st.bare (eE x);have n1:Cl (Go.Sy.nw (Go.Sy.nw st.bare (eE x)) z6) (st.nx+1) z6:=Cl.new _ _;have n2:Cl (Go.Sy.nw (Go.Sy.nw (Go.Sy.nw st.bare (eE x)) z6) z4) (st.nx+2) z4:=Cl.new _ _;refine jqe (L:=[(5,.ptr (st.nx+1+1) 0),(4,.ptr (st.nx+1) 0),(3,.ptr st.nx 0),(0,.ptr p 0),(1,.agg (eE x))]) (s:=Go.Sy.nw (Go.Sy.nw (Go.Sy.nw st.bare (eE x)) z6) z4) (st:=st) hb V ih' hn' hw'.1 H ((((Keep.refl (s:=st.bare)).nw _).nw _).nw _) rfl rfl h0 (by(first|exact Hc|(simp(disch:=first|assumption|decide|(first|omega|(simp only[jg,jh,jk,jj,ji];first|done|omega))) only[jA,jB,jy,jN,jC,jG,jF,jH];exact Hc))) (by(first|exact n0|(simp(disch:=first|assumption|decide|(first|omega|(simp only[jg,jh,jk,jj,ji];first|done|omega))) only[jA,jB,jy,jN,jC,jG,jF,jH];exact n0))) (by(first|exact n1|(simp(disch:=first|assumption|decide|(first|omega|(simp only[jg,jh,jk,jj,ji];first|done|omega))) only[jA,jB,jy,jN,jC,jG,jF,jH];exact n1))) n2 ?_ ?_ ?_ ?_ K Kp hK;all_goals exact⟨rfl,rfl⟩
end Go.Sy
end
noncomputable section
set_option maxRecDepth 100000
namespace Go.Sy
open Go.Ev Go.Proofs
variable {base:Bs}
def yD (vars:List VarT)(enums:List EnumT)(fm:Bool)(x:Ex)(w:Int)(en:List Nat):KR Ex:=match yF vars enums fm x with
 |.er a b c=>.er a b c
 |.ok r=>if r.2.kind≠w\/r.2.enum≠en then .er 163 x.line x.col else .ok r.1
def KT (p:Nat)(v1 v2 v3 mm:AV)(fm:Bool)(st:St)(r:KR Ex)(K Kp:AV->St->Prop):Prop:=match r with
 |.ok y=>∀ s',Keep p st s'->Cl s' p [v1,v2,v3,mm,.bool fm]->K (.agg (eE y)) s'
 |.er c l k=>∀ s',Keep p st s'->Kp (kf c l k) s'
set_option maxHeartbeats 4000000 in
theorem Up (hb:NB base){vars:List VarT}{enums:List EnumT}(V:VarsOK vars enums)(x:Ex)(hn:ZR x=true)(hw:wk x=true)(w:Int)(en:List Nat){p:Nat}{v1 v2 v3 mm:AV}{fm:Bool}{st:St}(H:Ck p v1 v2 v3 mm vars enums fm st)(K Kp:AV->St->Prop)(hK:KT p v1 v2 v3 mm fm st (yD vars enums fm x w en) K Kp):XB Qaf base 60 [.ptr p 0,.agg (eE x),.int .i64 w,.str en] st K Kp:=by
 refine jcb x60 (by rfl) (hb.pur 60 2 (by decide)) (hb.no 60 (by decide) _ _) ?_;simp only[y60,jp,Qai,Qal,Qag,Qah];have Hc:=H.cl;have Cp:=H.cl.bar;have h0:p<st.nx:=H.cl.lt;have hB:st.bare.nx=st.nx:=rfl;have k1:Keep p st.bare (Go.Sy.nw (Go.Sy.nw st.bare (eE x)) [.int .i64 0,.int .i64 0,.str [],.nils,.int .i64 0,.int .i64 0]):=(Keep.refl.nw _).nw _;have C1:Cl (Go.Sy.nw (Go.Sy.nw st.bare (eE x)) [.int .i64 0,.int .i64 0,.str [],.nils,.int .i64 0,.int .i64 0]) p [v1,v2,v3,mm,.bool fm]:=by(first|exact Hc|(simp(disch:=first|assumption|decide|(first|omega|(simp only[jg,jh,jk,jj,ji];first|done|omega))) only[jA,jB,jy,jN,jC,jG,jF,jH];exact Hc))
 have n0:Cl (Go.Sy.nw st.bare (eE x)) st.nx (eE x):=Cl.new st.bare (eE x);have n0:Cl (Go.Sy.nw (Go.Sy.nw st.bare (eE x)) [.int .i64 0,.int .i64 0,.str [],.nils,.int .i64 0,.int .i64 0]) st.nx (eE x):=by(first|exact n0|(simp(disch:=first|assumption|decide|(first|omega|(simp only[jg,jh,jk,jj,ji];first|done|omega))) only[jA,jB,jy,jN,jC,jG,jF,jH];exact n0))
 have n1:Cl (Go.Sy.nw (Go.Sy.nw st.bare (eE x)) [.int .i64 0,.int .i64 0,.str [],.nils,.int .i64 0,.int .i64 0]) (st.nx+1) [.int .i64 0,.int .i64 0,.str [],.nils,.int .i64 0,.int .i64 0]:=Cl.new _ _;rw[(by unfold z60;simp only[qq];rfl:z60=_)];repeat'(first|(apply jc<;>intro _)|simp(disch:=first|exact dzG|fail) only[je,jo,jn,jf,jr,jt,jv,jx,ju,rzZ,Qab,Qac,Qad,Qaa,Qae])
 refine jp8 hb V x hn hw p v1 v2 v3 mm fm _ (H.bare.keep k1 C1) _ _ ?_;unfold yD at hK;cases hr:yF vars enums fm x with
 |er a b c=>
  rw[hr] at hK;intro s' k2;exact hK _ (Y0 (k1.trans k2))
 |ok y=>
  rw[hr] at hK;obtain⟨y,m⟩:=y;intro s' k2 C2;have k3:=k1.trans k2;have m0:=k2.cl n0 (by omega);have m1:=k2.cl n1 (by omega);have hnx:=k2.nx;have hnx:st.nx+2<=s'.nx:=hnx;have hK:KT p v1 v2 v3 mm fm st (if m.kind≠w\/m.enum≠en then .er 163 x.line x.col else .ok y) K Kp:=hK;generalize Go.Sy.nw (Go.Sy.nw st.bare (eE x)) [.int .i64 0,.int .i64 0,.str [],.nils,.int .i64 0,.int .i64 0]=t0 at *
  (have zz:=aI @m0.r @m1.r;(repeat'(first|(apply jc<;>intro _)|simp(disch:=first|exact qu|fail) only[Ji hb,m0.q,m1.q,m0.r,m1.r,je,jo,jn,jf,jr,jt,jv,jx,ju,rzZ,Qab,Qac,Qad,Qaa,Qae]));(all_goals(clear zz)))
  ·rw[if_pos (.inl (by assumption))] at hK;exact hK _ (Y0 ((((k3.nw _).nw _).wr (.inr (by show st.nx<=_;omega)) _ _).wr (.inr (by show st.nx<=_;omega)) _ _))
  ·rw[if_pos (.inr (by assumption))] at hK;exact hK _ (Y0 ((((k3.nw _).nw _).wr (.inr (by show st.nx<=_;omega)) _ _).wr (.inr (by show st.nx<=_;omega)) _ _))
  ·rename_i h1 h2;rw[if_neg (by rintro (h|h)<;>contradiction)] at hK;refine UT (m:=st.nx) (cs:=[v1,v2,v3,mm,.bool fm]) (FzD.agg (.pc (q8 y))) (Qaq _) h0 (((((k3.nw _).nw _).wr (.inr (by show st.nx<=_;omega)) _ _).wr (.inr (by show st.nx<=_;omega)) _ _).wr (.inr (by show st.nx<=_;omega)) _ _) (by(first|exact C2|(simp(disch:=first|assumption|decide|(first|omega|(simp only[jg,jh,jk,jj,ji];first|done|omega))) only[jA,jB,jy,jN,jC,jG,jF,jH];exact C2))) hK
end Go.Sy
end
noncomputable section
set_option maxRecDepth 100000
namespace Go.Sy
open Go.Ev Go.Proofs
variable {base:Bs}
section
variable {P:Program} {e:En} {st s:St} {K:AV->St->Prop}
def jft (st:St):ER:=st.alloc (.map []) λb st=>.ok (.map b) st
def jfu (P:Program)(t:TypeId)(ok:Bool)(m k:AV)(st:St):ER:=(XV P t (O m) (O k) ok).run E0 st
def jj9 (P:Program)(t:TypeId)(m k v:AV)(st:St):ER:=(JE P t (O m) (O k) (O v)).run E0 st
theorem jrF:wK P base (.i .mkMap) e st K=jm (jft st) K:=k_0 (V:=jft) rfl (λ_=>rfl) K
theorem jib (t:TypeId)(m k:A)(ok:Bool):wK P base (.i (.look t m k ok)) e st K=on1 e m λv=>on1 e k λu=>jm (jfu P t ok v u st) K:=k_2 rfl (λ_=>rfl) K
theorem jmc (t:TypeId)(m k x:A):wK P base (.i (.upd t m k x)) e st K=on1 e m λv=>on1 e k λu=>on1 e x λw=>jm (jj9 P t v u w st) K:=k_3 rfl (λ_=>rfl) K
def mpl (ts:List (List Nat)):List (AV×AV):=ts.map λt=>(.str t,.int .i64 1)
def mp (s:St)(b:Nat)(es:List (AV×AV)):St:=⟨s.nx,(qj (jQ b)).run (.map es) s.h,min s.dirty b,s.fr⟩
def nmp (s:St):St:=⟨s.nx+1,(qj (jQ s.nx)).run (.map []) s.h,s.dirty,s.fr⟩
theorem jfo (s:St)(b:Nat)(es:List (AV×AV)):(mp s b es).nx=s.nx:=nr rfl
theorem jrB (s:St):(nmp s).nx=s.nx+1:=nr rfl
theorem gt (s:St)(b c:Nat)(es:List (AV×AV)):jz (mp s b es).h c=if c=b then some (.map es) else jz s.h c:=by unfold mp;rw[qc]
theorem jim (s:St)(c:Nat):jz (nmp s).h c=if c=s.nx then some (.map []) else jz s.h c:=by unfold nmp;rw[qc]
structure Mp (s:St)(b:Nat)(ts:List (List Nat)):Prop where
 lt:b<s.nx
 get:jz s.h b=some (.map (mpl ts))
theorem Mp.new (s:St):Mp (nmp s) s.nx []:=⟨by rw[jrB];omega,by rw[jim,if_pos rfl];rfl⟩
theorem Mp.keep {b:Nat}{ts:List (List Nat)}{t:St}(h:Mp s b ts)(h1:s.nx<=t.nx)(h2:jz t.h b=jz s.h b):Mp t b ts:=⟨QaP h.lt h1,h2.trans h.get⟩
theorem Mp.put {b:Nat}{ts us:List (List Nat)}(h:Mp s b ts):Mp (mp s b (mpl us)) b us:=⟨by rw[jfo];exact h.lt,by rw[gt,if_pos rfl]⟩
theorem jq9:jm (jft st) K=K (.map st.nx) (nmp st):=by
 unfold jft;rw[St.alloc_eq];rfl
end
theorem jlM:Tryz.prog.underlying 114=some (.map 9 3):=by kernel_rfl
theorem joY:Tryz.prog.underlying 9=some .string:=by kernel_rfl
theorem ze3:Kf Qaf 3=some (.int .i64 0):=by kernel_rfl
theorem kf9 (s:List Nat):(wa Qaf 9).run (.str s)=true:=by unfold wa;rw[joY]
theorem eq9 (s t:List Nat):(eqF Qaf 20 9).run (.str s) (.str t)=some (decide (s=t)):=by
 show(eqF Qaf (19+1) 9).run (.str s) (.str t)=_;unfold eqF;rw[joY,<-Ql]
theorem jed (nm:List Nat):∀ ts:List (List Nat),W6 (eqF Qaf 20 9) (.str nm) (mpl ts)=some (if nm∈ts then some (.int .i64 1) else none)
 |[]=>rfl
 |t :: ts=>by
  show(match (eqF Qaf 20 9).run (.str nm) (.str t) with|some b=>cond b (some (some (AV.int .i64 1))) (W6 (eqF Qaf 20 9) (.str nm) (mpl ts))|none=>none)=_;rw[eq9,jed nm ts];by_cases h:nm=t
  ·simp[h]
  ·simp[h]
theorem jg1 (nm:List Nat):∀ ts:List (List Nat),nm∉ts->Vr (eqF Qaf 20 9) (.str nm) (.int .i64 1) (mpl ts)=some (mpl (ts ++ [nm]))
 |[],_=>rfl
 |t :: ts,h=>by
  have h1:nm≠t:=λe=>h (by simp[e]);have h2:=jg1 nm ts λe=>h (by simp[e]);show(match (eqF Qaf 20 9).run (.str nm) (.str t) with
   |some b=>cond b (cond (UY (.str nm) (.str t)) (some (Qba (AV.str nm,AV.int .i64 1) (mpl ts))) none) (match Vr (eqF Qaf 20 9) (.str nm) (.int .i64 1) (mpl ts) with|some l=>some (Qba (AV.str t,AV.int .i64 1) l)|none=>none)
   |none=>none)=_
  rw[eq9,h2];simp[h1,mpl]
section
variable {st:St} {K:AV->St->Prop}
theorem joR {b:Nat}{ts:List (List Nat)}(h:Mp st b ts)(nm:List Nat):jm (jfu Qaf 114 false (.map b) (.str nm) st) K=K (.int .i64 (if nm∈ts then 1 else 0)) st:=by
 unfold jfu XV;rw[jlM];simp only[ze3];show jm (cond ((wa Qaf 9).run (.str nm)) (ZQ (jz st.h b) λes=>jV (W6 (eqF Qaf 20 9) (.str nm) es) λo=>_) .no) K=_;rw[kf9,h.get];show jm (jV (W6 (eqF Qaf 20 9) (.str nm) (mpl ts)) λo=>_) K=_;rw[jed];by_cases h:nm∈ts
 ·simp only[if_pos h];rfl
 ·simp only[if_neg h];rfl
theorem jq4 {b:Nat}{ts:List (List Nat)}(h:Mp st b ts){nm:List Nat}(hn:nm∉ts):jm (jj9 Qaf 114 (.map b) (.str nm) (.int .i64 1) st) K=K qo (mp st b (mpl (ts ++ [nm]))):=by
 unfold jj9 JE;rw[jlM];show jm (cond ((wa Qaf 9).run (.str nm)) (ZQ (jz st.h b) λes=>jV (Vr (eqF Qaf 20 9) (.str nm) (.int .i64 1) es) λes=>st.put b (.map es) λst=>.ok qo st) .no) K=_;rw[kf9,h.get];show jm (jV (Vr (eqF Qaf 20 9) (.str nm) (.int .i64 1) (mpl ts)) λes=>st.put b (.map es) λst=>.ok qo st) K=_;rw[jg1 nm ts hn];show jm (st.put b (.map (mpl (ts ++ [nm]))) λst=>.ok qo st) K=_;rw[St.put_eq];rfl
end
end Go.Sy
end
noncomputable section
set_option maxRecDepth 100000
namespace Go.Sy
open Go.Ev Go.Proofs
variable {base:Bs}
set_option maxHeartbeats 4000000 in
theorem Ku (hb:NB base){p mb:Nat}{v1 v2 v3:AV}{fm:Bool}{ts:List (List Nat)}{st:St}(C:Cl st p [v1,v2,v3,.map mb,.bool fm])(M:Mp st mb ts)(nm:List Nat)(l c:Int)(K Kp:AV->St->Prop)
  (hK:if nm∈ts then Kp (kf 162 l c) st else K (.tup []) (mp st mb (mpl (ts ++ [nm])))):XB Qaf base 63 [.ptr p 0,.str nm,.int .i64 l,.int .i64 c] st K Kp:=by
 refine JO x63 (by rfl) (hb.at0 63 (by decide) (by decide) _ _) ?_;simp only[y63,jp,Qai,Qal,Qag,Qah];rw[(by unfold z63;simp only[qq];rfl:z63=_)];have M:Mp st.bare mb ts:=⟨M.lt,M.get⟩;have hK:if nm∈ts then Kp (kf 162 l c) (bk st st.bare) else K (.tup []) (bk st (mp st.bare mb (mpl (ts ++ [nm])))):=hK
 have C:=C.bar;have hbk:bk st st.bare=st:=rfl;have hbc:back st st.bare=st:=rfl;have hbb:st.bare.bare=st.bare:=rfl;generalize st.bare=s0 at *;have L1:=λK nm=>joR (st:=s0) (K:=K) M nm;by_cases h:nm∈ts
 ·rw[if_pos h] at hK
  (have zz:=C.r;(repeat'(first|(apply jc<;>intro _)|simp(disch:=first|exact qu|fail) only[jib,jmc,L1,h,if_true,Ji hb,C.q,C.r,je,jo,jn,jf,jr,jt,jv,jx,ju,rzZ,Qab,Qac,Qad,Qaa,Qae]));(all_goals(clear zz)))
  exact hK
 ·rw[if_neg h] at hK;have U1:=λK=>jq4 (st:=s0) (K:=K) M h
  (have zz:=C.r;(repeat'(first|(apply jc<;>intro _)|simp(disch:=first|exact qu|fail) only[jib,jmc,L1,U1,h,if_false,show((0:Int)+1)=1 from rfl,Ji hb,C.q,C.r,je,jo,jn,jf,jr,jt,jv,jx,ju,rzZ,Qab,Qac,Qad,Qaa,Qae]));(all_goals(clear zz)))
  exact hK
end Go.Sy
end
noncomputable section
set_option maxRecDepth 100000
namespace Go.Sy
open Go.Ev Go.Proofs
variable {base:Bs}
structure Kq (p mb lo:Nat)(s s':St):Prop where
 nx:s.nx<=s'.nx
 fr:s'.fr=s.fr
 get:∀ b,b<lo->b≠p->b≠mb->jz s'.h b=jz s.h b
section
variable {p mb lo:Nat} {s t u:St}
theorem Kq.refl:Kq p mb lo s s:=⟨Qaq _,rfl,λ_ _ _ _=>rfl⟩
theorem Kq.trans (h:Kq p mb lo s t)(k:Kq p mb lo t u):Kq p mb lo s u:=⟨Qau h.nx k.nx,k.fr.trans h.fr,λb h1 h2 h3=>(k.get b h1 h2 h3).trans (h.get b h1 h2 h3)⟩
theorem Kq.nw (h:Kq p mb lo s t)(hl:lo<=t.nx)(ds:List AV):Kq p mb lo s (Go.Sy.nw t ds):=⟨Qcx h.nx,h.fr,λb h1 h2 h3=>(JQ (by omega)).trans (h.get b h1 h2 h3)⟩
theorem Kq.wr (h:Kq p mb lo s t){c:Nat}(hc:c=p\/lo<=c)(o:Nat)(vs:List AV):Kq p mb lo s (Go.Sy.wr t c o vs):=⟨h.nx,h.fr,λb h1 h2 h3=>(Js (by omega)).trans (h.get b h1 h2 h3)⟩
theorem Kq.kl (h:Kq p mb lo s t){c:Nat}(hc:lo<=c):Kq p mb lo s (Go.Sy.kl c t):=⟨h.nx,h.fr,λb h1 h2 h3=>(vD (by omega)).trans (h.get b h1 h2 h3)⟩
theorem Kq.mp (h:Kq p mb lo s t)(es:List (AV×AV)):Kq p mb lo s (Go.Sy.mp t mb es):=⟨h.nx,h.fr,λb h1 h2 h3=>by rw[gt,if_neg h3];exact h.get b h1 h2 h3⟩
theorem Kq.aps (h:Kq p mb lo s t){hi n z:Nat}{v:AV}{ds:List AV}{u:St}(V:Lv lo hi u v n ds z)(hl:lo<=t.nx)(news:List AV):Kq p mb lo s (Go.Sy.aps v t news):=⟨by rw[jj];exact Qcx h.nx,by rw[Wa];exact h.fr,λb h1 h2 h3=>(V.get t news b (.inl h1) (by omega)).trans (h.get b h1 h2 h3)⟩
theorem Kq.keep (h:Kq p mb lo s t)(k:Keep p t u)(hl:lo<=t.nx):Kq p mb lo s u:=⟨Qau h.nx k.nx,k.fr.trans h.fr,λb h1 h2 h3=>(k.get b (by omega) h2).trans (h.get b h1 h2 h3)⟩
theorem Kq.cl (h:Kq p mb lo s t){b:Nat}{cs:List AV}(C:Cl s b cs)(h1:b<lo)(h2:b≠p)(h3:b≠mb):Cl t b cs:=C.keep h.nx (h.get b h1 h2 h3)
theorem Kq.bk (h:Kq p mb lo s.bare t):Kq p mb lo s (bk s t):=⟨h.nx,rfl,h.get⟩
end
theorem Mp.nw {s:St}{b:Nat}{ts:List (List Nat)}(h:Mp s b ts)(ds:List AV):Mp (Go.Sy.nw s ds) b ts:=h.keep (Nat.le_succ _) (JQ (by have:=h.lt;omega))
theorem Mp.wr {s:St}{b:Nat}{ts:List (List Nat)}(h:Mp s b ts){c:Nat}(hc:b≠c)(o:Nat)(ds:List AV):Mp (Go.Sy.wr s c o ds) b ts:=h.keep (Qaq _) (Js hc)
theorem Vc {s:St}{b c:Nat}{es:List (AV×AV)}{cs:List AV}(h:c≠b):Cl (mp s b es) c cs=Cl s c cs:=propext ⟨λC=>C.keep (QbJ (jfo s b es)) (by rw[gt,if_neg h]),λC=>C.keep (Qaq _) (by rw[gt,if_neg h])⟩
structure MS (p mb lo hi:Nat)(m:ModT)(ts:List (List Nat))(v1 v2 v3:AV)(s:St):Prop where
 cp:Cl s p [v1,v2,v3,.map mb,.bool false]
 mp:Mp s mb ts
 l1:Lv lo hi s v1 m.vars.length (fl vaE m.vars) 7
 l2:Lv lo hi s v2 m.enums.length (fl enE m.enums) 4
 l3:Lv lo hi s v3 m.moves.length (fl moE m.moves) 7
 d12:Df v1 v2
 d13:Df v1 v3
 d23:Df v2 v3
 hp:p<lo
 hm:mb<lo
 pm:p≠mb
 lo:lo<=hi
 hi:hi<=s.nx
def MX (p mb lo:Nat)(m:ModT)(ts:List (List Nat))(s:St):Prop:=∃ v1 v2 v3,MS p mb lo s.nx m ts v1 v2 v3 s
section
variable {p mb lo hi:Nat} {m:ModT} {ts us:List (List Nat)} {v1 v2 v3:AV} {s t:St}
theorem Lv.mp {n z:Nat}{v:AV}{cs:List AV}{es:List (AV×AV)}(h:Lv lo hi s v n cs z)(hm:mb<lo):Lv lo hi (Go.Sy.mp s mb es) v n cs z:=h.imp id λ⟨c,h1,h2,h3,h4,h5,h6⟩=>⟨c,h1,h2,h3,by rw[Vc (by omega)];exact h4,h5,h6⟩
theorem MS.nw (S:MS p mb lo hi m ts v1 v2 v3 s)(ds:List AV):MS p mb lo hi m ts v1 v2 v3 (Go.Sy.nw s ds):=by
 obtain⟨C,M,l1,l2,l3,d12,d13,d23,hp,hm,pm,h1,h2⟩:=S;exact⟨by(first|exact C|(simp(disch:=first|assumption|decide|(first|omega|(simp only[jg,jh,jk,jj,ji];first|done|omega))) only[jA,jB,jy,jN,jC,jG,jF,jH];exact C)),M.nw ds,by(first|exact l1|(simp(disch:=first|assumption|decide|(first|omega|(simp only[jg,jh,jk,jj,ji];first|done|omega))) only[jA,jB,jy,jN,jC,jG,jF,jH];exact l1)),by(first|exact l2|(simp(disch:=first|assumption|decide|(first|omega|(simp only[jg,jh,jk,jj,ji];first|done|omega))) only[jA,jB,jy,jN,jC,jG,jF,jH];exact l2)),by(first|exact l3|(simp(disch:=first|assumption|decide|(first|omega|(simp only[jg,jh,jk,jj,ji];first|done|omega))) only[jA,jB,jy,jN,jC,jG,jF,jH];exact l3)),d12,d13,d23,hp,hm,pm,h1,by rw[jg];omega⟩
theorem MS.wr (S:MS p mb lo hi m ts v1 v2 v3 s){c:Nat}(hc:hi<=c)(o:Nat)(ds:List AV):MS p mb lo hi m ts v1 v2 v3 (Go.Sy.wr s c o ds):=by
 obtain⟨C,M,l1,l2,l3,d12,d13,d23,hp,hm,pm,h1,h2⟩:=S;exact⟨by(first|exact C|(simp(disch:=first|assumption|decide|(first|omega|(simp only[jg,jh,jk,jj,ji];first|done|omega))) only[jA,jB,jy,jN,jC,jG,jF,jH];exact C)),M.wr (by omega) o ds,by(first|exact l1|(simp(disch:=first|assumption|decide|(first|omega|(simp only[jg,jh,jk,jj,ji];first|done|omega))) only[jA,jB,jy,jN,jC,jG,jF,jH];exact l1)),by(first|exact l2|(simp(disch:=first|assumption|decide|(first|omega|(simp only[jg,jh,jk,jj,ji];first|done|omega))) only[jA,jB,jy,jN,jC,jG,jF,jH];exact l2)),by(first|exact l3|(simp(disch:=first|assumption|decide|(first|omega|(simp only[jg,jh,jk,jj,ji];first|done|omega))) only[jA,jB,jy,jN,jC,jG,jF,jH];exact l3)),d12,d13,d23,hp,hm,pm,h1,by rw[jh];omega⟩
theorem MS.take (S:MS p mb lo hi m ts v1 v2 v3 s)(us:List (List Nat)):MS p mb lo hi m us v1 v2 v3 (Go.Sy.mp s mb (mpl us)):=by
 obtain⟨C,M,l1,l2,l3,d12,d13,d23,hp,hm,pm,h1,h2⟩:=S;exact⟨by rw[Vc pm];exact C,M.put,l1.mp hm,l2.mp hm,l3.mp hm,d12,d13,d23,hp,hm,pm,h1,h2⟩
theorem MS.keep (S:MS p mb lo hi m ts v1 v2 v3 s)(k:Keep p s t)(C':Cl t p [v1,v2,v3,.map mb,.bool false]):MS p mb lo hi m ts v1 v2 v3 t:=by
 obtain⟨C,M,l1,l2,l3,d12,d13,d23,hp,hm,pm,h1,h2⟩:=S;exact⟨C',M.keep k.nx (k.get mb M.lt (by omega)),k.lv l1 (.inl hp),k.lv l2 (.inl hp),k.lv l3 (.inl hp),d12,d13,d23,hp,hm,pm,h1,Qau h2 k.nx⟩
theorem MS.up (S:MS p mb lo hi m ts v1 v2 v3 s){hi':Nat}(h:hi<=hi')(h2:hi'<=s.nx):MS p mb lo hi' m ts v1 v2 v3 s:=by
 obtain⟨C,M,l1,l2,l3,d12,d13,d23,hp,hm,pm,h1,h3⟩:=S;exact⟨C,M,l1.up h,l2.up h,l3.up h,d12,d13,d23,hp,hm,pm,Qau h1 h,h2⟩
theorem MS.bare (S:MS p mb lo hi m ts v1 v2 v3 s):MS p mb lo hi m ts v1 v2 v3 s.bare:=by
 obtain⟨C,M,l1,l2,l3,d12,d13,d23,hp,hm,pm,h1,h2⟩:=S;exact⟨C.bar,⟨M.lt,M.get⟩,by rw[jF];exact l1,by rw[jF];exact l2,by rw[jF];exact l3,d12,d13,d23,hp,hm,pm,h1,h2⟩
theorem MS.ofbk {u:St}(S:MS p mb lo hi m ts v1 v2 v3 s):MS p mb lo hi m ts v1 v2 v3 (bk u s):=by
 obtain⟨C,M,l1,l2,l3,d12,d13,d23,hp,hm,pm,h1,h2⟩:=S;have e:∀ b cs,Cl s b cs->Cl (bk u s) b cs:=λb cs h=>⟨h.lt,h.row,h.len,h.cell⟩;have el:∀ v n cs z,Lv lo hi s v n cs z->Lv lo hi (bk u s) v n cs z:=λv n cs z h=>h.imp id λ⟨c,h1,h2,h3,h4,h5,h6⟩=>⟨c,h1,h2,h3,e _ _ h4,h5,h6⟩;exact⟨e _ _ C,⟨M.lt,M.get⟩,el _ _ _ _ l1,el _ _ _ _ l2,el _ _ _ _ l3,d12,d13,d23,hp,hm,pm,h1,h2⟩
theorem MS.enum (S:MS p mb lo hi m ts v1 v2 v3 s)(e:EnumT):MS p mb lo (s.nx+1) { m with enums:=m.enums ++ [e] } ts v1 (apv 4 v2 s) v3 (Go.Sy.wr (Go.Sy.aps v2 s (enE e)) p 1 [apv 4 v2 s]):=by
 obtain⟨C,M,l1,l2,l3,d12,d13,d23,hp,hm,pm,h1,h2⟩:=S;have h4:=C.lt;have hn:(Go.Sy.wr (Go.Sy.aps v2 s (enE e)) p 1 [apv 4 v2 s]).nx=s.nx+1:=by rw[jh,jj]
 refine⟨?_,?_,?_,?_,?_,(Df.put l1 h2).2,d13,(Df.put l3 h2).1,hp,hm,pm,by omega,by rw[hn];exact Qaq _⟩
 ·exact(cast (l2.cl s (enE e) _ p (.inl hp) h4).symm C:Cl (Go.Sy.aps v2 s (enE e)) p _).wr 1 [apv 4 v2 s]
 ·exact M.keep (by rw[hn];omega) (by rw[Js (λh=>pm h.symm)];exact l2.get s (enE e) mb (.inl hm) M.lt)
 ·rw[jC (.inl hp)];exact(l1.apsD (Df.symm d12)).up (by omega)
 ·rw[jC (.inl hp),Qak,Xz,QC];exact l2.put (Qq e) (by omega) rfl
 ·rw[jC (.inl hp)];exact(l3.apsD d23).up (by omega)
end
def KM (p mb lo:Nat)(st:St)(r:KR (ModT×List (List Nat)))(K Kp:AV->St->Prop):Prop:=match r with
 |.ok y=>∀ s',Kq p mb lo st s'->MX p mb lo y.1 y.2 s'->K (.tup []) s'
 |.er c l k=>∀ s',Kq p mb lo st s'->Kp (kf c l k) s'
def XQ (ts:List (List Nat))(nm:List Nat)(l c:Int):KR (List (List Nat)):=if nm∈ts then .er 162 l c else .ok (ts ++ [nm])
def zG (l c:Int):List (List Nat)->List (List Nat)->KR (List (List Nat))
 |ts,[]=>.ok ts
 |ts,n :: ns=>match XQ ts n l c with
  |.er a b d=>.er a b d
  |.ok ts=>zG l c ts ns
def wH (m:ModT)(ts:List (List Nat))(e:EnumT):KR (ModT×List (List Nat)):=match zG e.line e.col ts (e.name :: e.vals) with
 |.er a b d=>.er a b d
 |.ok ts=>.ok ({ m with enums:=m.enums ++ [e] },ts)
theorem WA {l c:Int}:∀ {xs ys:List (List Nat)} {ts:List (List Nat)},zG l c ts (xs ++ ys)=match zG l c ts xs with | .er a b d=>.er a b d | .ok us=>zG l c us ys
 |[],ys,ts=>rfl
 |x :: xs,ys,ts=>by
  simp only[Qaw,zG];cases XQ ts x l c with
  |er a b d=>rfl
  |ok us=>exact WA
set_option maxHeartbeats 4000000 in
theorem jqm (hb:NB base)(hcl:∀ vs:List (List Nat),0<vs.length->vs.length<=1000000->Tot base 99 [.lst vs.length (vs.map .str)] (.lst vs.length (vs.map .str))){p mb lo:Nat}{m:ModT}{ts:List (List Nat)}{st:St}(e:EnumT)(hv:0<e.vals.length)(hv2:e.vals.length<=1000000)(hE:m.enums.length<=1000000)(H:MX p mb lo m ts st)(K Kp:AV->St->Prop)(hK:KM p mb lo st (wH m ts e) K Kp):XB Qaf base 61 [.ptr p 0,.agg (enE e)] st K Kp:=by
 obtain⟨v1,v2,v3,S⟩:=H;obtain⟨C,M,l1,l2,l3,d12,d13,d23,hp,hm,pm,lo0,hi0⟩:=id S;refine JO x61 (by rfl) (hb.at0 61 (by decide) (by decide) _ _) ?_;simp only[y61,jp,Qai,Qal,Qag,Qah];rw[(by unfold z61;simp only[qq];rfl:z61=_)];have q0:Kq p mb lo st.bare st.bare:=Kq.refl;have hnx:st.bare.nx=st.nx:=rfl;have S0:=S.bare.nw (enE e);have q1:=q0.nw lo0 (enE e);have Cb:Cl (Go.Sy.nw st.bare (enE e)) st.nx (enE e):=Cl.new st.bare (enE e);unfold wH at hK;repeat'(first|(apply jc<;>intro _)|simp(disch:=first|exact dzG|fail) only[je,jo,jn,jf,jr,jt,jv,jx,ju,rzZ,Qab,Qac,Qad,Qaa,Qae])
 refine Ku hb S0.cp S0.mp _ _ _ _ _ ?_;by_cases h:e.name∈ts
 ·rw[if_pos h];have e1:zG e.line e.col ts (e.name :: e.vals)=.er 162 e.line e.col:=by simp only[zG,XQ,if_pos h]
  rw[e1] at hK;exact hK _ q1.bk
 ·rw[if_neg h];have e1:zG e.line e.col ts (e.name :: e.vals)=zG e.line e.col (ts ++ [e.name]) e.vals:=by simp only[zG,XQ,if_neg h]
  rw[e1] at hK
  replace S0:=S0.take (ts ++ [e.name])
  replace q1:=q1.mp (mpl (ts ++ [e.name]))
  have Cb:Cl (Go.Sy.mp (Go.Sy.nw st.bare (enE e)) mb (mpl (ts ++ [e.name]))) st.nx (enE e):=by rw[Vc (by omega)];exact Cb
  have hn1:(Go.Sy.mp (Go.Sy.nw st.bare (enE e)) mb (mpl (ts ++ [e.name]))).nx=st.nx+1:=rfl;generalize Go.Sy.mp (Go.Sy.nw st.bare (enE e)) mb (mpl (ts ++ [e.name]))=s1 at *
  (have zz:=@Cb.r;(repeat'(first|(apply jc<;>intro _)|simp(disch:=first|exact qu|fail) only[Cb.q,Cb.r,je,jo,jn,jf,jr,jt,jv,jx,ju,rzZ,Qab,Qac,Qad,Qaa,Qae]));(all_goals(clear zz)))
  refine qy e.vals.length (λk L s=>∃ us,zG e.line e.col (ts ++ [e.name]) (e.vals.take k)=.ok us/\MS p mb lo st.nx m us v1 v2 v3 s/\Kq p mb lo st.bare s/\st.nx+1<=s.nx/\Cl s st.nx (enE e)/\Has L 0 (.ptr p 0)/\Has L 3 (.ptr st.nx 0)/\Has L 15 (.lst e.vals.length (e.vals.map .str))) (by first|assumption|omega) (by decide) (by simp(disch:=decide) only[jd,jb]) (by simp(disch:=decide) only[jd,jb]) ?_ (λk L s v h=>(by obtain⟨us,h1,h2,h3,h4,h5,h6,h7,h8⟩:=h;refine⟨us,h1,h2,h3,h4,h5,?_,?_,?_⟩<;>simp(disch:=decide) only[jb]<;>assumption)) (λk L s v h=>(by obtain⟨us,h1,h2,h3,h4,h5,h6,h7,h8⟩:=h;refine⟨us,h1,h2,h3,h4,h5,?_,?_,?_⟩<;>simp(disch:=decide) only[jb]<;>assumption)) (λk L s hk hI hi hn=>?_) (λL s hI=>?_)
  ·refine⟨_,by rw[QaZ,zG],S0,q1,by omega,Cb,?_,?_,?_⟩<;>simp(disch:=decide) only[jb,jd]
  ·obtain⟨us,h1,S1,q1,hnn,Cb,i0,i3,i15⟩:=hI;have tk:e.vals.take (k+1)=e.vals.take k ++ [e.vals[k]]:=y7 hk
   (have zz:=@Cb.r;(repeat'(first|(apply jc<;>intro _)|simp(disch:=first|exact qu|fail) only[ja i0,ja i3,ja i15,ja hi,ja hn,jgF hk,Cb.q,Cb.r,je,jo,jn,jf,jr,jt,jv,jx,ju,rzZ,Qab,Qac,Qad,Qaa,Qae]));(all_goals(clear zz)))
   refine Ku hb S1.cp S1.mp _ _ _ _ _ ?_;by_cases h:e.vals[k]∈us
   ·rw[if_pos h];have e2:zG e.line e.col (ts ++ [e.name]) e.vals=.er 162 e.line e.col:=by
     have e3:e.vals=e.vals.take k ++ (e.vals[k] :: e.vals.drop (k+1)):=by rw[QbE,Qbp]
     rw[e3,WA,h1];simp only[zG,XQ,if_pos h]
    rw[e2] at hK;exact hK _ q1.bk
   ·rw[if_neg h];have e2:zG e.line e.col (ts ++ [e.name]) (e.vals.take (k+1))=.ok (us ++ [e.vals[k]]):=by
     rw[tk,WA,h1];simp only[zG,XQ,if_neg h]
    repeat'(first|(apply jc<;>intro _)|simp(disch:=first|exact dzG|fail) only[je,jo,jn,jf,jr,jt,jv,jx,ju,rzZ,Qab,Qac,Qad,Qaa,Qae])
    refine⟨⟨_,e2,S1.take _,q1.mp _,by rw[jfo];exact hnn,by rw[Vc (by omega)];exact Cb,?_,?_,?_⟩,?_,?_⟩<;>simp(disch:=decide) only[jb]<;>assumption
  ·obtain⟨us,h1,S1,q1,hnn,Cb,i0,i3,i15⟩:=hI;rw[QaE] at h1;rw[h1] at hK;have T:=λ(h:0<e.vals.length)=>hcl e.vals h hv2;have Cp:=S1.cp;have V2:=S1.l2;have ve2:=V2.eqs;have Ap:=λst' bv xc xx K h hv=>@X7 lo st.nx m.enums.length 4 st' v2 (fl enE m.enums) K 56 bv xc xx h (by decide) (by omega) (by omega) hv;have hqp:st.nx≠p:=by omega
   have S2:=(S1.nw (enE e)).enum e;have S2:=(S2.up (by(first|omega|(simp only[jg,jh,jk,jj,ji];first|done|omega))) (Qaq _)).ofbk (u:=st);have q2:=(((q1.nw (by omega) (enE e)).aps V2 (by(first|omega|(simp only[jg,jh,jk,jj,ji];first|done|omega))) (enE e)).wr (.inl rfl) 1 [apv 4 v2 (Go.Sy.nw s (enE e))]).bk;have g0:rat s.h st.nx 0=.str e.name:=(Cb.cell 0 (by rw[Qq];decide)).trans (by rw[Va];rfl);have g2:rat s.h st.nx 2=.int .i64 e.line:=(Cb.cell 2 (by rw[Qq];decide)).trans (by rw[Va];rfl);have g3:rat s.h st.nx 3=.int .i64 e.col:=(Cb.cell 3 (by rw[Qq];decide)).trans (by rw[Va];rfl);have gp:rat s.h p 1=v2:=Cp.cell 1 (by simp only[Qaj,Qan];omega);have ln:qC s.h st.nx=4:=by rw[Cb.len,Qq]
   (have zz:=aI V2.ln (aI V2.rts (aI @jC (aI @jG (aI @jH (aI @V2 (aI @jD (aI @jK (aI @jO (aI @Cb.r @Cp.r)))))))));(repeat'(first|(apply jc<;>intro _)|simp(disch:=first|exact qu|fail) only[ja i0,ja i3,T hv,Ap,Gi,sm9,Gh,sm3,ve2,V2.at,jD,Cb.q,Cp.q,V2.ln,V2.rts,jC,jG,jH,V2,jD,jK,jO,Cb.r,Cp.r,je,jo,jn,jf,jr,jt,jv,jx,ju,rzZ,Qab,Qac,Qad,Qaa,Qae]));(all_goals(clear zz)))
   have a9:=(sm9 (by omega) g0 rfl).mpr trivial;have a2:=(sm3 (by omega) g2 rfl).mpr trivial;have a3:=(sm3 (by omega) g3 rfl).mpr trivial;have a23:=(Gi (by rw[Cp.len];simp only[Qaj,Qan];omega) gp ve2).mpr trivial;repeat' apply aI
   all_goals first|exact a9|exact a23|exact a2|exact a3|exact hK _ q2 ⟨_,_,_,S2⟩
end Go.Sy
end
noncomputable section
set_option maxRecDepth 100000
namespace Go.Sy
open Go.Ev Go.Proofs
variable {base:Bs}
mutual
def Qi:Ex->Option Ex
 |.mk op num name ks l c=>if op=4 then some (.mk op num name ks l c) else Jh ks
def Jh:List Ex->Option Ex
 |[]=>none
 |x :: xs=>match Qi x with
  |some y=>some y
  |none=>Jh xs
end
theorem ug (x:Ex):Qi x=if x.op=4 then some x else Jh x.kids:=by cases x;rw[Qi];rfl
theorem uI:∀ {xs ys:List Ex},Jh (xs ++ ys)=match Jh xs with|some y=>some y|none=>Jh ys
 |[],ys=>rfl
 |x :: xs,ys=>by
  simp only[Qaw,Jh];cases Qi x with
  |some y=>rfl
  |none=>exact uI
def Jy (x:Ex):Ex×Bool:=match Qi x with
 |some y=>(y,true)
 |none=>(x,false)
theorem G0.exb {s:St}{a:List AV}{b:Bool}{u:AV}(h:u=.tup [.agg a,.bool b])(ha:a.all pc=true):G0 u (.tup [.agg a,.bool b]) s:=by
 subst h;exact FzD.tup (.cons (.agg (.pc ha)) (.cons (.pc rfl) .nil))
set_option maxHeartbeats 4000000 in
theorem jnw (hb:NB base):∀ x:Ex,wk x=true->Tot base 102 [.agg (eE x)] (.tup [.agg (eE (Jy x).1),.bool (Jy x).2]):=by
 refine Ex.indk λx ih hw=>?_;have hw':x.kids.length<=1000000/\Y3 x.kids=true:=by cases x;rw[wk,Qar,decide_eq_true_eq] at hw;exact hw
 refine hb.tot ?_ (by first|rfl|simp[pa,pc,q8,Qs,JI,Jj,XN,Za,Zf,Yt,Yp]) rfl;refine jI jsA (by rfl) (hb.pur 102 1 (by decide)) ?_;simp only[joC,jp,Qai,Qal,Qag,Qah];rw[(by unfold jjX;simp only[qq];rfl:jjX=_)];repeat'(first|(apply jc<;>intro _)|simp(disch:=first|exact dzG|fail) only[je,jo,jn,jf,jr,jt,jv,jx,ju,rzZ,Qab,Qac,Qad,Qaa,Qae])
 ·rename_i h;have e:Jy x=(x,true):=by unfold Jy;rw[ug,if_pos h]
  rw[e];exact G0.exb rfl (q8 x)
 rename_i h;have e0:Qi x=Jh x.kids:=by rw[ug,if_neg h]
 refine qy x.kids.length (λk L s=>Jh (x.kids.take k)=none/\2<=s.nx/\Cl s 0 (eE x)/\Cl s 1 z6/\Has L 1 (.ptr 0 0)/\Has L 2 (.ptr 1 0)/\Has L 13 (.lst x.kids.length (fl eE x.kids))) (by first|assumption|omega) (by decide) (by simp(disch:=decide) only[jd,jb]) (by simp(disch:=decide) only[jd,jb]) ?_ (λk L s v h=>(by obtain⟨h1,h2,h3,h4,h5,h6,h7⟩:=h;refine⟨h1,h2,h3,h4,?_,?_,?_⟩<;>simp(disch:=decide) only[jb]<;>assumption)) (λk L s v h=>(by obtain⟨h1,h2,h3,h4,h5,h6,h7⟩:=h;refine⟨h1,h2,h3,h4,?_,?_,?_⟩<;>simp(disch:=decide) only[jb]<;>assumption)) (λk L s hk hI hi hn=>?_) (λL s hI=>?_)
 ·refine⟨by rw[QaZ,Jh],by(first|omega|(simp only[jg,jh,jk,jj,ji];first|done|omega)),?_,Cl.new _ _,?_,?_,?_⟩
  ·have n0:=Cl.new st0 (eE x);exact n0.nw _
  all_goals simp(disch:=decide) only[jb,jd]
 ·obtain⟨h1,h2,C0,C1,i1,i2,i13⟩:=hI;have E:=ih x.kids[k] (Qay hk) (Vo hk hw'.2);have tk:x.kids.take (k+1)=x.kids.take k ++ [x.kids[k]]:=y7 hk;cases hf:Qi x.kids[k] with
  |some y=>
   have e:Jy x=(y,true):=by
    unfold Jy;have e3:x.kids=x.kids.take k ++ (x.kids[k] :: x.kids.drop (k+1)):=by rw[QbE,Qbp]
    rw[e0,e3,uI,h1];simp only[Jh,hf]
   have e2:Jy x.kids[k]=(y,true):=by unfold Jy;rw[hf]
   rw[e2] at E;unfold z6 at C1
   (have zz:=aI C0.r C1.r;(repeat'(first|(apply jc<;>intro _)|simp(disch:=first|exact qu|fail) only[ja i1,ja i2,ja i13,ja hi,ja hn,E,C0.q,C1.q,C0.r,C1.r,je,jo,jn,jf,jr,jt,jv,jx,ju,rzZ,Qab,Qac,Qad,Qaa,Qae]));(all_goals(clear zz)))
   rw[e];exact G0.exb rfl (q8 y)
  |none=>
   have e2:Jy x.kids[k]=(x.kids[k],false):=by unfold Jy;rw[hf]
   rw[e2] at E
   (have zz:=aI C0.r C1.r;(repeat'(first|(apply jc<;>intro _)|simp(disch:=first|exact qu|fail) only[ja i1,ja i2,ja i13,ja hi,ja hn,E,C0.q,C1.q,C0.r,C1.r,je,jo,jn,jf,jr,jt,jv,jx,ju,rzZ,Qab,Qac,Qad,Qaa,Qae]));(all_goals(clear zz)))
   refine⟨⟨?_,by(first|omega|(simp only[jg,jh,jk,jj,ji];first|done|omega)),by(first|exact C0|(simp(disch:=first|assumption|decide|(first|omega|(simp only[jg,jh,jk,jj,ji];first|done|omega))) only[jA,jB,jy,jN,jC,jG,jF,jH];exact C0)),by(first|exact C1|(simp(disch:=first|assumption|decide|(first|omega|(simp only[jg,jh,jk,jj,ji];first|done|omega))) only[jA,jB,jy,jN,jC,jG,jF,jH];exact C1)),?_,?_,?_⟩,?_,?_⟩
   ·rw[tk,uI,h1];simp only[Jh,hf]
   all_goals(simp(disch:=decide) only[jb];assumption)
 ·obtain⟨h1,h2,C0,C1,i1,i2,i13⟩:=hI;rw[QaE] at h1;have e:Jy x=(x,false):=by unfold Jy;rw[e0,h1]
  unfold z6 at C1
  (have zz:=aI C0.r C1.r;(repeat'(first|(apply jc<;>intro _)|simp(disch:=first|exact qu|fail) only[ja i1,ja i2,C0.q,C1.q,C0.r,C1.r,je,jo,jn,jf,jr,jt,jv,jx,ju,rzZ,Qab,Qac,Qad,Qaa,Qae]));(all_goals(clear zz)))
  rw[e,<-qI];exact G0.exb rfl (q8 x)
end Go.Sy
end
noncomputable section
set_option maxRecDepth 100000
namespace Go.Sy
open Go.Ev Go.Proofs
variable {base:Bs}
section
variable {st:St} {K:AV->St->Prop}
theorem jg0 (k:IntKind)(a b:Int):jm (Qc .add (.int k a) (.int k b) st) K=K (.int k (q9 k (a+b))) st:=by
 cases k<;>rfl
theorem jgE (k:IntKind)(a b:Int):jm (Qc .sub (.int k a) (.int k b) st) K=K (.int k (q9 k (a - b))) st:=by
 cases k<;>rfl
theorem jgN (k:IntKind)(a b:Int):jm (Qc .mul (.int k a) (.int k b) st) K=K (.int k (q9 k (a * b))) st:=by
 cases k<;>rfl
theorem joQ (k:IntKind)(a:Int):jm (unV .neg (.int k a) st) K=K (.int k (q9 k (-a))) st:=by
 have e:k.wrap (0 - a)=q9 k (-a):=by rw[<-Zr,Int.zero_sub]
 simp only[unV,Y5,O,e,jm]
theorem jgY (k j:IntKind)(a:Int):jm (jqw k (.int j a) st) K=K (.int k (q9 k a)) st:=by
 cases k<;>cases j<;>rfl
end
def Ka (b:Bool):Int:=if b then 1 else 0
def jf4 (op num a b:Int):Int:=
 if op=5 then q9 .i64 (-a) else if op=6 then q9 .i64 (1 - a) else if op=14 then q9 .i64 (a * b) else if op=15 then q9 .i64 (a+b) else if op=16 then q9 .i64 (a - b)
 else if op=17\/op=30 then Ka (decide (a=b)) else if op=18 then Ka (decide (a≠b)) else if op=19 then Ka (decide (a<b)) else if op=20\/op=29 then Ka (decide (a<=b))
 else if op=21 then Ka (decide (b<a)) else if op=22 then Ka (decide (b<=a)) else if op=27 then q9 .i64 (a * b) else if op=28 then max a b else num
mutual
def Jz:Ex->Int
 |.mk op num _ ks _ _=>jf4 op num ((QG ks).getD 0 0) ((QG ks).getD 1 0)
def QG:List Ex->List Int
 |[]=>[]
 |x :: xs=>Jz x :: QG xs
end
mutual
def zF:Ex->Bool
 |.mk _ _ _ ks _ _=>decide (ks.length<=2) && zU ks
def zU:List Ex->Bool
 |[]=>true
 |x :: xs=>zF x && zU xs
end
theorem jiS (x:Ex):Jz x=jf4 x.op x.num ((QG x.kids).getD 0 0) ((QG x.kids).getD 1 0):=by cases x;rw[Jz];rfl
theorem Vs:∀ {xs:List Ex} {k:Nat} (h:k<xs.length),zU xs=true->zF xs[k]=true
 |x :: xs,0,_,h=>by rw[zU,Qar] at h;exact h.1
 |x :: xs,k+1,hk,h=>by rw[zU,Qar] at h;exact Vs (xs:=xs) (k:=k) (by simpa using hk) h.2
theorem gx:∀ {xs:List Ex} {k:Nat} (h:k<xs.length),Jh xs=none->Qi xs[k]=none
 |x :: xs,0,_,h=>by
  rw[Jh] at h;cases hx:Qi x with
  |none=>exact hx
  |some y=>rw[hx] at h;cases h
 |x :: xs,k+1,hk,h=>by
  rw[Jh] at h;cases hx:Qi x with
  |none=>rw[hx] at h;exact gx (xs:=xs) (k:=k) (by simpa using hk) h
  |some y=>rw[hx] at h;cases h
def Kd (ks:List Ex)(k:Nat):List AV:=[.int .i64 ((QG (ks.take k)).getD 0 0),.int .i64 ((QG (ks.take k)).getD 1 0)]
theorem jcW (ks:List Ex)(k:Nat):(Kd ks k).length=2:=nr rfl
theorem jnL {ks:List Ex}{k:Nat}(hk:k<ks.length)(h2:ks.length<=2):upd (Kd ks k) k [.int .i64 (Jz ks[k])]=Kd ks (k+1):=by
 match ks,k with
 |[a],0=>rfl
 |[a,b],0=>rfl
 |[a,b],1=>rfl
 |[a],k+1=>simp at hk
 |[a,b],k+2=>exact absurd hk (by simp)
 |a :: b :: c :: l,_=>simp at h2
theorem jrN (hb:NB base)(q:Bool):Tot base 140 [.bool q] (.int .i64 (Ka q)):=by
 refine hb.tot ?_ rfl rfl;refine jI jse (by rfl) (hb.pur 140 1 (by decide)) ?_;simp only[jog,jp,Qai,Qal,Qag,Qah];rw[(by unfold jjB;simp only[qq];rfl:jjB=_)];repeat'(first|(apply jc<;>intro _)|simp(disch:=first|exact dzG|fail) only[je,jo,jn,jf,jr,jt,jv,jx,ju,rzZ,Qab,Qac,Qad,Qaa,Qae])
 ·rename_i h;subst h;exact G0.v rfl rfl
 ·rename_i h;have h:q=false:=by simpa using h
  subst h;exact G0.v rfl rfl
set_option maxHeartbeats 4000000 in
theorem jf6 (hb:NB base):∀ x:Ex,zF x=true->Qi x=none->Tot base 103 [.agg (eE x)] (.int .i64 (Jz x)):=by
 refine Ex.indk λx ih ht hf=>?_;have ht':x.kids.length<=2/\zU x.kids=true:=by cases x;rw[zF,Qar,decide_eq_true_eq] at ht;exact ht
 have hop:x.op≠4:=λh=>by rw[ug,if_pos h] at hf;cases hf
 rw[ug,if_neg hop] at hf;refine hb.tot ?_ (by first|rfl|simp[pa,pc,q8,Qs,JI,Jj,XN,Za,Zf,Yt,Yp]) rfl;refine jI jsz (by rfl) (hb.pur 103 1 (by decide)) ?_;simp only[joB,jp,Qai,Qal,Qag,Qah];rw[(by unfold jjW;simp only[qq];rfl:jjW=_)];repeat'(first|(apply jc<;>intro _)|simp(disch:=first|exact dzG|fail) only[je,jo,jn,jf,jr,jt,jv,jx,ju,rzZ,Qab,Qac,Qad,Qaa,Qae])
 refine qy x.kids.length (λk L s=>2<=s.nx/\Cl s 0 (eE x)/\Cl s 1 (Kd x.kids k)/\Has L 1 (.ptr 0 0)/\Has L 3 (.ptr 1 0)/\Has L 8 (.lst x.kids.length (fl eE x.kids))) (by first|assumption|omega) (by decide) (by simp(disch:=decide) only[jd,jb]) (by simp(disch:=decide) only[jd,jb]) ?_ (λk L s v h=>(by obtain⟨h2,h3,h4,h5,h6,h7⟩:=h;refine⟨h2,h3,h4,?_,?_,?_⟩<;>simp(disch:=decide) only[jb]<;>assumption)) (λk L s v h=>(by obtain⟨h2,h3,h4,h5,h6,h7⟩:=h;refine⟨h2,h3,h4,?_,?_,?_⟩<;>simp(disch:=decide) only[jb]<;>assumption)) (λk L s hk hI hi hn=>?_) (λL s hI=>?_)
 ·refine⟨by(first|omega|(simp only[jg,jh,jk,jj,ji];first|done|omega)),?_,Cl.new _ _,?_,?_,?_⟩
  ·have n0:=Cl.new st0 (eE x);exact n0.nw _
  all_goals simp(disch:=decide) only[jb,jd]
 ·obtain⟨h2,C0,C1,i1,i3,i8⟩:=hI;have E:=ih x.kids[k] (Qay hk) (Vs hk ht'.2) (gx hk hf);have ap:=jnL hk ht'.1;have hk2:k<2:=by omega
  (have zz:=aI @jcW (aI C0.r C1.r);(repeat'(first|(apply jc<;>intro _)|simp(disch:=first|exact qu|fail) only[ja i1,ja i3,ja i8,ja hi,ja hn,E,jcW,C0.q,C1.q,jcW,C0.r,C1.r,je,jo,jn,jf,jr,jt,jv,jx,ju,rzZ,Qab,Qac,Qad,Qaa,Qae]));(all_goals(clear zz)))
  refine⟨⟨by(first|omega|(simp only[jg,jh,jk,jj,ji];first|done|omega)),by(first|exact C0|(simp(disch:=first|assumption|decide|(first|omega|(simp only[jg,jh,jk,jj,ji];first|done|omega))) only[jA,jB,jy,jN,jC,jG,jF,jH];exact C0)),Cl.cv (Cl.wr (?_:Cl _ 1 (Kd x.kids k)) k _) ap,?_,?_,?_⟩,?_,?_⟩
  ·(first|exact C1|(simp(disch:=first|assumption|decide|(first|omega|(simp only[jg,jh,jk,jj,ji];first|done|omega))) only[jA,jB,jy,jN,jC,jG,jF,jH];exact C1))
  all_goals(simp(disch:=decide) only[jb];assumption)
 ·obtain⟨h2,C0,C1,i1,i3,i8⟩:=hI;have hc:=jiS x;have ea:Kd x.kids x.kids.length=[.int .i64 ((QG x.kids).getD 0 0),.int .i64 ((QG x.kids).getD 1 0)]:=by unfold Kd;rw[QaE]
  rw[ea] at C1;generalize (QG x.kids).getD 0 0=a at *;generalize (QG x.kids).getD 1 0=b at *;rw[hc];have B:=jrN hb
  (have zz:=aI C0.r C1.r;(repeat'(first|(apply jc<;>intro _)|simp(disch:=first|exact qu|fail) only[ja i1,ja i3,ja i8,B,joQ,jgE,jgN,jg0,C0.q,C1.q,C0.r,C1.r,je,jo,jn,jf,jr,jt,jv,jx,ju,rzZ,Qab,Qac,Qad,Qaa,Qae]));(all_goals(clear zz)))
  all_goals(refine G0.v (congrArg _ ?_) rfl;unfold jf4;simp_all)
end Go.Sy
end
noncomputable section
set_option maxRecDepth 100000
namespace Go.Sy
open Go.Ev Go.Proofs
variable {base:Bs}
def stW (n:Int)(v:VarT):Int:=q9 .u64 (n * q9 .u64 (q9 .u64 (q9 .u64 v.hi - q9 .u64 v.lo)+1))
def Ut (vars:List VarT):Int:=q9 .i64 (vars.foldl stW 1)
set_option maxHeartbeats 4000000 in
theorem jkf (hb:NB base)(vars:List VarT)(hl:vars.length<=1000000)(n2 n3:Nat)(c2 c3:List AV):PL Qaf base 33 [.agg [.lst vars.length (fl vaE vars),.lst n2 c2,.lst n3 c3]] (.ok (.int .i64 (Ut vars))):=by
 refine Q3 x33 (by rfl) (hb.pur 33 5 (by decide)) rfl ?_;simp only[y33,jp,Qai,Qal,Qag,Qah];rw[(by unfold z33;simp only[qq];rfl:z33=_)];repeat'(first|(apply jc<;>intro _)|simp(disch:=first|exact dzG|fail) only[je,jo,jn,jf,jr,jt,jv,jx,ju,rzZ,Qab,Qac,Qad,Qaa,Qae])
 refine qy vars.length (λk L s=>1<=s.nx/\Has L 3 (.int .u64 ((vars.take k).foldl stW 1))/\Has L 7 (.lst vars.length (fl vaE vars))) (by first|assumption|omega) (by decide) (by simp(disch:=decide) only[jd,jb]) (by simp(disch:=decide) only[jd,jb]) ?_ (λk L s v h=>(by obtain⟨h1,h2,h3⟩:=h;refine⟨h1,?_,?_⟩<;>simp(disch:=decide) only[jb]<;>assumption)) (λk L s v h=>(by obtain⟨h1,h2,h3⟩:=h;refine⟨h1,?_,?_⟩<;>simp(disch:=decide) only[jb]<;>assumption)) (λk L s hk hI hi hn=>?_) (λL s hI=>?_)
 ·refine⟨by(first|omega|(simp only[jg,jh,jk,jj,ji];first|done|omega)),?_,?_⟩<;>simp(disch:=decide) only[jb,jd,QaZ,List.foldl_nil]
 ·obtain⟨h1,i3,i7⟩:=hI;have tk:vars.take (k+1)=vars.take k ++ [vars[k]]:=y7 hk;have A1:=λa b st K=>@jg0 st K .u64 a b;have A2:=λa b st K=>@jgE st K .u64 a b;repeat'(first|(apply jc<;>intro _)|simp(disch:=first|exact dzG|fail) only[ja i3,ja i7,ja hi,ja hn,jgY,jgN,A1,A2,je,jo,jn,jf,jr,jt,jv,jx,ju,rzZ,Qab,Qac,Qad,Qaa,Qae])
  refine⟨⟨by(first|omega|(simp only[jg,jh,jk,jj,ji];first|done|omega)),?_,?_⟩,?_,?_⟩
  ·rw[tk,QbV];exact⟨rfl,rfl⟩
  all_goals(simp(disch:=decide) only[jb];assumption)
 ·obtain⟨h1,i3,i7⟩:=hI;rw[QaE] at i3;repeat'(first|(apply jc<;>intro _)|simp(disch:=first|exact dzG|fail) only[ja i3,jgY,je,jo,jn,jf,jr,jt,jv,jx,ju,rzZ,Qab,Qac,Qad,Qaa,Qae])
  exact G0.v rfl rfl
end Go.Sy
end
noncomputable section
set_option maxRecDepth 100000
namespace Go.Sy
open Go.Ev Go.Proofs
variable {base:Bs}
def JK (vars:List VarT)(enums:List EnumT):VarT->List Ex->KR VarT
 |v,[]=>.ok v
 |v,x :: xs=>match yD vars enums false x v.kind v.enum with
  |.er a b c=>.er a b c
  |.ok y=>match Qi y with
   |some z=>.er 161 z.line z.col
   |none=>if Jz y<v.lo\/v.hi<Jz y then .er 164 x.line x.col else JK vars enums { v with beg:=true,first:=Jz y } xs
theorem Kb {vars:List VarT}{enums:List EnumT}:∀ {xs ys:List Ex} {v:VarT},JK vars enums v (xs ++ ys)=match JK vars enums v xs with | .er a b c=>.er a b c | .ok u=>JK vars enums u ys
 |[],ys,v=>rfl
 |x :: xs,ys,v=>by
  simp only[Qaw,JK];cases yD vars enums false x v.kind v.enum with
  |er a b c=>rfl
  |ok y=>
   dsimp only;cases Qi y with
   |some z=>rfl
   |none=>
    dsimp only;split
    ·rfl
    ·exact Kb
def en0:EnumT:=⟨[],[],0,0⟩
def JY (enums:List EnumT)(nm:List Nat):Int:=fi (λx=>decide (x.name=nm)) enums
def UN (enums:List EnumT)(d:DeclT):KR VarT:=
 if d.ty=[98,111,111,108] then .ok ⟨d.name,2,[],0,1,false,0⟩
 else if 0<=JY enums d.ty then .ok ⟨d.name,3,d.ty,0,((enums.getD (JY enums d.ty).toNat en0).vals.length:Int) - 1,false,0⟩
 else if d.ty≠[] then .er 161 d.line d.col
 else if d.hi<d.lo then .er 164 d.line d.col
 else if 1024<=d.hi - d.lo then .er 165 d.line d.col
 else .ok ⟨d.name,1,[],d.lo,d.hi,false,0⟩
def Gp (m:ModT)(ts:List (List Nat))(d:DeclT)(v:VarT):KR (ModT×List (List Nat)):=
 if 281474976710656<Ut (m.vars ++ [v]) then .er 165 d.line d.col else .ok ({ m with vars:=m.vars ++ [v] },ts)
def uv (m:ModT)(ts:List (List Nat))(d:DeclT)(v:VarT):KR (ModT×List (List Nat)):=match JK m.vars m.enums v d.begins with
 |.er a b c=>.er a b c
 |.ok v=>Gp m ts d v
def Zj (m:ModT)(ts:List (List Nat))(d:DeclT):KR (ModT×List (List Nat)):=match XQ ts d.name d.line d.col with
 |.er a b c=>.er a b c
 |.ok ts=>match UN m.enums d with
  |.er a b c=>.er a b c
  |.ok v=>uv m ts d v
section
variable {p mb lo hi:Nat} {m:ModT} {ts us:List (List Nat)} {v1 v2 v3:AV} {s t:St}
theorem MS.ck (S:MS p mb lo hi m ts v1 v2 v3 s):Ck p v1 v2 v3 (.map mb) m.vars m.enums false s:=by
 obtain⟨C,M,l1,l2,l3,d12,d13,d23,hp,hm,pm,h1,h2⟩:=S;refine⟨C,l1.lr,l2.lr,?_,?_⟩
 ·intro b k z x e;rcases l1 with ⟨h,_⟩|⟨c,h,h2,_⟩
  ·rw[h] at e;cases e
  ·rw[h] at e;cases e;omega
 ·intro b k z x e;rcases l2 with ⟨h,_⟩|⟨c,h,h2,_⟩
  ·rw[h] at e;cases e
  ·rw[h] at e;cases e;omega
theorem MS.var (S:MS p mb lo hi m ts v1 v2 v3 s)(e:VarT):MS p mb lo (s.nx+1) { m with vars:=m.vars ++ [e] } ts (apv 7 v1 s) v2 v3 (Go.Sy.wr (Go.Sy.aps v1 s (vaE e)) p 0 [apv 7 v1 s]):=by
 obtain⟨C,M,l1,l2,l3,d12,d13,d23,hp,hm,pm,h1,h2⟩:=S;have h4:=C.lt;have hn:(Go.Sy.wr (Go.Sy.aps v1 s (vaE e)) p 0 [apv 7 v1 s]).nx=s.nx+1:=by rw[jh,jj]
 refine⟨?_,?_,?_,?_,?_,(Df.put l2 h2).1,(Df.put l3 h2).1,d23,hp,hm,pm,by omega,by rw[hn];exact Qaq _⟩
 ·exact(cast (l1.cl s (vaE e) _ p (.inl hp) h4).symm C:Cl (Go.Sy.aps v1 s (vaE e)) p _).wr 0 [apv 7 v1 s]
 ·exact M.keep (by rw[hn];omega) (by rw[Js (λh=>pm h.symm)];exact l1.get s (vaE e) mb (.inl hm) M.lt)
 ·rw[jC (.inl hp),Qak,Xz,QC];exact l1.put (XO e) (by omega) rfl
 ·rw[jC (.inl hp)];exact(l2.apsD d12).up (by omega)
 ·rw[jC (.inl hp)];exact(l3.apsD d13).up (by omega)
end
def va0:List AV:=[.str [],.int .i64 0,.str [],.int .i64 0,.int .i64 0,.bool false,.int .i64 0]
def dQ (st:St)(K:AV->St->Prop):Out->Prop:=QE Qaf y62.res λv s=>K v (back st s)
def dP (st:St)(Kp:AV->St->Prop):AV->Sl->St->Prop:=λv _ s=>Kp v (bk st s)
structure DS (p mb lo q:Nat)(m:ModT)(ts:List (List Nat))(v1 v2 v3:AV)(d:DeclT)(v:VarT)(st:St)(L:Sl)(s:St):Prop where
 S:MS p mb lo q m ts v1 v2 v3 s
 k:Kq p mb lo st.bare s
 nx:q+2<=s.nx
 c3:Cl s q (qm d)
 c4:Cl s (q+1) (vaE v)
 i0:Has L 0 (.ptr p 0)
 i3:Has L 3 (.ptr q 0)
 i4:Has L 4 (.ptr (q+1) 0)
theorem jkg (hb:NB base)(vars:List VarT)(hl:vars.length<=1000000){st:St}{v1 v2 v3:AV}{n2 n3:Nat}{c2 c3:List AV}(h1:Lr st v1 vars.length (fl vaE vars))(h2:Lr st v2 n2 c2)(h3:Lr st v3 n3 c3)(p2:c2.all pc=true)(p3:c3.all pc=true)(K Kp:AV->St->Prop) :
  XB Qaf base 33 [.agg [v1,v2,v3]] st K Kp=K (.int .i64 (Ut vars)) st:=by
 refine(jkf hb vars hl n2 n3 c2 c3).xb (JF (jh1 (jfD (h1.fz (d:=6) (Jn XN vars)) (jfD (h2.fz (d:=6) p2) (jfD (h3.fz (d:=6) p3) jrG)))) uc) (λst=>hb.no 33 (by decide) _ _) K Kp
set_option maxHeartbeats 4000000 in
theorem jqu (hb:NB base){p mb lo q:Nat}{m:ModT}{ts:List (List Nat)}{v1 v2 v3:AV}{d:DeclT}{v:VarT}{st:St}{L:Sl}{s:St}(D:DS p mb lo q m ts v1 v2 v3 d v st L s)(hV:m.vars.length<=900000)(K Kp:AV->St->Prop)(hK:KM p mb lo st (Gp m ts d v) K Kp):xC Qaf base jeJ L s (dQ st K) (dP st Kp):=by
 obtain⟨S,k,nx,C3,C4,i0,i3,i4⟩:=D;obtain⟨C,M,l1,l2,l3,d12,d13,d23,hp,hm,pm,lo0,hi0⟩:=id S;have ve1:=l1.eqs;have Ap:=λst' bv xc xx K h hv=>@X7 lo q m.vars.length 7 st' v1 (fl vaE m.vars) K 72 bv xc xx h (by decide) (by omega) (by omega) hv;have hqp:q≠p:=by omega
 have hqp1:q+1≠p:=by omega
 have S3:=(S.nw (vaE v)).var v;have q2:=(((k.nw (by omega) (vaE v)).aps l1 (by(first|omega|(simp only[jg,jh,jk,jj,ji];first|done|omega))) (vaE v)).wr (.inl rfl) 0 [apv 7 v1 (Go.Sy.nw s (vaE v))]).bk;have S33:=λK Kp=>jkg hb (m.vars ++ [v]) (by simp;omega) S3.l1.lr S3.l2.lr S3.l3.lr (Jn JI _) (Jn Zf _) K Kp;have S2:=(S3.up (by(first|omega|(simp only[jg,jh,jk,jj,ji];first|done|omega))) (Qaq _)).ofbk (u:=st);have gp:rat s.h p 0=v1:=C.cell 0 (by simp only[Qaj,Qan];omega);clear S3;simp only[Wu] at S33;unfold dQ dP y62;rw[(by unfold jeJ;simp only[qq];rfl:jeJ=_)];unfold Gp at hK;by_cases hs:281474976710656<Ut (m.vars ++ [v])
 ·rw[if_pos hs] at hK
  (have zz:=aI @l1.ln (aI @l1.rts (aI @jC (aI @jG (aI @jH (aI @l1 (aI @jD (aI @jK (aI @jO (aI C3.r (aI C4.r C.r))))))))));(repeat'(first|(apply jc<;>intro _)|simp(disch:=first|exact qu|fail) only[ja i0,ja i3,ja i4,Ap,l1.at,S33,hs,Ji hb,jD,C3.q,C4.q,C.q,l1.ln,l1.rts,jC,jG,jH,l1,jD,jK,jO,C3.r,C4.r,C.r,je,jo,jn,jf,jr,jt,jv,jx,ju,rzZ,Qab,Qac,Qad,Qaa,Qae]));(all_goals(clear zz)))
  exact hK _ q2
 ·rw[if_neg hs] at hK
  (have zz:=aI @l1.ln (aI @l1.rts (aI @jC (aI @jG (aI @jH (aI @l1 (aI @jD (aI @jK (aI @jO (aI C3.r (aI C4.r C.r))))))))));(repeat'(first|(apply jc<;>intro _)|simp(disch:=first|exact qu|fail) only[ja i0,ja i3,ja i4,Ap,l1.at,S33,hs,jD,C3.q,C4.q,C.q,l1.ln,l1.rts,jC,jG,jH,l1,jD,jK,jO,C3.r,C4.r,C.r,je,jo,jn,jf,jr,jt,jv,jx,ju,rzZ,Qab,Qac,Qad,Qaa,Qae]));(all_goals(clear zz)))
  exact hK _ q2 ⟨_,_,_,S2⟩
end Go.Sy
end
noncomputable section
set_option maxRecDepth 100000
namespace Go.Sy
open Go.Ev Go.Proofs
variable {base:Bs}
mutual
theorem gh {vars:List VarT}{enums:List EnumT}:∀ (fm:Bool) (x y:Ex) (m:MtT),zF x=true->yF vars enums fm x=.ok (y,m)->zF y=true
 |fm,.mk op num name ks l c,y,m,ht,h=>by
  rw[yF] at h;split at h
  ·cases h;exact ht
  ·split at h
   ·cases h;exact ht
   ·split at h
    ·unfold zW at h;split at h
     ·cases h;rfl
     ·split at h
      ·cases h
      ·cases h;rfl
    ·split at h
     ·cases h
     ·rename_i r hr;rw[zF,Qar,decide_eq_true_eq] at ht;have h2:=kj _ _ r.1 r.2 ht.2 hr;have h3:r.1.length=ks.length:=(QW hr).1;unfold YI at h;have e:∀ o n nm l c,zF (.mk o n nm r.1 l c)=true:=λo n nm l c=>by rw[zF,Qar,decide_eq_true_eq];exact⟨by omega,h2⟩
      split at h
      ·cases h
      ·split at h
       ·cases h;exact e _ _ _ _ _
       ·split at h
        ·cases h
        ·cases h;exact e _ _ _ _ _
theorem kj {vars:List VarT}{enums:List EnumT}:∀ (fm:Bool) (xs ys:List Ex) (ms:List MtT),zU xs=true->qv vars enums fm xs=.ok (ys,ms)->zU ys=true
 |fm,[],ys,ms,_,h=>by rw[qv] at h;cases h;rfl
 |fm,x :: xs,ys,ms,ht,h=>by
  rw[zU,Qar] at ht;rw[qv] at h;cases hx:yF vars enums fm x with
  |er a b d=>rw[hx] at h;cases h
  |ok y=>
   rw[hx] at h;cases hr:qv vars enums fm xs with
   |er a b d=>rw[hr] at h;cases h
   |ok r=>
    rw[hr] at h;cases h;rw[zU,Qar];exact⟨gh fm x y.1 y.2 ht.1 hx,kj fm xs r.1 r.2 ht.2 hr⟩
end
theorem jc8 {vars:List VarT}{enums:List EnumT}{fm:Bool}{x y:Ex}{w:Int}{en:List Nat}(ht:zF x=true)(h:yD vars enums fm x w en=.ok y):zF y=true:=by
 unfold yD at h;split at h
 ·cases h
 ·rename_i r hr;split at h
  ·cases h
  ·cases h;exact gh fm x r.1 r.2 ht hr
mutual
theorem YO:∀ x:Ex,zF x=true->wk x=true
 |.mk op num name ks l c,h=>by
  rw[zF,Qar,decide_eq_true_eq] at h;rw[wk,Qar,decide_eq_true_eq];exact⟨by omega,Kr ks h.2⟩
theorem Kr:∀ xs:List Ex,zU xs=true->Y3 xs=true
 |[],_=>rfl
 |x :: xs,h=>by
  rw[zU,Qar] at h;rw[Y3,Qar];exact⟨YO x h.1,Kr xs h.2⟩
end
def OkE (x:Ex):Prop:=zF x=true/\ZR x=true
section
variable {p mb lo q:Nat} {m:ModT} {ts:List (List Nat)} {v1 v2 v3:AV} {d:DeclT} {v:VarT} {st:St} {L:Sl} {s:St}
theorem DS.push (D:DS p mb lo q m ts v1 v2 v3 d v st L s){c:Nat}{w:AV}(h:c≠0/\c≠3/\c≠4):DS p mb lo q m ts v1 v2 v3 d v st ((c,w) :: L) s:=by
 obtain⟨S,k,nx,c3,c4,i0,i3,i4⟩:=D;exact⟨S,k,nx,c3,c4,by rw[jb h.1];exact i0,by rw[jb h.2.1];exact i3,by rw[jb h.2.2];exact i4⟩
end
set_option maxHeartbeats 4000000 in
theorem jqv (hb:NB base){p mb lo q:Nat}{m:ModT}{ts:List (List Nat)}{v1 v2 v3:AV}{d:DeclT}{v:VarT}{st:St}{L:Sl}{s:St}(D:DS p mb lo q m ts v1 v2 v3 d v st L s)(V:VarsOK m.vars m.enums)(hV:m.vars.length<=900000)(hx:∀ x∈d.begins,OkE x)(hbl:d.begins.length<=1000000)(K Kp:AV->St->Prop)(hK:KM p mb lo st (uv m ts d v) K Kp):xC Qaf base ja3 L s (dQ st K) (dP st Kp):=by
 have i0:=D.i0;have i3:=D.i3;have i4:=D.i4;have C3:=D.c3;have C4:=D.c4;rw[(by unfold ja3;simp only[qq];rfl:ja3=_)]
 (have zz:=aI C3.r C4.r;(repeat'(first|(apply jc<;>intro _)|simp(disch:=first|exact qu|fail) only[ja i0,ja i3,ja i4,C3.q,C4.q,C3.r,C4.r,je,jo,jn,jf,jr,jt,jv,jx,ju,rzZ,Qab,Qac,Qad,Qaa,Qae]));(all_goals(clear zz)))
 refine qy d.begins.length (λk L s=>(∃ u,JK m.vars m.enums v (d.begins.take k)=.ok u/\DS p mb lo q m ts v1 v2 v3 d u st L s)/\Has L 93 (.lst d.begins.length (fl eE d.begins))) (by first|assumption|omega) (by decide) (by simp(disch:=decide) only[jd,jb]) (by simp(disch:=decide) only[jd,jb]) ?_ (λk L s v h=>(by obtain⟨⟨u,h1,h2⟩,h3⟩:=h;refine⟨⟨u,h1,h2.push (by decide)⟩,?_⟩;simp(disch:=decide) only[jb];assumption)) (λk L s v h=>(by obtain⟨⟨u,h1,h2⟩,h3⟩:=h;refine⟨⟨u,h1,h2.push (by decide)⟩,?_⟩;simp(disch:=decide) only[jb];assumption)) (λk L s hk hI hi hn=>?_) (λL s hI=>?_)
 ·refine⟨⟨v,by rw[QaZ,JK],((D.push (by decide)).push (by decide)).push (by decide)⟩,?_⟩;simp(disch:=decide) only[jb,jd]
 ·obtain⟨⟨u,h1,D⟩,i93⟩:=hI;obtain⟨S,k0,nx,C3,C4,i0,i3,i4⟩:=D;have tk:d.begins.take (k+1)=d.begins.take k ++ [d.begins[k]]:=y7 hk;obtain⟨x1,x2⟩:=hx _ (Qay hk);have hqm:q≠p/\q+1≠p:=by have:=S.hp;have:=S.lo;omega
  have hqn:=S.hi;have hlq:=S.lo;have z6l:(eE d.begins[k]).length=([.int .i64 0,.int .i64 0,.str [],.nils,.int .i64 0,.int .i64 0]:List AV).length:=by rw[Jw];rfl
  have S1:=(S.nw [.int .i64 0,.int .i64 0,.str [],.nils,.int .i64 0,.int .i64 0]).wr hqn 0 (eE d.begins[k]);have k1:=(k0.nw (by omega) [.int .i64 0,.int .i64 0,.str [],.nils,.int .i64 0,.int .i64 0]).wr (c:=s.nx) (.inr (by omega)) 0 (eE d.begins[k]);have C7:=(Cl.new s [.int .i64 0,.int .i64 0,.str [],.nils,.int .i64 0,.int .i64 0]).wr0 z6l;have D3:Cl (Go.Sy.wr (Go.Sy.nw s [.int .i64 0,.int .i64 0,.str [],.nils,.int .i64 0,.int .i64 0]) s.nx 0 (eE d.begins[k])) q (qm d):=by(first|exact C3|(simp(disch:=first|assumption|decide|(first|omega|(simp only[jg,jh,jk,jj,ji];first|done|omega))) only[jA,jB,jy,jN,jC,jG,jF,jH];exact C3))
  have D4:Cl (Go.Sy.wr (Go.Sy.nw s [.int .i64 0,.int .i64 0,.str [],.nils,.int .i64 0,.int .i64 0]) s.nx 0 (eE d.begins[k])) (q+1) (vaE u):=by(first|exact C4|(simp(disch:=first|assumption|decide|(first|omega|(simp only[jg,jh,jk,jj,ji];first|done|omega))) only[jA,jB,jy,jN,jC,jG,jF,jH];exact C4))
  (have zz:=aI C3.r C4.r;(repeat'(first|(apply jc<;>intro _)|simp(disch:=first|exact qu|fail) only[ja i0,ja i3,ja i4,ja i93,ja hi,ja hn,C3.q,C4.q,C3.r,C4.r,je,jo,jn,jf,jr,jt,jv,jx,ju,rzZ,Qab,Qac,Qad,Qaa,Qae]));(all_goals(clear zz)))
  have hn1:(Go.Sy.wr (Go.Sy.nw s [.int .i64 0,.int .i64 0,.str [],.nils,.int .i64 0,.int .i64 0]) s.nx 0 (eE d.begins[k])).nx=s.nx+1:=rfl;generalize Go.Sy.wr (Go.Sy.nw s [.int .i64 0,.int .i64 0,.str [],.nils,.int .i64 0,.int .i64 0]) s.nx 0 (eE d.begins[k])=t1 at *;refine Up hb V _ x2 (YO _ x1) u.kind u.enum S1.ck _ _ ?_;have e3:d.begins=d.begins.take k ++ (d.begins[k] :: d.begins.drop (k+1)):=by rw[QbE,Qbp]
  have bk1:JK m.vars m.enums v d.begins=JK m.vars m.enums u (d.begins[k] :: d.begins.drop (k+1)):=by
   have e:=congrArg (JK m.vars m.enums v) e3;rw[Kb,h1] at e;exact e
  have bk2:JK m.vars m.enums v (d.begins.take (k+1))=JK m.vars m.enums u [d.begins[k]]:=by
   rw[tk,Kb,h1]
  unfold uv at hK;rw[bk1,JK] at hK;rw[JK] at bk2;cases hr:yD m.vars m.enums false d.begins[k] u.kind u.enum with
  |er a b c=>
   rw[hr] at hK;intro s' k2;exact hK _ (k1.keep k2 (by omega)).bk
  |ok y=>
   have y1:=jc8 x1 hr;have y2:=YO _ y1;rw[hr] at hK bk2;dsimp only at hK bk2;intro s' k2 C2;have hs':=k2.nx;have k3:=k1.keep k2 (by omega);have S3:=S1.keep k2 C2;have E3:=k2.cl D3 hqm.1;have E4:=k2.cl D4 hqm.2;have E7:=k2.cl C7 (by have:=S.cp.lt;omega);have F:=jnw hb y y2;clear S1 k1 k2 C2 C7 D3 D4 C3 C4 S k0;cases hf:Qi y with
   |some z=>
    rw[show Jy y=(z,true) by unfold Jy;rw[hf]] at F;rw[hf] at hK
    (have zz:=aI E3.r (aI E4.r E7.r);(repeat'(first|(apply jc<;>intro _)|simp(disch:=first|exact qu|fail) only[ja i0,ja i3,ja i4,F,Ji hb,E3.q,E4.q,E7.q,E3.r,E4.r,E7.r,je,jo,jn,jf,jr,jt,jv,jx,ju,rzZ,Qab,Qac,Qad,Qaa,Qae]));(all_goals(clear zz)))
    exact hK _ (((((k3.nw (by omega) _).wr (c:=s'.nx) (.inr (by omega)) 0 _).nw (by(first|omega|(simp only[jg,jh,jk,jj,ji];first|done|omega))) _).wr (.inr (by(first|omega|(simp only[jg,jh,jk,jj,ji];first|done|omega)))) 0 _)).bk
   |none=>
    rw[show Jy y=(y,false) by unfold Jy;rw[hf]] at F;rw[hf] at hK bk2;dsimp only at hK bk2;have G:=jf6 hb y y1 hf;by_cases hc:Jz y<u.lo\/u.hi<Jz y
    ·rw[if_pos hc] at hK
     (have zz:=aI E3.r (aI E4.r E7.r);(repeat'(first|(apply jc<;>intro _)|simp(disch:=first|exact qu|fail) only[ja i0,ja i3,ja i4,F,G,Ji hb,E3.q,E4.q,E7.q,E3.r,E4.r,E7.r,je,jo,jn,jf,jr,jt,jv,jx,ju,rzZ,Qab,Qac,Qad,Qaa,Qae]));(all_goals(clear zz)))
     all_goals exact hK _ ((((((k3.nw (by omega) _).wr (c:=s'.nx) (.inr (by omega)) 0 _).nw (by(first|omega|(simp only[jg,jh,jk,jj,ji];first|done|omega))) _).wr (.inr (by(first|omega|(simp only[jg,jh,jk,jj,ji];first|done|omega)))) 0 _).wr (c:=q+1) (.inr (by omega)) 5 _).wr (c:=q+1) (.inr (by omega)) 6 _).bk
    ·rw[if_neg hc] at bk2;have hc1:¬ Jz y<u.lo:=λh=>hc (.inl h);have hc2:¬ u.hi<Jz y:=λh=>hc (.inr h)
     (have zz:=aI E3.r (aI E4.r E7.r);(repeat'(first|(apply jc<;>intro _)|simp(disch:=first|exact qu|fail) only[ja i0,ja i3,ja i4,ja hi,F,G,hc1,hc2,E3.q,E4.q,E7.q,E3.r,E4.r,E7.r,je,jo,jn,jf,jr,jt,jv,jx,ju,rzZ,Qab,Qac,Qad,Qaa,Qae]));(all_goals(clear zz)))
     have S5:=((((((S3.nw [.int .i64 0,.int .i64 0,.str [],.nils,.int .i64 0,.int .i64 0]).wr (c:=s'.nx) (by omega) 0 (eE y)).nw [.int .i64 0,.int .i64 0,.str [],.nils,.int .i64 0,.int .i64 0]).wr (c:=s'.nx+1) (by omega) 0 (eE y)).wr (c:=q+1) (by omega) 5 [.bool true]).wr (c:=q+1) (by omega) 6 [.int .i64 (Jz y)]);have k5:=((((((k3.nw (by omega) [.int .i64 0,.int .i64 0,.str [],.nils,.int .i64 0,.int .i64 0]).wr (c:=s'.nx) (.inr (by omega)) 0 (eE y)).nw (by(first|omega|(simp only[jg,jh,jk,jj,ji];first|done|omega))) [.int .i64 0,.int .i64 0,.str [],.nils,.int .i64 0,.int .i64 0]).wr (c:=s'.nx+1) (.inr (by omega)) 0 (eE y)).wr (c:=q+1) (.inr (by omega)) 5 [.bool true]).wr (c:=q+1) (.inr (by omega)) 6 [.int .i64 (Jz y)]);refine⟨⟨⟨{ u with beg:=true,first:=Jz y },?_,S5,k5,by(first|omega|(simp only[jg,jh,jk,jj,ji];first|done|omega)),?_,Cl.wr (Cl.wr (?_:Cl _ (q+1) (vaE u)) 5 [.bool true]) 6 [.int .i64 (Jz y)],?_,?_,?_⟩,?_⟩,?_,?_⟩
     ·rw[bk2];rfl
     ·(first|exact E3|(simp(disch:=first|assumption|decide|(first|omega|(simp only[jg,jh,jk,jj,ji];first|done|omega))) only[jA,jB,jy,jN,jC,jG,jF,jH];exact E3))
     ·(first|exact E4|(simp(disch:=first|assumption|decide|(first|omega|(simp only[jg,jh,jk,jj,ji];first|done|omega))) only[jA,jB,jy,jN,jC,jG,jF,jH];exact E4))
     all_goals(simp(disch:=decide) only[jb];assumption)
 ·obtain⟨⟨u,h1,D⟩,i93⟩:=hI;rw[QaE] at h1;unfold uv at hK;rw[h1] at hK;repeat'(first|(apply jc<;>intro _)|simp(disch:=first|exact dzG|fail) only[je,jo,jn,jf,jr,jt,jv,jx,ju,rzZ,Qab,Qac,Qad,Qaa,Qae])
  exact jqu hb D hV K Kp hK
end Go.Sy
end
noncomputable section
set_option maxRecDepth 100000
namespace Go.Sy
open Go.Ev Go.Proofs
variable {base:Bs}
theorem jfK (hb:NB base)(enums:List EnumT)(hl:enums.length<=1000000)(d:DeclT){v2:AV}(st:St){q:Nat}(h:Lr st v2 enums.length (fl enE enums))(C:Cl st q (qm d))(K Kp:AV->St->Prop) :
  XB Qaf base 100 [v2,.fn 101 [.ptr q 0]] st K Kp=K (.int .i64 (JY enums d.ty)) st:=by
 refine(jfJ hb enums (by unfold BIG;omega) d).xb (JF (h.lend (Jn JI enums)) (JF ?_ uc)) (λst=>hb.no 100 (by decide) _ _) K Kp;show(Xs st.h [.ptr q 0]).map (AV.fn 101)=_;have:wB st.h (.ptr q 0)=some (.lptr (qm d) 0):=WX C (QB (W0 8 rfl) rfl (QB (W0 8 rfl) rfl (QB (W0 8 rfl) rfl (QB (W0 8 rfl) rfl (QB (W0 8 rfl) rfl (QB (W0 8 rfl) rfl (QB (W0 8 rfl) rfl GB)))))));simp only[Xs,this];rfl
set_option maxHeartbeats 4000000 in
theorem jqs (hb:NB base){p mb lo:Nat}{m:ModT}{ts:List (List Nat)}{st:St}(d:DeclT)(V:VarsOK m.vars m.enums)(hV:m.vars.length<=900000)(hx:∀ x∈d.begins,OkE x)(hbl:d.begins.length<=1000000)(hlo : -100000000<=d.lo/\d.lo<=100000000)(hhi : -100000000<=d.hi/\d.hi<=100000000)(H:MX p mb lo m ts st)(K Kp:AV->St->Prop)(hK:KM p mb lo st (Zj m ts d) K Kp):XB Qaf base 62 [.ptr p 0,.agg (qm d)] st K Kp:=by
 obtain⟨v1,v2,v3,S⟩:=H;obtain⟨C,M,l1,l2,l3,d12,d13,d23,hp,hm,pm,lo0,hi0⟩:=id S;refine JO x62 (by rfl) (hb.at0 62 (by decide) (by decide) _ _) ?_;simp only[y62,jp,Qai,Qal,Qag,Qah];rw[(by unfold z62;simp only[qq];rfl:z62=_)];have hnx:st.bare.nx=st.nx:=rfl;have S0:=S.bare.nw (qm d);have q1:=(Kq.refl:Kq p mb lo st.bare st.bare).nw (Qau lo0 hi0) (qm d);have Cb:Cl (Go.Sy.nw st.bare (qm d)) st.nx (qm d):=Cl.new st.bare (qm d);unfold Zj XQ at hK;repeat'(first|(apply jc<;>intro _)|simp(disch:=first|exact dzG|fail) only[je,jo,jn,jf,jr,jt,jv,jx,ju,rzZ,Qab,Qac,Qad,Qaa,Qae])
 refine Ku hb S0.cp S0.mp _ _ _ _ _ ?_;by_cases h:d.name∈ts
 ·rw[if_pos h] at hK ⊢;exact hK _ q1.bk
 ·rw[if_neg h] at hK ⊢
  replace S0:=S0.take (ts ++ [d.name])
  replace q1:=q1.mp (mpl (ts ++ [d.name]))
  have Cb:Cl (Go.Sy.mp (Go.Sy.nw st.bare (qm d)) mb (mpl (ts ++ [d.name]))) st.nx (qm d):=by rw[Vc (by omega)];exact Cb
  have hn1:(Go.Sy.mp (Go.Sy.nw st.bare (qm d)) mb (mpl (ts ++ [d.name]))).nx=st.nx+1:=rfl;generalize Go.Sy.mp (Go.Sy.nw st.bare (qm d)) mb (mpl (ts ++ [d.name]))=s1 at *;dsimp only at hK;have Cv:=(Cl.new s1 va0).wr0 (c':=vaE ⟨d.name,1,[],d.lo,d.hi,false,0⟩) rfl;have S1:=(S0.nw va0).wr (c:=s1.nx) (by omega) 0 (vaE ⟨d.name,1,[],d.lo,d.hi,false,0⟩);have q2:=(q1.nw (by omega) va0).wr (c:=s1.nx) (.inr (by omega)) 0 (vaE ⟨d.name,1,[],d.lo,d.hi,false,0⟩);have Cd:Cl (Go.Sy.wr (Go.Sy.nw s1 va0) s1.nx 0 (vaE ⟨d.name,1,[],d.lo,d.hi,false,0⟩)) st.nx (qm d):=by(first|exact Cb|(simp(disch:=first|assumption|decide|(first|omega|(simp only[jg,jh,jk,jj,ji];first|done|omega))) only[jA,jB,jy,jN,jC,jG,jF,jH];exact Cb))
  have FE:=λK Kp=>jfK hb m.enums V.len2 d _ S1.l2.lr Cd K Kp;have C0:=S0.cp;have C1:=S1.cp;have hmp:st.nx≠p/\st.nx+1≠p:=by omega
  simp only[Wu,hn1] at FE;simp only[hn1] at S1 q2 Cv Cd C1;unfold va0 at *;have mk:∀ (v:VarT) (L:Sl) (s:St),MS p mb lo st.nx m (ts ++ [d.name]) v1 v2 v3 s->Kq p mb lo st.bare s->st.nx+2<=s.nx->Cl s st.nx (qm d)->Cl s (st.nx+1) (vaE v)->Has L 0 (.ptr p 0)->Has L 3 (.ptr st.nx 0)->Has L 4 (.ptr (st.nx+1) 0)->KM p mb lo st (uv m (ts ++ [d.name]) d v) K Kp->xC Qaf base ja3 L s (dQ st K) (dP st Kp):=λv L s a1 a2 a3 a4 a5 a6 a7 a8 hK=>jqv hb ⟨a1,a2,a3,a4,a5,a6,a7,a8⟩ V hV hx hbl K Kp hK;unfold UN at hK;by_cases h1:d.ty=[98,111,111,108]
  ·rw[if_pos h1] at hK;have S2:=(((S1.wr (c:=st.nx+1) (by omega) 1 [.int .i64 2]).wr (c:=st.nx+1) (by omega) 3 [.int .i64 0]).wr (c:=st.nx+1) (by omega) 4 [.int .i64 1]);have q3:=(((q2.wr (c:=st.nx+1) (.inr (by omega)) 1 [.int .i64 2]).wr (c:=st.nx+1) (.inr (by omega)) 3 [.int .i64 0]).wr (c:=st.nx+1) (.inr (by omega)) 4 [.int .i64 1])
   (have zz:=aI @hn1 (aI @Cb.r C0.r);(repeat'(first|(apply jc<;>intro _)|simp(disch:=first|exact qu|fail) only[FE,h1,hn1,Cb.q,C0.q,hn1,Cb.r,C0.r,je,jo,jn,jf,jr,jt,jv,jx,ju,rzZ,Qab,Qac,Qad,Qaa,Qae]));(all_goals(clear zz)))
   refine mk ⟨d.name,2,[],0,1,false,0⟩ _ _ S2 q3 (by(first|omega|(simp only[jg,jh,jk,jj,ji];first|done|omega))) (by(first|exact Cb|(simp(disch:=first|assumption|decide|(first|omega|(simp only[jg,jh,jk,jj,ji];first|done|omega))) only[jA,jB,jy,jN,jC,jG,jF,jH];exact Cb))) ?_ ?_ ?_ ?_ hK
   ·exact((Cv.wr 1 [.int .i64 2]).wr 3 [.int .i64 0]).wr 4 [.int .i64 1]
   all_goals simp(disch:=decide) only[jb,jd]
  rw[if_neg h1] at hK;by_cases h2:0<=JY m.enums d.ty
  ·rw[if_pos h2] at hK;have hlt:JY m.enums d.ty<(m.enums.length:Int):=wG;have hi2:(JY m.enums d.ty).toNat<m.enums.length:=by omega
   have eg:m.enums.getD (JY m.enums d.ty).toNat en0=m.enums[(JY m.enums d.ty).toNat]:=by simp[QaO,hi2]
   rw[eg] at hK;have Lw:=S0.l2;rcases id Lw with ⟨_,e0,_⟩|⟨b,rfl,b1,b2,Ce,b5,b6⟩
   ·omega
   have gl:qC s1.h b=m.enums.length * 4:=by rw[Ce.len,JX Qq]
   have ge:rat s1.h b ((JY m.enums d.ty).toNat * 4+1)=.lst m.enums[(JY m.enums d.ty).toNat].vals.length (m.enums[(JY m.enums d.ty).toNat].vals.map .str):=by
    rw[Ce.cell _ (by rw[JX Qq];omega),vF Qq hi2 (by decide)];rfl
   have hbp:b≠p/\b≠st.nx/\b≠st.nx+1/\b<s1.nx:=by omega
   have gp:rat s1.h p 1=.slice b 0 m.enums.length m.enums.length 4 false:=C0.cell 1 (by simp only[Qaj,Qan];omega);have gd:rat s1.h st.nx 1=.str d.ty:=(Cb.cell 1 (by rw[Q5];decide)).trans (by rw[Wh];rfl);have hvl:=V.vals _ (Qay hi2)
   (have zz:=aI @hn1 (aI @gl (aI @ge (aI @Cb.r C0.r)));(repeat'(first|(apply jc<;>intro _)|simp(disch:=first|exact qu|fail) only[FE,h1,h2,hn1,ge,sm9,Gi,Gh,Cb.q,C0.q,hn1,gl,ge,Cb.r,C0.r,je,jo,jn,jf,jr,jt,jv,jx,ju,rzZ,Qab,Qac,Qad,Qaa,Qae]));(all_goals(clear zz)))
   refine⟨?_,?_,?_,?_⟩;rotate_right
   ·have S2:=((((S1.wr (c:=st.nx+1) (by omega) 1 [.int .i64 3]).wr (c:=st.nx+1) (by omega) 2 [.str d.ty]).wr (c:=st.nx+1) (by omega) 3 [.int .i64 0]).wr (c:=st.nx+1) (by omega) 4 [.int .i64 ((m.enums[(JY m.enums d.ty).toNat].vals.length:Int) - 1)]);have q3:=((((q2.wr (c:=st.nx+1) (.inr (by omega)) 1 [.int .i64 3]).wr (c:=st.nx+1) (.inr (by omega)) 2 [.str d.ty]).wr (c:=st.nx+1) (.inr (by omega)) 3 [.int .i64 0]).wr (c:=st.nx+1) (.inr (by omega)) 4 [.int .i64 ((m.enums[(JY m.enums d.ty).toNat].vals.length:Int) - 1)]);refine mk ⟨d.name,3,d.ty,0,(m.enums[(JY m.enums d.ty).toNat].vals.length:Int) - 1,false,0⟩ _ _ S2 q3 (by(first|omega|(simp only[jg,jh,jk,jj,ji];first|done|omega))) (by(first|exact Cb|(simp(disch:=first|assumption|decide|(first|omega|(simp only[jg,jh,jk,jj,ji];first|done|omega))) only[jA,jB,jy,jN,jC,jG,jF,jH];exact Cb))) ?_ ?_ ?_ ?_ hK
    ·exact(((Cv.wr 1 [.int .i64 3]).wr 2 [.str d.ty]).wr 3 [.int .i64 0]).wr 4 [.int .i64 ((m.enums[(JY m.enums d.ty).toNat].vals.length:Int) - 1)]
    all_goals simp(disch:=decide) only[jb,jd]
   all_goals
    repeat' apply aI
    all_goals first
     |exact(Gh (by simp(disch:=omega) only[Xt,XW,gl];omega) (by simp(disch:=omega) only[Z6,vN,ge]) rfl).mpr trivial
     |exact(Gi (by simp(disch:=omega) only[Xt,XW,C0.len,Qaj,Qan];omega) (by simp(disch:=omega) only[Z6,vN,gp]) rfl).mpr trivial
     |exact(sm9 (by simp(disch:=omega) only[Xt,XW,Cb.len,Q5];omega) (by simp(disch:=omega) only[Z6,vN,gd]) rfl).mpr trivial
  rw[if_neg h2] at hK;by_cases h3:d.ty≠[]
  ·rw[if_pos h3] at hK
   (have zz:=aI @hn1 (aI @Cb.r C0.r);(repeat'(first|(apply jc<;>intro _)|simp(disch:=first|exact qu|fail) only[FE,h1,h2,h3,hn1,Ji hb,Cb.q,C0.q,hn1,Cb.r,C0.r,je,jo,jn,jf,jr,jt,jv,jx,ju,rzZ,Qab,Qac,Qad,Qaa,Qae]));(all_goals(clear zz)))
   exact hK _ q2.bk
  rw[if_neg h3] at hK;have h3:(d.ty=[])=True:=eq_true (by simpa using h3);by_cases h4:d.hi<d.lo
  ·rw[if_pos h4] at hK
   (have zz:=aI @hn1 (aI @Cb.r C0.r);(repeat'(first|(apply jc<;>intro _)|simp(disch:=first|exact qu|fail) only[FE,h1,h2,h3,h4,hn1,Ji hb,Cb.q,C0.q,hn1,Cb.r,C0.r,je,jo,jn,jf,jr,jt,jv,jx,ju,rzZ,Qab,Qac,Qad,Qaa,Qae]));(all_goals(clear zz)))
   exact hK _ q2.bk
  rw[if_neg h4] at hK;by_cases h5:1024<=d.hi - d.lo
  ·rw[if_pos h5] at hK
   (have zz:=aI @hn1 (aI @Cb.r C0.r);(repeat'(first|(apply jc<;>intro _)|simp(disch:=first|exact qu|fail) only[FE,h1,h2,h3,h4,h5,hn1,Ji hb,Cb.q,C0.q,hn1,Cb.r,C0.r,je,jo,jn,jf,jr,jt,jv,jx,ju,rzZ,Qab,Qac,Qad,Qaa,Qae]));(all_goals(clear zz)))
   exact hK _ q2.bk
  rw[if_neg h5] at hK
  (have zz:=aI @hn1 (aI @Cb.r C0.r);(repeat'(first|(apply jc<;>intro _)|simp(disch:=first|exact qu|fail) only[FE,h1,h2,h3,h4,h5,hn1,Cb.q,C0.q,hn1,Cb.r,C0.r,je,jo,jn,jf,jr,jt,jv,jx,ju,rzZ,Qab,Qac,Qad,Qaa,Qae]));(all_goals(clear zz)))
  refine mk _ _ _ S1 q2 (by(first|omega|(simp only[jg,jh,jk,jj,ji];first|done|omega))) (by(first|exact Cb|(simp(disch:=first|assumption|decide|(first|omega|(simp only[jg,jh,jk,jj,ji];first|done|omega))) only[jA,jB,jy,jN,jC,jG,jF,jH];exact Cb))) Cv ?_ ?_ ?_ hK;all_goals simp(disch:=decide) only[jb,jd]
end Go.Sy
end
noncomputable section
set_option maxRecDepth 100000
namespace Go.Sy
open Go.Ev Go.Proofs
variable {base:Bs}
theorem Hx {s:St}:∀ {cs:List AV},cs.all pc=true->lall AV.cell cs=true->Yz (fz 9 s.h) cs=cs
 |[],_,_=>GB
 |v :: l,hp,hc=>by
  rw[QaY,Qar] at hp;have h1:v.cell=true/\lall AV.cell l=true:=by
   have:cond v.cell (lall AV.cell l) false=true:=hc;cases h:v.cell with
   |true=>rw[h] at this;exact⟨rfl,this⟩
   |false=>rw[h] at this;cases this
  exact QB (W0 8 hp.1) h1.1 (Hx hp.2 h1.2)
theorem jq5 {α:Type}{enc:α->List AV}{z:Nat}(hz:∀ x,(enc x).length=z){xs:List α}{k:IntKind}{i:Nat}(hi:i<=xs.length){st:St}{K:AV->St->Prop}:jm (uC z (.lst xs.length (fl enc xs)) none (some (.int k (i:Int))) st) K=K (.lst i (fl enc (xs.take i))) st:=by
 have e1:Qap (Qat i z) (jY (fl enc xs))=true:=by
  rw[jZ,JX hz];exact yK (QaN z hi)
 simp only[uC,optA,Gs,yK hi,yK (QaL i),e1,cond_true,jm,yt,zi];have e2:(fl enc xs).drop (Qat 0 z)=fl enc xs:=by rw[show Qat 0 z=0 from Qbv z];rfl
 have e3:Qat (Qbg i 0) z=i * z:=rfl;rw[e2,e3,jec hz];rfl
theorem jnu (hb:NB base)(xs:List AsT)(hl:xs.length<=1000000)(a:AsT)(st:St){q:Nat}(C:Cl st q (asE a))(n:Nat)(hn:n=xs.length)(K Kp:AV->St->Prop) :
  XB Qaf base 105 [.lst n (fl asE xs),.fn 106 [.ptr q 0]] st K Kp=K (.bool (decide (0<=fi (λx=>decide (x.name=a.name)) xs))) st:=by
 subst hn;refine(jnt hb xs (by unfold BIG;omega) a).xb (ZG rfl (JF ?_ uc)) (λst=>hb.no 105 (by decide) _ _) K Kp;show(Xs st.h [.ptr q 0]).map (AV.fn 106)=_;have:wB st.h (.ptr q 0)=some (.lptr (asE a) 0):=WX C (Hx (Qs a) (gQ a));simp only[Xs,this];rfl
theorem jeX (hb:NB base){p:Nat}{v1 v2 v3 mm:AV}{vars:List VarT}{enums:List EnumT}{fm:Bool}{st:St}(C:Ck p v1 v2 v3 mm vars enums fm st)(hl:vars.length<=1000000)(s:List Nat)(K Kp:AV->St->Prop) :
  XB Qaf base 104 [.ptr p 0,.str s] st K Kp=K (.int .i64 (qA vars s)) st:=by
 obtain⟨r,hr⟩:=C.lend;exact(Kl hb vars (by unfold BIG;omega) s _).xb (JF hr (ZG rfl uc)) (λst=>hb.no 104 (by decide) _ _) K Kp
def mvc:List MoveT->List AV->List AV
 |m :: ms,u :: us=>(eE m.when ++ [u]) ++ mvc ms us
 |_,_=>[]
theorem jdU:∀ {ms:List MoveT} {us:List AV} {m:MoveT} {u:AV},us.length=ms.length->mvc (ms ++ [m]) (us ++ [u])=mvc ms us ++ (eE m.when ++ [u])
 |[],[],m,u,_=>by simp[mvc]
 |m' :: ms,u' :: us,m,u,h=>by
  show(eE m'.when ++ [u']) ++ mvc (ms ++ [m]) (us ++ [u])=((eE m'.when ++ [u']) ++ mvc ms us) ++ (eE m.when ++ [u]);rw[jdU (by simpa using h)];simp only[QaC]
 |[],u' :: us,m,u,h=>by simp at h
 |m' :: ms,[],m,u,h=>by simp at h
def UU (lo hi:Nat)(s:St)(v3:AV):List MoveT->List AV->Prop
 |[],[]=>True
 |m :: ms,u :: us=>(Lv lo hi s u m.acts.length (fl seE m.acts) 7/\Df v3 u)/\UU lo hi s v3 ms us
 |_,_=>False
theorem UU.imp {lo hi lo' hi':Nat}{s s':St}{v3 v3':AV}(f:∀ u n cs,Lv lo hi s u n cs 7/\Df v3 u->Lv lo' hi' s' u n cs 7/\Df v3' u):∀ {ms:List MoveT} {us:List AV},UU lo hi s v3 ms us->UU lo' hi' s' v3' ms us
 |[],[],_=>trivial
 |m :: ms,u :: us,h=>⟨f _ _ _ h.1,UU.imp f h.2⟩
theorem UU.len {lo hi:Nat}{s:St}{v3:AV}:∀ {ms:List MoveT} {us:List AV},UU lo hi s v3 ms us->us.length=ms.length
 |[],[],_=>rfl
 |m :: ms,u :: us,h=>by simp[UU.len h.2]
theorem UU.app {lo hi:Nat}{s:St}{v3:AV}{m:MoveT}{u:AV}(hu:Lv lo hi s u m.acts.length (fl seE m.acts) 7/\Df v3 u):∀ {ms:List MoveT} {us:List AV},UU lo hi s v3 ms us->UU lo hi s v3 (ms ++ [m]) (us ++ [u])
 |[],[],_=>⟨hu,trivial⟩
 |m' :: ms,u' :: us,h=>⟨h.1,UU.app hu h.2⟩
structure MR (p mb lo hi:Nat)(m:ModT)(ts:List (List Nat))(v1 v2 v3:AV)(us:List AV)(s:St):Prop where
 cp:Cl s p [v1,v2,v3,.map mb,.bool false]
 mp:Mp s mb ts
 l1:Lv lo hi s v1 m.vars.length (fl vaE m.vars) 7
 l2:Lv lo hi s v2 m.enums.length (fl enE m.enums) 4
 l3:Lv lo hi s v3 m.moves.length (mvc m.moves us) 7
 uu:UU lo hi s v3 m.moves us
 d13:Df v3 v1
 d23:Df v3 v2
 hp:p<lo
 hm:mb<lo
 pm:p≠mb
 lo:lo<=hi
 hi:hi<=s.nx
def MZ (p mb lo:Nat)(m:ModT)(ts:List (List Nat))(s:St):Prop:=∃ v1 v2 v3 us,MR p mb lo s.nx m ts v1 v2 v3 us s
theorem Df.symm2 {v w:AV}(h:Df v w):Df w v:=by
 unfold Df at *;cases v<;>cases w<;>first|trivial|exact λe=>h e.symm
section
variable {p mb lo hi:Nat} {m:ModT} {ts us:List (List Nat)} {v1 v2 v3:AV} {ws:List AV} {s t:St}
theorem MS.mr (S:MS p mb lo hi m ts v1 v2 v3 s)(h:m.moves=[]):MR p mb lo hi m ts v1 v2 v3 [] s:=by
 obtain⟨C,M,l1,l2,l3,d12,d13,d23,hp,hm,pm,h1,h2⟩:=S;refine⟨C,M,l1,l2,?_,?_,Df.symm2 d13,Df.symm2 d23,hp,hm,pm,h1,h2⟩
 ·rw[h] at l3 ⊢;exact l3
 ·rw[h];trivial
theorem MR.ck (S:MR p mb lo hi m ts v1 v2 v3 ws s):Ck p v1 v2 v3 (.map mb) m.vars m.enums false s:=by
 obtain⟨C,M,l1,l2,l3,uu,d13,d23,hp,hm,pm,h1,h2⟩:=S;refine⟨C,l1.lr,l2.lr,?_,?_⟩
 ·intro b k z x e;rcases l1 with ⟨h,_⟩|⟨c,h,h2,_⟩
  ·rw[h] at e;cases e
  ·rw[h] at e;cases e;omega
 ·intro b k z x e;rcases l2 with ⟨h,_⟩|⟨c,h,h2,_⟩
  ·rw[h] at e;cases e
  ·rw[h] at e;cases e;omega
theorem MR.imp (S:MR p mb lo hi m ts v1 v2 v3 ws s){hi':Nat}(C:Cl t p [v1,v2,v3,.map mb,.bool false])(M:Mp t mb us)(f:∀ v n cs z,Lv lo hi s v n cs z->Lv lo hi' t v n cs z)(h1:hi<=hi')(h2:hi'<=t.nx):MR p mb lo hi' m us v1 v2 v3 ws t:=
 ⟨C,M,f _ _ _ _ S.l1,f _ _ _ _ S.l2,f _ _ _ _ S.l3,S.uu.imp λu n cs h=>⟨f _ _ _ _ h.1,h.2⟩,S.d13,S.d23,S.hp,S.hm,S.pm,Qau S.lo h1,h2⟩
theorem MR.nw (S:MR p mb lo hi m ts v1 v2 v3 ws s)(ds:List AV):MR p mb lo hi m ts v1 v2 v3 ws (Go.Sy.nw s ds):=by
 have C:=S.cp;have h1:=S.hp;have h2:=S.hi;have h3:=S.lo;exact S.imp (by(first|exact C|(simp(disch:=first|assumption|decide|(first|omega|(simp only[jg,jh,jk,jj,ji];first|done|omega))) only[jA,jB,jy,jN,jC,jG,jF,jH];exact C))) (S.mp.nw ds) (λv n cs z h=>by(first|exact h|(simp(disch:=first|assumption|decide|(first|omega|(simp only[jg,jh,jk,jj,ji];first|done|omega))) only[jA,jB,jy,jN,jC,jG,jF,jH];exact h))) (Qaq _) (by rw[jg];omega)
theorem MR.wr (S:MR p mb lo hi m ts v1 v2 v3 ws s){c:Nat}(hc:hi<=c)(o:Nat)(ds:List AV):MR p mb lo hi m ts v1 v2 v3 ws (Go.Sy.wr s c o ds):=by
 have C:=S.cp;have h1:=S.hp;have h2:=S.hi;have h3:=S.lo;have h4:=S.hm;exact S.imp (by(first|exact C|(simp(disch:=first|assumption|decide|(first|omega|(simp only[jg,jh,jk,jj,ji];first|done|omega))) only[jA,jB,jy,jN,jC,jG,jF,jH];exact C))) (S.mp.wr (by omega) o ds) (λv n cs z h=>by(first|exact h|(simp(disch:=first|assumption|decide|(first|omega|(simp only[jg,jh,jk,jj,ji];first|done|omega))) only[jA,jB,jy,jN,jC,jG,jF,jH];exact h))) (Qaq _) (by rw[jh];omega)
theorem MR.take (S:MR p mb lo hi m ts v1 v2 v3 ws s)(us:List (List Nat)):MR p mb lo hi m us v1 v2 v3 ws (Go.Sy.mp s mb (mpl us)):=
 S.imp (by rw[Vc S.pm];exact S.cp) S.mp.put (λv n cs z h=>h.mp S.hm) (Qaq _) S.hi
theorem MR.keep (S:MR p mb lo hi m ts v1 v2 v3 ws s)(k:Keep p s t)(C':Cl t p [v1,v2,v3,.map mb,.bool false]):MR p mb lo hi m ts v1 v2 v3 ws t:=
 S.imp C' (S.mp.keep k.nx (k.get mb S.mp.lt (λe=>S.pm e.symm))) (λv n cs z h=>k.lv h (.inl S.hp)) (Qaq _) (Qau S.hi k.nx)
theorem MR.up (S:MR p mb lo hi m ts v1 v2 v3 ws s){hi':Nat}(h:hi<=hi')(h2:hi'<=s.nx):MR p mb lo hi' m ts v1 v2 v3 ws s:=
 S.imp S.cp S.mp (λv n cs z k=>k.up h) h h2
theorem MR.bare (S:MR p mb lo hi m ts v1 v2 v3 ws s):MR p mb lo hi m ts v1 v2 v3 ws s.bare:=
 S.imp S.cp.bar ⟨S.mp.lt,S.mp.get⟩ (λv n cs z h=>by rw[jF];exact h) (Qaq _) S.hi
theorem MR.ofbk {u:St}(S:MR p mb lo hi m ts v1 v2 v3 ws s):MR p mb lo hi m ts v1 v2 v3 ws (bk u s):=by
 have e:∀ b cs,Cl s b cs->Cl (bk u s) b cs:=λb cs h=>⟨h.lt,h.row,h.len,h.cell⟩;exact S.imp (e _ _ S.cp) ⟨S.mp.lt,S.mp.get⟩ (λv n cs z h=>h.imp id λ⟨c,h1,h2,h3,h4,h5,h6⟩=>⟨c,h1,h2,h3,e _ _ h4,h5,h6⟩) (Qaq _) S.hi
theorem MR.aps (S:MR p mb lo hi m ts v1 v2 v3 ws s){lo' hi' n' z':Nat}{v':AV}{cs':List AV}(V:Lv lo' hi' s v' n' cs' z')(h:hi<=lo')(ds:List AV):MR p mb lo hi m ts v1 v2 v3 ws (Go.Sy.aps v' s ds):=by
 have h0:=S.hp;have h1:=S.hm;have h2:=S.lo;have h3:=S.hi;exact S.imp (S.cp.aps V (.inl (by omega))) (S.mp.keep (by rw[jj];omega) (V.get s ds mb (.inl (by omega)) S.mp.lt)) (λv n cs z k=>k.aps V (.inl h)) (Qaq _) (by rw[jj];omega)
theorem Lv.low {lo lo' hi n z:Nat}{s:St}{v:AV}{cs:List AV}(h:Lv lo' hi s v n cs z)(h2:lo<=lo'):Lv lo hi s v n cs z:=h.imp id λ⟨c,h1,h3,h4,h5,h6,h7⟩=>⟨c,h1,h3,h4,h5,by omega,h7⟩
theorem MR.move (S:MR p mb lo hi m ts v1 v2 v3 ws s)(e:MoveT){u:AV}{z:Nat}(V:Lv z s.nx s u e.acts.length (fl seE e.acts) 7)(hz:hi<=z):MR p mb lo (s.nx+1) { m with moves:=m.moves ++ [e] } ts v1 v2 (apv 7 v3 s) (ws ++ [u]) (Go.Sy.wr (Go.Sy.aps v3 s (eE e.when ++ [u])) p 2 [apv 7 v3 s]):=by
 obtain⟨C,M,l1,l2,l3,uu,d13,d23,hp,hm,pm,h1,h2⟩:=S;have h4:=C.lt;have hn:(Go.Sy.wr (Go.Sy.aps v3 s (eE e.when ++ [u])) p 2 [apv 7 v3 s]).nx=s.nx+1:=by rw[jh,jj]
 refine⟨?_,?_,?_,?_,?_,?_,(Df.put l1 h2).1,(Df.put l2 h2).1,hp,hm,pm,by omega,by rw[hn];exact Qaq _⟩
 ·exact(cast (l3.cl s (eE e.when ++ [u]) _ p (.inl hp) h4).symm C:Cl (Go.Sy.aps v3 s (eE e.when ++ [u])) p _).wr 2 [apv 7 v3 s]
 ·exact M.keep (by rw[hn];omega) (by rw[Js (λh=>pm h.symm)];exact l3.get s (eE e.when ++ [u]) mb (.inl hm) M.lt)
 ·rw[jC (.inl hp)];exact(l1.apsD d13).up (by omega)
 ·rw[jC (.inl hp)];exact(l2.apsD d23).up (by omega)
 ·rw[jC (.inl hp),Qak,jdU uu.len];exact l3.put (by rw[Qak,Jw];rfl) (by omega) rfl
 ·refine UU.app ?_ (uu.imp λu n cs h=>?_)
  ·rw[jC (.inl hp)];refine⟨((V.aps l3 (.inr hz)).up (by omega)).low (by omega),?_⟩;have V':Lv lo s.nx s u e.acts.length (fl seE e.acts) 7:=V.low (by omega);exact(Df.put V' (Qaq _)).1
  ·rw[jC (.inl hp)];exact⟨(h.1.apsD h.2).up (by omega),(Df.put h.1 h2).1⟩
end
end Go.Sy
end
noncomputable section
set_option maxRecDepth 100000
namespace Go.Sy
open Go.Ev Go.Proofs
variable {base:Bs}
def vz:VarT:=⟨[],0,[],0,0,false,0⟩
def QQ (vars:List VarT)(enums:List EnumT):List SetT->List AsT->List AsT->KR (List SetT)
 |acc,done,[]=>.ok acc
 |acc,done,a :: rest=>if qA vars a.name<0 then .er 161 a.line a.col
  else if 0<=fi (λx=>decide (x.name=a.name)) done then .er 162 a.line a.col
  else match yD vars enums false a.to (vars.getD (qA vars a.name).toNat vz).kind (vars.getD (qA vars a.name).toNat vz).enum with
   |.er x y z=>.er x y z
   |.ok y=>QQ vars enums (acc ++ [⟨qA vars a.name,y⟩]) (done ++ [a]) rest
def XR (m:ModT)(ts:List (List Nat))(r:RuleT):KR (ModT×List (List Nat)):=match yD m.vars m.enums false r.when 2 [] with
 |.er a b c=>.er a b c
 |.ok w=>match QQ m.vars m.enums [] [] r.acts with
  |.er a b c=>.er a b c
  |.ok ss=>.ok ({ m with moves:=m.moves ++ [⟨w,ss⟩] },ts)
def KZ (p mb lo:Nat)(st:St)(r:KR (ModT×List (List Nat)))(K Kp:AV->St->Prop):Prop:=match r with
 |.ok y=>∀ s',Kq p mb lo st s'->MZ p mb lo y.1 y.2 s'->K (.tup []) s'
 |.er c l k=>∀ s',Kq p mb lo st s'->Kp (kf c l k) s'
def moL (w:Ex)(vl:AV):List AV:=[.int .i64 w.op,.int .i64 w.num,.str w.name,.lst w.kids.length (fl eE w.kids),.int .i64 w.line,.int .i64 w.col,vl]
theorem jpI (w:Ex)(vl:AV):eE w ++ [vl]=moL w vl:=by rw[qI];rfl
def rQ (st:St)(K:AV->St->Prop):Out->Prop:=QE Qaf y64.res λv s=>K v (back st s)
structure RS (p mb lo q z:Nat)(m:ModT)(ts:List (List Nat))(v1 v2 v3:AV)(ws:List AV)(r:RuleT)(w:Ex)(acc:List SetT)(vl:AV)(st:St)(L:Sl)(s:St):Prop where
 S:MR p mb lo q m ts v1 v2 v3 ws s
 k:Kq p mb lo st.bare s
 qz:q<z
 nx:z+1<=s.nx
 c3:Cl s q (ruE r)
 c4:Cl s z (moL w vl)
 lv:Lv (z+1) s.nx s vl acc.length (fl seE acc) 7
 i0:Has L 0 (.ptr p 0)
 i3:Has L 3 (.ptr q 0)
 i4:Has L 4 (.ptr z 0)
theorem RS.push {p mb lo q z:Nat}{m:ModT}{ts:List (List Nat)}{v1 v2 v3:AV}{ws:List AV}{r:RuleT}{w:Ex}{acc:List SetT}{vl:AV}{st:St}{L:Sl}{s:St}(D:RS p mb lo q z m ts v1 v2 v3 ws r w acc vl st L s){c:Nat}{v:AV}(h:c≠0/\c≠3/\c≠4):RS p mb lo q z m ts v1 v2 v3 ws r w acc vl st ((c,v) :: L) s:=by
 obtain⟨S,k,qz,nx,c3,c4,lv,i0,i3,i4⟩:=D;exact⟨S,k,qz,nx,c3,c4,lv,by rw[jb h.1];exact i0,by rw[jb h.2.1];exact i3,by rw[jb h.2.2];exact i4⟩
set_option maxHeartbeats 4000000 in
theorem jpq (hb:NB base){p mb lo q z:Nat}{m:ModT}{ts:List (List Nat)}{v1 v2 v3:AV}{ws:List AV}{r:RuleT}{w:Ex}{acc:List SetT}{vl:AV}{st:St}{L:Sl}{s:St}(D:RS p mb lo q z m ts v1 v2 v3 ws r w acc vl st L s)(hM:m.moves.length<=1000000)(K Kp:AV->St->Prop)
  (hK:KZ p mb lo st (.ok ({ m with moves:=m.moves ++ [⟨w,acc⟩] },ts)) K Kp):xC Qaf base jeH L s (rQ st K) (dP st Kp):=by
 obtain⟨S,k,qz,nx,C3,C4,lv,i0,i3,i4⟩:=D;have C:=S.cp;have l3:=S.l3;have hp:=S.hp;have hlo:=S.lo;have hhi:=S.hi;have ve3:=l3.eqs;have vc:∀ l,lall AV.cell (vl :: l)=lall AV.cell l:=λl=>by show cond vl.cell _ false=_;rw[lv.cell];rfl
 have Ap:=λst' bv xc xx K h hv=>@X7 lo q m.moves.length 7 st' v3 (mvc m.moves ws) K 96 bv xc xx h (by decide) (by omega) (by omega) hv;have hqp:q≠p/\z≠p:=by omega
 have lv2:Lv (z+1) (Go.Sy.nw s (moL w vl)).nx (Go.Sy.nw s (moL w vl)) vl acc.length (fl seE acc) 7:=by
  refine Lv.up (hi:=s.nx) ?_ (by(first|omega|(simp only[jg,jh,jk,jj,ji];first|done|omega)))
  (first|exact lv|(simp(disch:=first|assumption|decide|(first|omega|(simp only[jg,jh,jk,jj,ji];first|done|omega))) only[jA,jB,jy,jN,jC,jG,jF,jH];exact lv))
 have S3:=(S.nw (moL w vl)).move ⟨w,acc⟩ (u:=vl) lv2 (by omega);rw[jpI] at S3;have q2:=(((k.nw (by omega) (moL w vl)).aps l3 (by(first|omega|(simp only[jg,jh,jk,jj,ji];first|done|omega))) (moL w vl)).wr (.inl rfl) 2 [apv 7 v3 (Go.Sy.nw s (moL w vl))]).bk;have S2:=(S3.up (by(first|omega|(simp only[jg,jh,jk,jj,ji];first|done|omega))) (Qaq _)).ofbk (u:=st);have gp:rat s.h p 2=v3:=C.cell 2 (by simp only[Qaj,Qan];omega);clear S3 lv2;unfold moL at *;unfold rQ dP y64;rw[(by unfold jeH;simp only[qq];rfl:jeH=_)]
 (have zz:=aI @vc (aI @l3.ln (aI @l3.rts (aI @jC (aI @jG (aI @jH (aI @l3 (aI @jD (aI @jK (aI @jO (aI C3.r (aI C4.r C.r)))))))))));(repeat'(first|(apply jc<;>intro _)|simp(disch:=first|exact qu|fail) only[ja i0,ja i3,ja i4,Ap,l3.at,jD,C3.q,C4.q,C.q,vc,l3.ln,l3.rts,jC,jG,jH,l3,jD,jK,jO,C3.r,C4.r,C.r,je,jo,jL,jn,jf,jr,jt,jv,jx,ju,rzZ,Qab,Qac,Qad,Qaa,Qae]));(all_goals(clear zz)))
 exact hK _ q2 ⟨_,_,_,_,S2⟩
end Go.Sy
end
noncomputable section
set_option maxRecDepth 100000
namespace Go.Sy
open Go.Ev Go.Proofs
variable {base:Bs}
theorem jri:Go.Ev.isAgg Qaf 59=some false:=by kernel_rfl
theorem jrh:Go.Ev.sizeOf Qaf 59=some 1:=by kernel_rfl
theorem jpe {b o:Nat}{v:AV}{h:T AO}(ho:o<qC h b)(hv:rat h b o=v)(hc:eqs v=true):(qa Qaf 59 (.ptr b o) v h=true)=True:=eq_true (Qx jri jrh ho hv hc)
def zA9:List AV:=[.str [],.int .i64 0,.int .i64 0,.str [],.nils,.int .i64 0,.int .i64 0,.int .i64 0,.int .i64 0]
theorem jbw {vars:List VarT}{enums:List EnumT}{acc:List SetT}{xs:List AsT}{k:Nat}(hk:k<xs.length):QQ vars enums acc (xs.take k) (xs.drop k)=if qA vars xs[k].name<0 then .er 161 xs[k].line xs[k].col
  else if 0<=fi (λx=>decide (x.name=xs[k].name)) (xs.take k) then .er 162 xs[k].line xs[k].col
  else match yD vars enums false xs[k].to (vars.getD (qA vars xs[k].name).toNat vz).kind (vars.getD (qA vars xs[k].name).toNat vz).enum with
   |.er x y z=>.er x y z
   |.ok y=>QQ vars enums (acc ++ [⟨qA vars xs[k].name,y⟩]) (xs.take (k+1)) (xs.drop (k+1)):=by
 have e:xs.drop k=xs[k] :: xs.drop (k+1):=(QbE hk).symm;rw[e,QQ,<-y7 hk]<;>rfl
set_option maxHeartbeats 8000000 in
theorem jpr (hb:NB base){p mb lo q z:Nat}{m:ModT}{ts:List (List Nat)}{v1 v2 v3:AV}{ws:List AV}{r:RuleT}{w:Ex}{st:St}{L:Sl}{s:St}(D:RS p mb lo q z m ts v1 v2 v3 ws r w [] .nils st L s)(V:VarsOK m.vars m.enums)(hx:∀ a∈r.acts,OkE a.to)(hbl:r.acts.length<=1000000)(hM:m.moves.length<=1000000)(K Kp:AV->St->Prop)
  (hK:KZ p mb lo st (match QQ m.vars m.enums [] [] r.acts with | .er a b c=>.er a b c | .ok ss=>.ok ({ m with moves:=m.moves ++ [⟨w,ss⟩] },ts)) K Kp):xC Qaf base jeI L s (rQ st K) (dP st Kp):=by
 have i0:=D.i0;have i3:=D.i3;have i4:=D.i4;have C3:=D.c3;rw[(by unfold jeI;simp only[qq];rfl:jeI=_)]
 (have zz:=C3.r;(repeat'(first|(apply jc<;>intro _)|simp(disch:=first|exact qu|fail) only[ja i0,ja i3,ja i4,C3.q,C3.r,je,jo,jL,jn,jf,jr,jt,jv,jx,ju,rzZ,Qab,Qac,Qad,Qaa,Qae]));(all_goals(clear zz)))
 refine qy r.acts.length (λk L s=>(∃ acc vl,acc.length=k/\QQ m.vars m.enums [] [] r.acts=QQ m.vars m.enums acc (r.acts.take k) (r.acts.drop k)/\RS p mb lo q z m ts v1 v2 v3 ws r w acc vl st L s)/\Has L 14 (.lst r.acts.length (fl asE r.acts))) (by first|assumption|omega) (by decide) (by simp(disch:=decide) only[jd,jb]) (by simp(disch:=decide) only[jd,jb]) ?_ (λk L s v h=>(by obtain⟨⟨acc,vl,h0,h1,h2⟩,h3⟩:=h;refine⟨⟨acc,vl,h0,h1,h2.push (by decide)⟩,?_⟩;simp(disch:=decide) only[jb];assumption)) (λk L s v h=>(by obtain⟨⟨acc,vl,h0,h1,h2⟩,h3⟩:=h;refine⟨⟨acc,vl,h0,h1,h2.push (by decide)⟩,?_⟩;simp(disch:=decide) only[jb];assumption)) (λk L s hk hI hi hn=>?_) (λL s hI=>?_)
 ·refine⟨⟨[],.nils,rfl,rfl,((D.push (by decide)).push (by decide)).push (by decide)⟩,?_⟩;simp(disch:=decide) only[jb,jd]
 ·obtain⟨⟨acc,vl,hacc,h1,D⟩,i14⟩:=hI;obtain⟨S,k0,qz,nx,C3,C4,lv,i0,i3,i4⟩:=D;obtain⟨x1,x2⟩:=hx _ (Qay hk);have hlo:=S.lo;have hhi:=S.hi;have hp:=S.hp;have hqm:q≠p/\z≠p:=by omega
  have zl9:(asE r.acts[k]).length=zA9.length:=by rw[ZW];rfl
  have S1:=(S.nw zA9).wr (c:=s.nx) (by omega) 0 (asE r.acts[k]);have k1:=(k0.nw (by omega) zA9).wr (c:=s.nx) (.inr (by omega)) 0 (asE r.acts[k]);have C6:=(Cl.new s zA9).wr0 zl9;have D3:Cl (Go.Sy.wr (Go.Sy.nw s zA9) s.nx 0 (asE r.acts[k])) q (ruE r):=by(first|exact C3|(simp(disch:=first|assumption|decide|(first|omega|(simp only[jg,jh,jk,jj,ji];first|done|omega))) only[jA,jB,jy,jN,jC,jG,jF,jH];exact C3))
  have D4:Cl (Go.Sy.wr (Go.Sy.nw s zA9) s.nx 0 (asE r.acts[k])) z (moL w vl):=by(first|exact C4|(simp(disch:=first|assumption|decide|(first|omega|(simp only[jg,jh,jk,jj,ji];first|done|omega))) only[jA,jB,jy,jN,jC,jG,jF,jH];exact C4))
  have lv1:Lv (z+1) s.nx (Go.Sy.wr (Go.Sy.nw s zA9) s.nx 0 (asE r.acts[k])) vl acc.length (fl seE acc) 7:=by(first|exact lv|(simp(disch:=first|assumption|decide|(first|omega|(simp only[jg,jh,jk,jj,ji];first|done|omega))) only[jA,jB,jy,jN,jC,jG,jF,jH];exact lv))
  have hn1:(Go.Sy.wr (Go.Sy.nw s zA9) s.nx 0 (asE r.acts[k])).nx=s.nx+1:=rfl;have VC:=λnm K Kp=>jeX hb S1.ck V.len nm K Kp;have HA:=λK Kp=>jnu hb (r.acts.take k) (by rw[QaK];omega) r.acts[k] _ C6 k (by rw[QaK];omega) K Kp;have SL:=λst K=>@jq5 _ asE 9 ZW r.acts .i64 k (Qct hk) st K;rw[h1,jbw hk] at hK;unfold zA9 at *
  (have zz:=aI C3.r C4.r;(repeat'(first|(apply jc<;>intro _)|simp(disch:=first|exact qu|fail) only[ja i0,ja i3,ja i4,ja i14,ja hi,ja hn,C3.q,C4.q,C3.r,C4.r,je,jo,jL,jn,jf,jr,jt,jv,jx,ju,rzZ,Qab,Qac,Qad,Qaa,Qae]));(all_goals(clear zz)))
  generalize Go.Sy.wr (Go.Sy.nw s [.str [],.int .i64 0,.int .i64 0,.str [],.nils,.int .i64 0,.int .i64 0,.int .i64 0,.int .i64 0]) s.nx 0 (asE r.acts[k])=t1 at *;have C1:=S1.cp;by_cases c1:qA m.vars r.acts[k].name<0
  ·rw[if_pos c1] at hK
   (have zz:=aI D3.r (aI D4.r C6.r);(repeat'(first|(apply jc<;>intro _)|simp(disch:=first|exact qu|fail) only[ja i0,ja i3,ja i4,VC,c1,Ji hb,D3.q,D4.q,C6.q,D3.r,D4.r,C6.r,je,jo,jL,jn,jf,jr,jt,jv,jx,ju,rzZ,Qab,Qac,Qad,Qaa,Qae]));(all_goals(clear zz)))
   exact hK _ k1.bk
  rw[if_neg c1] at hK;by_cases c2:0<=fi (λx=>decide (x.name=r.acts[k].name)) (r.acts.take k)
  ·rw[if_pos c2] at hK
   (have zz:=aI D3.r (aI D4.r C6.r);(repeat'(first|(apply jc<;>intro _)|simp(disch:=first|exact qu|fail) only[ja i0,ja i3,ja i4,VC,c1,HA,SL,c2,Ji hb,D3.q,D4.q,C6.q,D3.r,D4.r,C6.r,je,jo,jL,jn,jf,jr,jt,jv,jx,ju,rzZ,Qab,Qac,Qad,Qaa,Qae]));(all_goals(clear zz)))
   exact hK _ k1.bk
  rw[if_neg c2] at hK;have hlt:qA m.vars r.acts[k].name<(m.vars.length:Int):=wG;have hi2:(qA m.vars r.acts[k].name).toNat<m.vars.length:=by omega
  have eg:m.vars.getD (qA m.vars r.acts[k].name).toNat vz=m.vars[(qA m.vars r.acts[k].name).toNat]:=by simp[QaO,hi2]
  rw[eg] at hK;have Lw:=S1.l1;rcases id Lw with ⟨_,e0,_⟩|⟨b,rfl,b1,b2,Ce,b5,b6⟩
  ·omega
  have gl:qC t1.h b=m.vars.length * 7:=by rw[Ce.len,JX XO]
  have ge1:rat t1.h b ((qA m.vars r.acts[k].name).toNat * 7+1)=.int .i64 m.vars[(qA m.vars r.acts[k].name).toNat].kind:=by
   rw[Ce.cell _ (by rw[JX XO];omega),vF XO hi2 (by decide)];rfl
  have ge2:rat t1.h b ((qA m.vars r.acts[k].name).toNat * 7+2)=.str m.vars[(qA m.vars r.acts[k].name).toNat].enum:=by
   rw[Ce.cell _ (by rw[JX XO];omega),vF XO hi2 (by decide)];rfl
  have gp:rat t1.h p 0=.slice b 0 m.vars.length m.vars.length 7 false:=C1.cell 0 (by simp only[Qaj,Qan];omega);unfold moL at D4 C4
  (have zz:=aI @gl (aI @ge1 (aI @ge2 (aI C1.r (aI D3.r (aI D4.r C6.r)))));(repeat'(first|(apply jc<;>intro _)|simp(disch:=first|exact qu|fail) only[ja i0,ja i3,ja i4,VC,c1,HA,SL,c2,ge1,ge2,YN,Vn,Vm (base:=base),C1.q,D3.q,D4.q,C6.q,gl,ge1,ge2,C1.r,D3.r,D4.r,C6.r,je,jo,jL,jn,jf,jr,jt,jv,jx,ju,rzZ,Qab,Qac,Qad,Qaa,Qae]));(all_goals(clear zz)))
  rw[<-qI];refine Up hb V _ x2 (YO _ x1) _ _ S1.ck _ _ ?_;cases hr:yD m.vars m.enums false r.acts[k].to m.vars[(qA m.vars r.acts[k].name).toNat].kind m.vars[(qA m.vars r.acts[k].name).toNat].enum with
  |er a b c=>
   rw[hr] at hK;intro s' k2;repeat'(first|(apply jc<;>intro _)|simp(disch:=first|exact dzG|fail) only[YN,Vn,Vm (base:=base),je,jo,jL,jn,jf,jr,jt,jv,jx,ju,rzZ,Qab,Qac,Qad,Qaa,Qae])
   exact hK _ (k1.keep k2 (by omega)).bk
  |ok y=>
   rw[hr] at hK;dsimp only at hK;intro s' k2 C2;have hs':=k2.nx;have k3:=k1.keep k2 (by omega);have S3:=S1.keep k2 C2;have E3:=k2.cl D3 hqm.1;have E4:=k2.cl D4 hqm.2;have lv2:=k2.lv lv1 (.inl (by omega));have ve:=lv2.eqs;have gz:rat s'.h z 6=vl:=E4.cell 6 (by simp only[Qaj,Qan];omega);have Ap:=λst' bv xc xx K h hv=>@X7 (z+1) s.nx acc.length 7 st' vl (fl seE acc) K 80 bv xc xx h (by decide) (by omega) (by omega) hv;have a59:qa Qaf 59 (.ptr z 6) vl t1.h=true:=(jpe (by rw[D4.len];simp only[Qaj,Qan];omega) (D4.cell 6 (by simp only[Qaj,Qan];omega)) ve).mpr trivial;clear S1 k1 k2 C2 C6 D3 D4 C3 C4 S k0 VC HA SL ge1 ge2 gl gp Ce Lw C1 lv lv1;have hzp:p≠z:=λe=>hqm.2 e.symm;have lv3:Lv (z+1) (Go.Sy.nw s' (seE ⟨qA m.vars r.acts[k].name,y⟩)).nx (Go.Sy.nw s' (seE ⟨qA m.vars r.acts[k].name,y⟩)) vl acc.length (fl seE acc) 7:=by
    refine Lv.up (hi:=s.nx) ?_ (by(first|omega|(simp only[jg,jh,jk,jj,ji];first|done|omega)))
    (first|exact lv2|(simp(disch:=first|assumption|decide|(first|omega|(simp only[jg,jh,jk,jj,ji];first|done|omega))) only[jA,jB,jy,jN,jC,jG,jF,jH];exact lv2))
   have S4:=((S3.nw (seE ⟨qA m.vars r.acts[k].name,y⟩)).aps lv3 (by omega) (seE ⟨qA m.vars r.acts[k].name,y⟩)).wr (c:=z) (by omega) 6 [apv 7 vl (Go.Sy.nw s' (seE ⟨qA m.vars r.acts[k].name,y⟩))];have k4:=((k3.nw (by omega) (seE ⟨qA m.vars r.acts[k].name,y⟩)).aps (lv3.low (lo:=lo) (by omega)) (by(first|omega|(simp only[jg,jh,jk,jj,ji];first|done|omega))) (seE ⟨qA m.vars r.acts[k].name,y⟩)).wr (c:=z) (.inr (by omega)) 6 [apv 7 vl (Go.Sy.nw s' (seE ⟨qA m.vars r.acts[k].name,y⟩))];have hlz:z+1<=s'.nx:=by omega
   (have zz:=aI @lv2.ln (aI @lv2.rts (aI @jC (aI @jG (aI @jH (aI @lv2 (aI @jD (aI @jK (aI @jO (aI @ve (aI E3.r E4.r))))))))));(repeat'(first|(apply jc<;>intro _)|simp(disch:=first|exact qu|fail) only[ja i0,ja i3,ja i4,Ap,lv2.at,jpe,ve,jD,E3.q,E4.q,lv2.ln,lv2.rts,jC,jG,jH,lv2,jD,jK,jO,ve,E3.r,E4.r,je,jo,jL,jn,jf,jr,jt,jv,jx,ju,rzZ,Qab,Qac,Qad,Qaa,Qae]));(all_goals(clear zz)))
   refine⟨a59,⟨⟨acc ++ [⟨qA m.vars r.acts[k].name,y⟩],_,?_,h1.trans ?_,S4,k4,qz,?_,?_,Cl.wr (?_:Cl _ z (moL w vl)) 6 [apv 7 vl (Go.Sy.nw s' (seE ⟨qA m.vars r.acts[k].name,y⟩))],?_,?_,?_,?_⟩,?_⟩,?_,?_⟩
   ·rw[Qak,hacc];rfl
   ·rw[jbw hk,if_neg c1,if_neg c2,eg,hr]
   ·rw[jh,jj,jg];omega
   ·have:=(E3.nw (seE ⟨qA m.vars r.acts[k].name,y⟩)).aps lv3 (.inl (by omega)) (news:=seE ⟨qA m.vars r.acts[k].name,y⟩)
    (first|exact this|(simp(disch:=first|assumption|decide|(first|omega|(simp only[jg,jh,jk,jj,ji];first|done|omega))) only[jA,jB,jy,jN,jC,jG,jF,jH];exact this))
   ·exact(E4.nw (seE ⟨qA m.vars r.acts[k].name,y⟩)).aps lv3 (.inl (by omega))
   ·rw[jC (.inl (by omega)),Qak,Xz,QC];exact lv3.put (vW _) (by(first|omega|(simp only[jg,jh,jk,jj,ji];first|done|omega))) (by(first|omega|(simp only[jg,jh,jk,jj,ji];first|done|omega)))
   all_goals(simp(disch:=decide) only[jb];assumption)
 ·obtain⟨⟨acc,vl,hacc,h1,D⟩,i14⟩:=hI;rw[QaE,Qcn,QQ] at h1;rw[h1] at hK;repeat'(first|(apply jc<;>intro _)|simp(disch:=first|exact dzG|fail) only[je,jo,jL,jn,jf,jr,jt,jv,jx,ju,rzZ,Qab,Qac,Qad,Qaa,Qae])
  exact jpq hb D hM K Kp hK
end Go.Sy
end
noncomputable section
set_option maxRecDepth 100000
namespace Go.Sy
open Go.Ev Go.Proofs
variable {base:Bs}
def z7:List AV:=[.int .i64 0,.int .i64 0,.str [],.nils,.int .i64 0,.int .i64 0,.nils]
set_option maxHeartbeats 4000000 in
theorem jpo (hb:NB base){p mb lo:Nat}{m:ModT}{ts:List (List Nat)}{st:St}(r:RuleT)(V:VarsOK m.vars m.enums)(hw:OkE r.when)(hx:∀ a∈r.acts,OkE a.to)(hbl:r.acts.length<=1000000)(hM:m.moves.length<=1000000)(H:MZ p mb lo m ts st)(K Kp:AV->St->Prop)(hK:KZ p mb lo st (XR m ts r) K Kp):XB Qaf base 64 [.ptr p 0,.agg (ruE r)] st K Kp:=by
 obtain⟨v1,v2,v3,ws,S⟩:=H;have hp:=S.hp;have hlo:=S.lo;have hhi:=S.hi;refine JO x64 (by rfl) (hb.at0 64 (by decide) (by decide) _ _) ?_;simp only[y64,jp,Qai,Qal,Qag,Qah];rw[(by unfold z64;simp only[qq];rfl:z64=_)];have hnx:st.bare.nx=st.nx:=rfl;have S0:=S.bare.nw (ruE r);have q1:=(Kq.refl:Kq p mb lo st.bare st.bare).nw (by omega) (ruE r);have Cb:Cl (Go.Sy.nw st.bare (ruE r)) st.nx (ruE r):=Cl.new st.bare (ruE r);unfold XR at hK
 (have zz:=@Cb.r;(repeat'(first|(apply jc<;>intro _)|simp(disch:=first|exact qu|fail) only[Cb.q,Cb.r,je,jo,jL,jn,jf,jr,jt,jv,jx,ju,rzZ,Qab,Qac,Qad,Qaa,Qae]));(all_goals(clear zz)))
 rw[<-qI];have hn0:(Go.Sy.nw st.bare (ruE r)).nx=st.nx+1:=rfl;refine Up hb V _ hw.2 (YO _ hw.1) _ _ S0.ck _ _ ?_;cases hr:yD m.vars m.enums false r.when 2 [] with
 |er a b c=>
  rw[hr] at hK;intro s' k2;exact hK _ (q1.keep k2 (by omega)).bk
 |ok y=>
  rw[hr] at hK;dsimp only at hK;intro s' k2 C2;have hs':=k2.nx;have k3:=q1.keep k2 (by omega);have S3:=S0.keep k2 C2;have E3:=k2.cl Cb (by omega);rw[qI];have S4:=(S3.nw z7).wr (c:=s'.nx) (by omega) 0 (moL y .nils);have k4:=(k3.nw (by omega) z7).wr (c:=s'.nx) (.inr (by omega)) 0 (moL y .nils);have C4:=(Cl.new s' z7).wr0 (c':=moL y .nils) rfl;unfold z7 moL at *;repeat'(first|(apply jc<;>intro _)|simp(disch:=first|exact dzG|fail) only[je,jo,jL,jn,jf,jr,jt,jv,jx,ju,rzZ,Qab,Qac,Qad,Qaa,Qae])
  refine jpr hb ⟨S4,k4,?_,by(first|omega|(simp only[jg,jh,jk,jj,ji];first|done|omega)),by(first|exact E3|(simp(disch:=first|assumption|decide|(first|omega|(simp only[jg,jh,jk,jj,ji];first|done|omega))) only[jA,jB,jy,jN,jC,jG,jF,jH];exact E3)),C4,Lv.nil,?_,?_,?_⟩ V hx hbl hM K Kp hK
  ·omega
  all_goals simp(disch:=decide) only[jb,jd]
end Go.Sy
end
noncomputable section
set_option maxRecDepth 100000
namespace Go.Sy
open Go.Ev Go.Proofs
variable {base:Bs}
def fcl (c l k:Int):List AV:=[.int .i64 c,.int .i64 l,.int .i64 k]
theorem jrP (c l k:Int)(st:St)(K:AV->St->Prop):jm (gP Qaf 30 (kf c l k) st) K=K (.tup [.agg (fcl c l k),.bool true]) st:=by
 have:gP Qaf 30 (kf c l k) st=.ok (.tup [.agg (fcl c l k),.bool true]) st:=by kernel_rfl
 rw[this];rfl
theorem jqh (c l k:Int)(st:St)(K:AV->St->Prop):jm (Xy Qaf .eql 20 true (kf c l k) .nilif st) K=K (.bool false) st:=by
 have:Xy Qaf .eql 20 true (kf c l k) .nilif st=.ok (.bool false) st:=by kernel_rfl
 rw[this];rfl
theorem gJ {fb:Nat}(st:St)(K:Md->St->Prop):DX Qaf base 59 [.ptr fb 0] .calm st.bare K=K .calm st.bare:=by
 refine jaV (λK hK=>?_) K;refine uh joF (by rfl) rfl ?_;simp only[gY,jp,Qai,Qal,Qag,Yb,YE];rw[(by unfold Wk;simp only[qq];rfl:Wk=_)];repeat'(first|(apply jc<;>intro _)|simp(disch:=first|exact dzG|fail) only[jiD,Wm,je,jo,jL,jn,jf,jr,jt,jv,jx,ju,rzZ,Qab,Qac,Qad,Qaa,Qae])
 exact hK
theorem jav {fb:Nat}(c l k:Int)(st:St)(h:qC st.h fb=3)(hn:fb<st.nx)(K:Md->St->Prop) :
  DX Qaf base 59 [.ptr fb 0] (.pan (kf c l k)) st.bare K=K .done (wr (wr (nw st.bare [.int .i64 0,.int .i64 0,.int .i64 0]) st.nx 0 (fcl c l k)) fb 0 (fcl c l k)):=by
 have C:Cl st.bare fb (rats st.h fb 0 3):=(Cl.of_rats hn h (Xm _ _ _ _) (by decide) rfl).bar;have hcs:(rats st.h fb 0 3).length=3:=Xm _ _ _ _;refine jaV (λK hK=>?_) K;refine uh joF (by rfl) rfl ?_;simp only[gY,jp,Qai,Qal,Qag,Yb,YE];rw[(by unfold Wk;simp only[qq];rfl:Wk=_)];have hl:=C.lt;have l0:=C.len;have hB:st.bare.nx=st.nx:=rfl;have hne:¬ fb=st.bare.nx:=by omega
 unfold fcl at *;have A:=jrP c l k;unfold fcl at A
 (have zz:=aI @l0 @hcs;(repeat'(first|(apply jc<;>intro _)|simp(disch:=first|exact qu|fail) only[jqh,jij,A,Wm,l0,hcs,je,jo,jL,jn,jf,jr,jt,jv,jx,ju,rzZ,Qab,Qac,Qad,Qaa,Qae]));(all_goals(clear zz)))
 exact hK
theorem jsL {n:Nat}(h:0<n)(cs:List AV)(st:St)(K:AV->St->Prop):jm (Xy Qaf .eql 91 true (.lst n cs) .nils st) K=K (.bool false) st:=by
 obtain⟨k,rfl⟩:∃ k,n=k+1:=⟨n - 1,by omega⟩;have:Xy Qaf .eql 91 true (.lst (k+1) cs) .nils st=.ok (.bool false) st:=by kernel_rfl
 rw[this];rfl
theorem jsP {n:Nat}{cs:List AV}(h0:0<n)(hl:cs.length=n)(hn:n<=1000000)(K:AV->St->Prop):jm (GS 1 16 (.slice 0 0 0 0 1 true) (.lst n cs) (nw st0 [])) K=K (.slice 1 0 n n 1 false) (nw (nw st0 []) cs):=by
 have hg:jz (nw st0 []).h 0=some (.row 0 0 [] .e):=by kernel_rfl
 have e1:Qat n 1=n:=Nat.mul_one n;have e2:Qap n (jY cs)=true:=yK (by rw[jZ];omega);have e3:yQ cs n=cs:=by rw[yt,<-hl,QaE]
 have e4:Qas (jY cs) n=true:=U4 (by rw[jZ,hl]);have e5:QaG 0 n=n:=QaM n;have e6:Qap n 0=false:=jmz h0;have e7:Qap (Qat n 16) 140737488355328=true:=yK (by show n * 16<=_;omega);have e8:Qap n 9223372036854775807=true:=yK (by omega);have e9:Qat 0 1=0:=rfl;have e10:Qap (QaG 0 0) 0=true:=rfl;have e11:j9 0 [] .e 0 0=[]:=rfl;have e12:zL [] cs=cs:=by rw[zo];rfl
 simp only[GS,Yo,firstCells,jJ,e1,e2,cond_true,e3,zg,e4,hg,zw,e5,e6,cond_false,e7,e8,e9,e10,e11,e12,St.alloc_eq,jm];conv=>rhs;unfold nw
 rw[hl];rfl
set_option maxHeartbeats 1000000 in
theorem jnE (hb:NB base)(vs:List (List Nat))(hv:0<vs.length)(hl:vs.length<=1000000):Tot base 99 [.lst vs.length (vs.map .str)] (.lst vs.length (vs.map .str)):=by
 refine hb.tot ?_ rfl rfl;have N:=jsL hv (vs.map .str);have A:=λK=>jsP (cs:=vs.map .str) hv (by simp) hl K;refine jI x99 (by rfl) (hb.pur 99 1 (by decide)) ?_;simp only[y99,jp,Qai,Qal,Qag,Qah];rw[(by unfold z99;simp only[qq];rfl:z99=_)];repeat'(first|(apply jc<;>intro _)|simp(disch:=first|exact dzG|fail) only[N,jfC,A,je,jo,jL,jn,jf,jr,jt,jv,jx,ju,rzZ,Qab,Qac,Qad,Qaa,Qae])
 have C:Cl (nw (nw st0 []) (vs.map .str)) 1 (vs.map .str):=Cl.new (nw st0 []) _;refine FzD.slice C.rw_ (by simp) (QaL _) ?_;rw[Nat.mul_one,<-QaQ (f:=AV.str),QaE];refine FzsD.pc ?_;simp[pc]
end Go.Sy
end
noncomputable section
set_option maxRecDepth 100000
namespace Go.Sy
open Go.Ev Go.Proofs
variable {base:Bs}
def yh {α β:Type}(f:β->α->KR β):β->List α->KR β
 |b,[]=>.ok b
 |b,x :: xs=>match f b x with
  |.er a c d=>.er a c d
  |.ok b=>yh f b xs
theorem W5 {α β:Type}{f:β->α->KR β}{b:β}{xs:List α}{k:Nat}(hk:k<xs.length):yh f b (xs.drop k)=match f b xs[k] with
  |.er a c d=>.er a c d
  |.ok b=>yh f b (xs.drop (k+1)):=by
 have e:xs.drop k=xs[k] :: xs.drop (k+1):=(QbE hk).symm;rw[e,yh]
abbrev MT:=ModT×List (List Nat)
def Zc (b:MT)(p:ProcT):KR MT:=match XQ b.2 p.name p.line p.col with
 |.er a c d=>.er a c d
 |.ok ts=>yh (λb r=>XR b.1 b.2 r) (b.1,ts) p.rules
def md0:ModT:=⟨[],[],[]⟩
def V7 (b:MT)(l:List EnumT):KR MT:=yh (λb e=>wH b.1 b.2 e) b l
def vI (b:MT)(l:List DeclT):KR MT:=yh (λb e=>Zj b.1 b.2 e) b l
def Yf (b:MT)(l:List ProcT):KR MT:=yh Zc b l
def Qh (s:SrcT):KR MT:=match V7 (md0,[]) s.enums with
 |.er a c d=>.er a c d
 |.ok b=>match vI b s.vars with
  |.er a c d=>.er a c d
  |.ok b=>Yf b s.procs
def Us (r:KR MT):AV:=match r with
 |.er c l k=>.tup [.agg (mdE md0),.agg (fcl c l k)]
 |.ok b=>.tup [.agg (mdE b.1),.agg (fcl 0 0 0)]
def mQ (base:Bs)(r:KR MT):Out->Prop:=GM Qaf base y26.res (Xe G0 (.ok (Us r))) (Xb G0 (.ok (Us r)))
def mP (base:Bs)(r:KR MT):AV->Sl->St->Prop:=VG Qaf base y26.res (Xe G0 (.ok (Us r))) (Xb G0 (.ok (Us r)))
structure QS (src:SrcT)(L:Sl)(s:St):Prop where
 c0:Cl s 0 (srE src)
 c1:Cl s 1 [.nils,.nils,.nils]
 c2:Cl s 2 [.int .i64 0,.int .i64 0,.int .i64 0]
 fr:s.fr=[(59,[.ptr 2 0])]
 i1:Has L 1 (.ptr 0 0)
 i2:Has L 2 (.ptr 1 0)
 i3:Has L 3 (.ptr 2 0)
 i4:Has L 4 (.ptr 4 0)
section
variable {src:SrcT} {L:Sl} {s t:St}
theorem QS.push (h:QS src L s){c:Nat}{v:AV}(hc:c≠1/\c≠2/\c≠3/\c≠4):QS src ((c,v) :: L) s:=by
 obtain⟨c0,c1,c2,fr,i1,i2,i3,i4⟩:=h;exact⟨c0,c1,c2,fr,by rw[jb hc.1];exact i1,by rw[jb hc.2.1];exact i2,by rw[jb hc.2.2.1];exact i3,by rw[jb hc.2.2.2];exact i4⟩
theorem QS.kq (h:QS src L s)(k:Kq 4 3 5 s t):QS src L t:=
 ⟨k.cl h.c0 (by decide) (by decide) (by decide),k.cl h.c1 (by decide) (by decide) (by decide),k.cl h.c2 (by decide) (by decide) (by decide),k.fr.trans h.fr,h.i1,h.i2,h.i3,h.i4⟩
theorem jhV {m d:Nat}{s:St}:FzD m (d+3) s (.agg [.nils,.nils,.nils]) (.agg (mdE md0)):=FzD.agg (.cons FzD.nils (.cons FzD.nils (.cons FzD.nils .nil)))
theorem UJ {c l k:Int}(h:QS src L s):mP base (.er c l k) (kf c l k) L s:=by
 obtain⟨c0,c1,c2,fr,i1,i2,i3,i4⟩:=h;have l2:=c2.len;have n2:=c2.lt;unfold mP y26
 (have zz:=aI @c0.r (aI @c1.r @c2.r);(repeat'(first|(apply jc<;>intro _)|simp(disch:=first|exact qu|fail) only[ja i2,ja i3,Qt (f:=59) (vs:=[.ptr 2 0]),JR (f:=59) (vs:=[.ptr 2 0]),gJ,jav,c0.q,c1.q,c2.q,c0.r,c1.r,c2.r,je,jo,jL,jn,jf,qi,qh,jr,jt,jv,jx,ju,rzZ,Qab,Qac,Qad,Qaa,Qae]));(all_goals(clear zz)))
 exact FzD.tup (.cons jhV (.cons (.agg (.pc (by rfl))) .nil))
end
theorem jhN {m lo hi d:Nat}{s:St}{v3:AV}(hm:m<=lo):∀ {ms:List MoveT} {us:List AV},UU lo hi s v3 ms us->FzsD m (d+3) s (mvc ms us) (fl moE ms)
 |[],[],_=>.nil
 |e :: ms,u :: us,h=>by
  show FzsD m (d+3) s ((eE e.when ++ [u]) ++ mvc ms us) (moE e ++ fl moE ms);refine FzsD.append ?_ (jhN hm h.2);exact FzsD.append (FzsD.pc (q8 _)) (.cons (h.1.1.fz hm (Jn Za _)) .nil)
set_option maxHeartbeats 4000000 in
theorem m_d {src:SrcT}{L:Sl}{s:St}(D:QS src L s){m:ModT}{ts:List (List Nat)}(H:MZ 4 3 5 m ts s):xC Qaf base jeL L s (mQ base (.ok (m,ts))) (mP base (.ok (m,ts))):=by
 obtain⟨v1,v2,v3,ws,S⟩:=H;obtain⟨c0,c1,c2,fr,i1,i2,i3,i4⟩:=D;have C4:=S.cp;have l2:=c2.len;have n2:=c2.lt;have vc:∀ l,lall AV.cell (v1 :: v2 :: v3 :: l)=lall AV.cell l:=λl=>by
  show cond v1.cell (cond v2.cell (cond v3.cell _ false) false) false=_;rw[S.l1.cell,S.l2.cell,S.l3.cell];rfl
 unfold mQ mP y26;rw[(by unfold jeL;simp only[qq];rfl:jeL=_)]
 (have zz:=aI @vc (aI @c0.r (aI @c1.r (aI @c2.r C4.r)));(repeat'(first|(apply jc<;>intro _)|simp(disch:=first|exact qu|fail) only[ja i1,ja i2,ja i3,ja i4,Ga i3,YD,Qt (f:=59) (vs:=[.ptr 2 0]),JR (f:=59) (vs:=[.ptr 2 0]),gJ,jav,c0.q,c1.q,c2.q,C4.q,vc,c0.r,c1.r,c2.r,C4.r,je,jo,jL,jn,jf,qi,qh,jr,jt,jv,jx,ju,rzZ,Qab,Qac,Qad,Qaa,Qae]));(all_goals(clear zz)))
 have f:∀ v n cs z,Lv 5 s.nx s v n cs z->Lv 5 s.nx (Go.Sy.wr (Go.Sy.wr s 1 0 [v1,v2,v3]) 2 0 [.int .i64 0,.int .i64 0,.int .i64 0]).bare v n cs z:=λv n cs z h=>by
  rw[jF,jC (.inl (by decide)),jC (.inl (by decide))];exact h
 refine FzD.tup (.cons (FzD.agg (.cons ((f _ _ _ _ S.l1).fz (QaL _) (Jn XN _)) (.cons ((f _ _ _ _ S.l2).fz (QaL _) (Jn JI _)) (.cons ?_ .nil)))) (.cons (.agg (.pc (by rfl))) .nil))
 ·have u3:=S.uu.imp (λu n cs h=>(⟨f _ _ _ _ h.1,h.2⟩:Lv 5 s.nx (Go.Sy.wr (Go.Sy.wr s 1 0 [v1,v2,v3]) 2 0 [.int .i64 0,.int .i64 0,.int .i64 0]).bare u n cs 7/\Df v3 u));rcases f _ _ _ _ S.l3 with ⟨rfl,h1,h2⟩|⟨b,rfl,h1,h2,C,h3,h4⟩
  ·have:m.moves=[]:=QaT h1;show FzD _ _ _ _ (.lst m.moves.length (fl moE m.moves));rw[this];exact FzD.nils
  ·refine FzD.slice C.rw_ (QbJ h2.symm) (QaL _) ?_;rw[<-h2,QaE];exact jhN (QaL _) u3
end Go.Sy
end
noncomputable section
set_option maxRecDepth 100000
namespace Go.Sy
open Go.Ev Go.Proofs
variable {base:Bs}
structure ProcOK (p:ProcT):Prop where
 len:p.rules.length<=1000
 rules:∀ r∈p.rules,OkE r.when/\(∀ a∈r.acts,OkE a.to)/\r.acts.length<=1000000
structure DeclOK (d:DeclT):Prop where
 ex:∀ x∈d.begins,OkE x
 len:d.begins.length<=1000000
 lo : -100000000<=d.lo/\d.lo<=100000000
 hi : -100000000<=d.hi/\d.hi<=100000000
structure SrcOK (s:SrcT):Prop where
 ne:s.enums.length<=1000
 nv:s.vars.length<=1000
 np:s.procs.length<=100
 vals:∀ e∈s.enums,0<e.vals.length/\e.vals.length<=1000000
 vars:∀ d∈s.vars,DeclOK d
 procs:∀ p∈s.procs,ProcOK p
theorem kX {m:ModT}{ts:List (List Nat)}{e:EnumT}{b:MT}(h:wH m ts e=.ok b):b.1={ m with enums:=m.enums ++ [e] }:=by
 unfold wH at h;split at h
 ·cases h
 ·cases h;rfl
theorem jbz {m:ModT}{ts:List (List Nat)}{r:RuleT}{b:MT}(h:XR m ts r=.ok b):∃ e,b.1={ m with moves:=m.moves ++ [e] }:=by
 unfold XR at h;split at h
 ·cases h
 ·split at h
  ·cases h
  ·cases h;exact⟨_,rfl⟩
theorem jeu {vars:List VarT}{enums:List EnumT}:∀ {xs:List Ex} {v u:VarT},JK vars enums v xs=.ok u->u.lo=v.lo/\u.hi=v.hi/\u.kind=v.kind/\u.enum=v.enum/\u.name=v.name
 |[],v,u,h=>by rw[JK] at h;cases h;exact⟨rfl,rfl,rfl,rfl,rfl⟩
 |x :: xs,v,u,h=>by
  rw[JK] at h;split at h
  ·cases h
  ·split at h
   ·cases h
   ·split at h
    ·cases h
    ·have:=jeu h;exact this
theorem jkL {enums:List EnumT}{d:DeclT}{v:VarT}(hv:∀ e∈enums,e.vals.length<=1000000)(hd:DeclOK d)(h:UN enums d=.ok v) : -100000000<=v.lo/\v.lo<=100000000/\-100000000<=v.hi/\v.hi<=100000000:=by
 unfold UN at h;split at h
 ·cases h;dsimp only;omega
 ·split at h
  ·rename_i h2;cases h;dsimp only;have hlt:JY enums d.ty<(enums.length:Int):=wG;have hi2:(JY enums d.ty).toNat<enums.length:=by omega
   have eg:enums.getD (JY enums d.ty).toNat en0=enums[(JY enums d.ty).toNat]:=by simp[QaO,hi2]
   rw[eg];have:=hv _ (Qay hi2);omega
  ·split at h
   ·cases h
   ·split at h
    ·cases h
    ·split at h
     ·cases h
     ·cases h;exact⟨hd.lo.1,hd.lo.2,hd.hi.1,hd.hi.2⟩
theorem jcC {m:ModT}{ts:List (List Nat)}{d:DeclT}{b:MT}(hv:∀ e∈m.enums,e.vals.length<=1000000)(hd:DeclOK d)(h:Zj m ts d=.ok b):∃ v:VarT,b.1={ m with vars:=m.vars ++ [v] }/\(-100000000<=v.lo/\v.lo<=100000000/\-100000000<=v.hi/\v.hi<=100000000):=by
 unfold Zj at h;split at h
 ·cases h
 ·split at h
  ·cases h
  ·rename_i v hk;unfold uv at h;split at h
   ·cases h
   ·rename_i u hu;unfold Gp at h;split at h
    ·cases h
    ·cases h;have hb:=jeu hu;refine⟨u,rfl,?_⟩;rw[hb.1,hb.2.1];exact jkL hv hd hk
section
variable {src:SrcT} {L:Sl} {s t:St} {m:ModT} {ts:List (List Nat)}
theorem MX.box (h:MX 4 3 5 m ts s)(z cs:List AV):MX 4 3 5 m ts (Go.Sy.wr (Go.Sy.nw s z) s.nx 0 cs):=by
 obtain⟨v1,v2,v3,S⟩:=h;exact⟨v1,v2,v3,((S.nw z).wr (c:=s.nx) (Qaq _) 0 cs).up (by rw[jh,jg];omega) (Qaq _)⟩
theorem MZ.box (h:MZ 4 3 5 m ts s)(z cs:List AV):MZ 4 3 5 m ts (Go.Sy.wr (Go.Sy.nw s z) s.nx 0 cs):=by
 obtain⟨v1,v2,v3,ws,S⟩:=h;exact⟨v1,v2,v3,ws,((S.nw z).wr (c:=s.nx) (Qaq _) 0 cs).up (by rw[jh,jg];omega) (Qaq _)⟩
theorem MZ.nx5 (h:MZ 4 3 5 m ts s):5<=s.nx:=by obtain⟨v1,v2,v3,ws,S⟩:=h;exact S.lo
theorem MX.nx5 (h:MX 4 3 5 m ts s):5<=s.nx:=by obtain⟨v1,v2,v3,S⟩:=h;exact S.lo
theorem gf (h:5<=s.nx)(z cs:List AV):Kq 4 3 5 s (Go.Sy.wr (Go.Sy.nw s z) s.nx 0 cs):=(Kq.refl.nw h z).wr (.inr h) 0 cs
end
theorem MZ.take {m:ModT}{ts:List (List Nat)}{s:St}(h:MZ 4 3 5 m ts s)(us:List (List Nat)):MZ 4 3 5 m us (Go.Sy.mp s 3 (mpl us)):=by
 obtain⟨v1,v2,v3,ws,S⟩:=h;exact⟨v1,v2,v3,ws,S.take us⟩
def zr7:List AV:=[.int .i64 0,.int .i64 0,.str [],.nils,.int .i64 0,.int .i64 0,.nils]
def zp4:List AV:=[.str [],.nils,.int .i64 0,.int .i64 0]
set_option maxHeartbeats 8000000 in
theorem m_c (hb:NB base){src:SrcT}{L:Sl}{s:St}(D:QS src L s){m:ModT}{ts:List (List Nat)}(V:VarsOK m.vars m.enums)(hm:m.moves=[])(O:SrcOK src)(H:MZ 4 3 5 m ts s):xC Qaf base jeM L s (mQ base (Yf (m,ts) src.procs)) (mP base (Yf (m,ts) src.procs)):=by
 have c0:=D.c0;have i1:=D.i1;have onp:=O.np;generalize hR:Yf (m,ts) src.procs=R;rw[(by unfold jeM;simp only[qq];rfl:jeM=_)]
 (have zz:=@c0.r;(repeat'(first|(apply jc<;>intro _)|simp(disch:=first|exact qu|fail) only[ja i1,c0.q,c0.r,je,jo,jL,jn,jf,qi,qh,jr,jt,jv,jx,ju,rzZ,Qab,Qac,Qad,Qaa,Qae]));(all_goals(clear zz)))
 refine qy src.procs.length (λk L s=>(∃ b:MT,Yf b (src.procs.drop k)=R/\b.1.vars=m.vars/\b.1.enums=m.enums/\b.1.moves.length<=1000 * k/\MZ 4 3 5 b.1 b.2 s/\QS src L s)/\Has L 39 (.lst src.procs.length (fl prE src.procs))) (by first|assumption|omega) (by decide) (by simp(disch:=decide) only[jd,jb]) (by simp(disch:=decide) only[jd,jb]) ?_ (λk L s v h=>(by obtain⟨⟨b,h1,h2,h3,h4,h5,h6⟩,h7⟩:=h;refine⟨⟨b,h1,h2,h3,h4,h5,h6.push (by decide)⟩,?_⟩;simp(disch:=decide) only[jb];assumption)) (λk L s v h=>(by obtain⟨⟨b,h1,h2,h3,h4,h5,h6⟩,h7⟩:=h;refine⟨⟨b,h1,h2,h3,h4,h5,h6.push (by decide)⟩,?_⟩;simp(disch:=decide) only[jb];assumption)) (λk L s hk hI hi hn=>?_) (λL s hI=>?_)
 ·refine⟨⟨(m,ts),by rw[Qbs];exact hR,rfl,rfl,by rw[hm];exact QaL _,H,((D.push (by decide)).push (by decide)).push (by decide)⟩,?_⟩;simp(disch:=decide) only[jb,jd]
 ·clear D c0 i1;obtain⟨⟨b,h1,h2,h3,h4,H,D⟩,i39⟩:=hI;obtain⟨c0,c1,c2,fr,i1,i2,i3,i4⟩:=id D;have hP:=O.procs _ (Qay hk);have n5:=H.nx5;have H1:=H.box zp4 (prE src.procs[k]);have k1:=gf n5 zp4 (prE src.procs[k]);have D1:=D.kq k1;have C10:=(Cl.new s zp4).wr0 (c':=prE src.procs[k]) rfl;unfold Yf at h1;rw[W5 hk] at h1;unfold zp4 at *;repeat'(first|(apply jc<;>intro _)|simp(disch:=first|exact dzG|fail) only[ja i1,ja i2,ja i3,ja i4,ja i39,ja hi,ja hn,je,jo,jL,jn,jf,qi,qh,jr,jt,jv,jx,ju,rzZ,Qab,Qac,Qad,Qaa,Qae])
  obtain⟨v1,v2,v3,ws,S⟩:=id H1;refine Ku hb S.cp S.mp _ _ _ _ _ ?_;have S1mp:=S.mp;clear S;by_cases hin:src.procs[k].name∈b.2
  ·rw[if_pos hin];have hp:Zc b src.procs[k]=.er 162 src.procs[k].line src.procs[k].col:=by unfold Zc XQ;rw[if_pos hin]
   rw[hp] at h1;rw[<-h1];exact UJ (D1.push (by decide))
  ·rw[if_neg hin];have hp:Zc b src.procs[k]=yh (λb r=>XR b.1 b.2 r) (b.1,b.2 ++ [src.procs[k].name]) src.procs[k].rules:=by unfold Zc XQ;rw[if_neg hin]
   have H2:=H1.take (b.2 ++ [src.procs[k].name]);have D2:=D1.kq ((Kq.refl:Kq 4 3 5 _ _).mp (mpl (b.2 ++ [src.procs[k].name])));have C10:Cl (Go.Sy.mp (Go.Sy.wr (Go.Sy.nw s [.str [],.nils,.int .i64 0,.int .i64 0]) s.nx 0 (prE src.procs[k])) 3 (mpl (b.2 ++ [src.procs[k].name]))) s.nx (prE src.procs[k]):=by rw[Vc (by omega)];exact C10
   have hrl:=hP.len;generalize Go.Sy.mp (Go.Sy.wr (Go.Sy.nw s [.str [],.nils,.int .i64 0,.int .i64 0]) s.nx 0 (prE src.procs[k])) 3 (mpl (b.2 ++ [src.procs[k].name]))=t1 at *;clear D1 H1 k1 S1mp
   (have zz:=C10.r;(repeat'(first|(apply jc<;>intro _)|simp(disch:=first|exact qu|fail) only[ja i1,ja i2,ja i3,ja i4,ja i39,ja hi,ja hn,C10.q,C10.r,je,jo,jL,jn,jf,qi,qh,jr,jt,jv,jx,ju,rzZ,Qab,Qac,Qad,Qaa,Qae]));(all_goals(clear zz)))
   refine qy src.procs[k].rules.length (λky L s=>(∃ c:MT,yh (λb r=>XR b.1 b.2 r) c (src.procs[k].rules.drop ky)=Zc b src.procs[k]/\c.1.vars=m.vars/\c.1.enums=m.enums/\c.1.moves.length<=1000 * k+ky/\MZ 4 3 5 c.1 c.2 s/\QS src L s)/\Has L 54 (.lst src.procs[k].rules.length (fl ruE src.procs[k].rules))/\Has L 39 (.lst src.procs.length (fl prE src.procs))/\Has L 41 (.int .i64 k)/\Has L 40 (.int .i64 src.procs.length)) (by first|assumption|omega) (by decide) (by simp(disch:=decide) only[jd,jb]) (by simp(disch:=decide) only[jd,jb]) ?_ (λk L s v h=>(by obtain⟨⟨c,g1,g2,g3,g4,g5,g6⟩,g7,g8,g9,g10⟩:=h;refine⟨⟨c,g1,g2,g3,g4,g5,g6.push (by decide)⟩,?_,?_,?_,?_⟩<;>simp(disch:=decide) only[jb]<;>assumption)) (λk L s v h=>(by obtain⟨⟨c,g1,g2,g3,g4,g5,g6⟩,g7,g8,g9,g10⟩:=h;refine⟨⟨c,g1,g2,g3,g4,g5,g6.push (by decide)⟩,?_,?_,?_,?_⟩<;>simp(disch:=decide) only[jb]<;>assumption)) (λky Ly sy hky hIy hiy hny=>?_) (λLy sy hIy=>?_)
   ·refine⟨⟨(b.1,b.2 ++ [src.procs[k].name]),by rw[Qbs];exact hp.symm,h2,h3,by omega,H2,(((D2.push (by decide)).push (by decide)).push (by decide)).push (by decide)⟩,?_⟩;simp(disch:=decide) only[jb,jd,true_and];exact⟨i39,hi,hn⟩
   ·obtain⟨⟨c,g1,g2,g3,g4,H3,D3⟩,j54,j39,j41,j40⟩:=hIy;obtain⟨c0',c1',c2',fr',i1',i2',i3',i4'⟩:=id D3;have hr:=hP.rules _ (Qay hky);have n5':=H3.nx5;have H4:=H3.box zr7 (ruE src.procs[k].rules[ky]);have k4:=gf n5' zr7 (ruE src.procs[k].rules[ky]);have D4:=D3.kq k4;have hlr:(ruE src.procs[k].rules[ky]).length=zr7.length:=by rw[wy];rfl
    have C12:=(Cl.new sy zr7).wr0 hlr;rw[W5 hky] at g1;unfold zr7 at *;repeat'(first|(apply jc<;>intro _)|simp(disch:=first|exact dzG|fail) only[ja i1',ja i2',ja i3',ja i4',ja j54,ja hiy,ja hny,je,jo,jL,jn,jf,qi,qh,jr,jt,jv,jx,ju,rzZ,Qab,Qac,Qad,Qaa,Qae])
    refine jpo hb _ (by rw[g2,g3];exact V) hr.1 hr.2.1 hr.2.2 (by omega) H4 _ _ ?_;cases hk1:XR c.1 c.2 src.procs[k].rules[ky] with
    |er x y z=>
     rw[hk1] at g1;rw[<-g1] at h1;intro s' k5;rw[<-h1];exact UJ ((D4.kq k5).push (by decide))
    |ok d=>
     rw[hk1] at g1;intro s' k5 H5;obtain⟨e,he⟩:=jbz hk1;repeat'(first|(apply jc<;>intro _)|simp(disch:=first|exact dzG|fail) only[je,jo,jL,jn,jf,qi,qh,jr,jt,jv,jx,ju,rzZ,Qab,Qac,Qad,Qaa,Qae])
     refine⟨⟨⟨d,g1,by rw[he];exact g2,by rw[he];exact g3,by rw[he];simp only[Qak,Qaj,Qan];omega,H5,(D4.kq k5).push (by decide)⟩,?_,?_,?_,?_⟩,?_,?_⟩<;>simp(disch:=decide) only[jb]<;>assumption
   ·obtain⟨⟨c,g1,g2,g3,g4,H3,D3⟩,j54,j39,j41,j40⟩:=hIy;rw[Qcn,yh] at g1;rw[<-g1] at h1;repeat'(first|(apply jc<;>intro _)|simp(disch:=first|exact dzG|fail) only[je,jo,jL,jn,jf,qi,qh,jr,jt,jv,jx,ju,rzZ,Qab,Qac,Qad,Qaa,Qae])
    refine⟨⟨⟨c,h1,g2,g3,by omega,H3,D3⟩,?_⟩,?_,?_⟩<;>assumption
 ·obtain⟨⟨b,h1,h2,h3,h4,H,D⟩,i39⟩:=hI;rw[Qcn] at h1;unfold Yf at h1;rw[yh] at h1;rw[<-h1];repeat'(first|(apply jc<;>intro _)|simp(disch:=first|exact dzG|fail) only[je,jo,jL,jn,jf,qi,qh,jr,jt,jv,jx,ju,rzZ,Qab,Qac,Qad,Qaa,Qae])
  exact m_d D H
end Go.Sy
end
noncomputable section
set_option maxRecDepth 100000
namespace Go.Sy
open Go.Ev Go.Proofs
variable {base:Bs}
theorem MX.mz {m:ModT}{ts:List (List Nat)}{s:St}(h:MX 4 3 5 m ts s)(hm:m.moves=[]):MZ 4 3 5 m ts s:=by
 obtain⟨v1,v2,v3,S⟩:=h;exact⟨v1,v2,v3,[],S.mr hm⟩
def zd7:List AV:=[.str [],.str [],.int .i64 0,.int .i64 0,.nils,.int .i64 0,.int .i64 0]
def ze4:List AV:=[.str [],.nils,.int .i64 0,.int .i64 0]
set_option maxHeartbeats 8000000 in
theorem m_b (hb:NB base){src:SrcT}{L:Sl}{s:St}(D:QS src L s){m:ModT}{ts:List (List Nat)}(V:VarsOK m.vars m.enums)(hm:m.moves=[])(hv0:m.vars=[])(O:SrcOK src)(H:MX 4 3 5 m ts s)(R:KR MT)(hR:(match vI (m,ts) src.vars with | .er a c d=>.er a c d | .ok b=>Yf b src.procs)=R):xC Qaf base jeN L s (mQ base R) (mP base R):=by
 have c0:=D.c0;have i1:=D.i1;have onv:=O.nv;rw[(by unfold jeN;simp only[qq];rfl:jeN=_)]
 (have zz:=@c0.r;(repeat'(first|(apply jc<;>intro _)|simp(disch:=first|exact qu|fail) only[ja i1,c0.q,c0.r,je,jo,jL,jn,jf,qi,qh,jr,jt,jv,jx,ju,rzZ,Qab,Qac,Qad,Qaa,Qae]));(all_goals(clear zz)))
 refine qy src.vars.length (λk L s=>(∃ b:MT,(match vI b (src.vars.drop k) with | .er a c d=>.er a c d | .ok b=>Yf b src.procs)=R/\b.1.moves=[]/\b.1.vars.length<=k/\VarsOK b.1.vars b.1.enums/\MX 4 3 5 b.1 b.2 s/\QS src L s)/\Has L 28 (.lst src.vars.length (fl qm src.vars))) (by first|assumption|omega) (by decide) (by simp(disch:=decide) only[jd,jb]) (by simp(disch:=decide) only[jd,jb]) ?_ (λk L s v h=>(by obtain⟨⟨b,h1,h2,h3,h4,h5,h6⟩,h7⟩:=h;refine⟨⟨b,h1,h2,h3,h4,h5,h6.push (by decide)⟩,?_⟩;simp(disch:=decide) only[jb];assumption)) (λk L s v h=>(by obtain⟨⟨b,h1,h2,h3,h4,h5,h6⟩,h7⟩:=h;refine⟨⟨b,h1,h2,h3,h4,h5,h6.push (by decide)⟩,?_⟩;simp(disch:=decide) only[jb];assumption)) (λk L s hk hI hi hn=>?_) (λL s hI=>?_)
 ·refine⟨⟨(m,ts),by rw[Qbs];exact hR,hm,by rw[hv0];exact QaL _,V,H,((D.push (by decide)).push (by decide)).push (by decide)⟩,?_⟩;simp(disch:=decide) only[jb,jd]
 ·clear D c0 i1 H V hm hv0;obtain⟨⟨b,h1,hm,h3,V,H,D⟩,i28⟩:=hI;obtain⟨c0,c1,c2,fr,i1,i2,i3,i4⟩:=id D;have hd:=O.vars _ (Qay hk);have n5:=H.nx5;have H1:=H.box zd7 (qm src.vars[k]);have k1:=gf n5 zd7 (qm src.vars[k]);have D1:=D.kq k1;have C10:=(Cl.new s zd7).wr0 (c':=qm src.vars[k]) rfl;unfold vI at h1;rw[W5 hk] at h1;unfold zd7 at *;repeat'(first|(apply jc<;>intro _)|simp(disch:=first|exact dzG|fail) only[ja i1,ja i2,ja i3,ja i4,ja i28,ja hi,ja hn,je,jo,jL,jn,jf,qi,qh,jr,jt,jv,jx,ju,rzZ,Qab,Qac,Qad,Qaa,Qae])
  refine jqs hb _ V (by omega) hd.ex hd.len hd.lo hd.hi H1 _ _ ?_;cases hk1:Zj b.1 b.2 src.vars[k] with
  |er x y z=>
   rw[hk1] at h1;intro s' k5;rw[<-h1];exact UJ ((D1.kq k5).push (by decide))
  |ok d=>
   rw[hk1] at h1;intro s' k5 H5;obtain⟨v,he,hv⟩:=jcC V.vals hd hk1;repeat'(first|(apply jc<;>intro _)|simp(disch:=first|exact dzG|fail) only[je,jo,jL,jn,jf,qi,qh,jr,jt,jv,jx,ju,rzZ,Qab,Qac,Qad,Qaa,Qae])
   refine⟨⟨⟨d,h1,by rw[he];exact hm,by rw[he];simp only[Qak,Qaj,Qan];omega,?_,H5,(D1.kq k5).push (by decide)⟩,?_⟩,?_,?_⟩
   ·rw[he];refine⟨by simp only[Qak,Qaj,Qan];omega,V.len2,V.vals,λu hu=>?_⟩;rcases Qbk.1 hu with hu|hu
    ·exact V.ends u hu
    ·simp only[QbP] at hu;rw[hu];exact hv
   all_goals(simp(disch:=decide) only[jb];assumption)
 ·obtain⟨⟨b,h1,hm,h3,V,H,D⟩,i28⟩:=hI;rw[Qcn] at h1;unfold vI at h1;rw[yh] at h1;dsimp only at h1;rw[<-h1];repeat'(first|(apply jc<;>intro _)|simp(disch:=first|exact dzG|fail) only[je,jo,jL,jn,jf,qi,qh,jr,jt,jv,jx,ju,rzZ,Qab,Qac,Qad,Qaa,Qae])
  exact m_c hb D V hm O (H.mz hm)
set_option maxHeartbeats 8000000 in
theorem m_a (hb:NB base){src:SrcT}{L:Sl}{s:St}(D:QS src L s)(O:SrcOK src)(H:MX 4 3 5 md0 [] s):xC Qaf base jeO L s (mQ base (Qh src)) (mP base (Qh src)):=by
 have c0:=D.c0;have i1:=D.i1;have one:=O.ne;generalize hR:Qh src=R;unfold Qh at hR;rw[(by unfold jeO;simp only[qq];rfl:jeO=_)]
 (have zz:=@c0.r;(repeat'(first|(apply jc<;>intro _)|simp(disch:=first|exact qu|fail) only[ja i1,c0.q,c0.r,je,jo,jL,jn,jf,qi,qh,jr,jt,jv,jx,ju,rzZ,Qab,Qac,Qad,Qaa,Qae]));(all_goals(clear zz)))
 refine qy src.enums.length (λk L s=>(∃ b:MT,(match V7 b (src.enums.drop k) with | .er a c d=>.er a c d | .ok b=>(match vI b src.vars with | .er a c d=>.er a c d | .ok b=>Yf b src.procs))=R/\b.1.moves=[]/\b.1.vars=[]/\b.1.enums.length<=k/\(∀ e∈b.1.enums,e.vals.length<=1000000)/\MX 4 3 5 b.1 b.2 s/\QS src L s)/\Has L 17 (.lst src.enums.length (fl enE src.enums))) (by first|assumption|omega) (by decide) (by simp(disch:=decide) only[jd,jb]) (by simp(disch:=decide) only[jd,jb]) ?_ (λk L s v h=>(by obtain⟨⟨b,h1,h2,h3,h4,h4b,h5,h6⟩,h7⟩:=h;refine⟨⟨b,h1,h2,h3,h4,h4b,h5,h6.push (by decide)⟩,?_⟩;simp(disch:=decide) only[jb];assumption)) (λk L s v h=>(by obtain⟨⟨b,h1,h2,h3,h4,h4b,h5,h6⟩,h7⟩:=h;refine⟨⟨b,h1,h2,h3,h4,h4b,h5,h6.push (by decide)⟩,?_⟩;simp(disch:=decide) only[jb];assumption)) (λk L s hk hI hi hn=>?_) (λL s hI=>?_)
 ·refine⟨⟨(md0,[]),by rw[Qbs];exact hR,rfl,rfl,QaL _,(λe he=>by cases he),H,((D.push (by decide)).push (by decide)).push (by decide)⟩,?_⟩;simp(disch:=decide) only[jb,jd]
 ·clear D c0 i1 H;obtain⟨⟨b,h1,hm,h3,h4,hv,H,D⟩,i17⟩:=hI;obtain⟨c0,c1,c2,fr,i1,i2,i3,i4⟩:=id D;have hd:=O.vals _ (Qay hk);have n5:=H.nx5;have H1:=H.box ze4 (enE src.enums[k]);have k1:=gf n5 ze4 (enE src.enums[k]);have D1:=D.kq k1;have C10:=(Cl.new s ze4).wr0 (c':=enE src.enums[k]) rfl;unfold V7 at h1;rw[W5 hk] at h1;unfold ze4 at *;repeat'(first|(apply jc<;>intro _)|simp(disch:=first|exact dzG|fail) only[ja i1,ja i2,ja i3,ja i4,ja i17,ja hi,ja hn,je,jo,jL,jn,jf,qi,qh,jr,jt,jv,jx,ju,rzZ,Qab,Qac,Qad,Qaa,Qae])
  refine jqm hb (λvs h h2=>jnE hb vs h h2) _ hd.1 hd.2 (by omega) H1 _ _ ?_;cases hk1:wH b.1 b.2 src.enums[k] with
  |er x y z=>
   rw[hk1] at h1;intro s' k5;rw[<-h1];exact UJ ((D1.kq k5).push (by decide))
  |ok d=>
   rw[hk1] at h1;intro s' k5 H5;have he:=kX hk1;repeat'(first|(apply jc<;>intro _)|simp(disch:=first|exact dzG|fail) only[je,jo,jL,jn,jf,qi,qh,jr,jt,jv,jx,ju,rzZ,Qab,Qac,Qad,Qaa,Qae])
   refine⟨⟨⟨d,h1,by rw[he];exact hm,by rw[he];exact h3,by rw[he];simp only[Qak,Qaj,Qan];omega,?_,H5,(D1.kq k5).push (by decide)⟩,?_⟩,?_,?_⟩
   ·rw[he];intro u hu;rcases Qbk.1 hu with hu|hu
    ·exact hv u hu
    ·simp only[QbP] at hu;rw[hu];exact hd.2
   all_goals(simp(disch:=decide) only[jb];assumption)
 ·obtain⟨⟨b,h1,hm,h3,h4,hv,H,D⟩,i17⟩:=hI;rw[Qcn] at h1;unfold V7 at h1;rw[yh] at h1;dsimp only at h1;repeat'(first|(apply jc<;>intro _)|simp(disch:=first|exact dzG|fail) only[je,jo,jL,jn,jf,qi,qh,jr,jt,jv,jx,ju,rzZ,Qab,Qac,Qad,Qaa,Qae])
  exact m_b hb D ⟨by rw[h3];exact QaL _,by omega,hv,λv hv=>by rw[h3] at hv;cases hv⟩ hm h3 O H R h1
set_option maxHeartbeats 8000000 in
theorem jnh (hb:NB base)(src:SrcT)(O:SrcOK src):Tot base 26 [.agg (srE src)] (Us (Qh src)):=by
 refine hb.tot ?_ (by first|rfl|simp[pa,pc,q8,Qs,wx,JI,Jj,UD,Uv,XN,Za,Zf,Yt,Yp]) rfl;refine WE x26 (hb.pur 26 1 (by decide)) ?_;simp only[y26,jp,Qai,Qal,Qag,Qah];rw[(by unfold z26;simp only[qq];rfl:z26=_)];repeat'(first|(apply jc<;>intro _)|simp(disch:=first|exact dzG|fail) only[wj,jrF,jq9,je,jo,jL,jn,jf,qi,qh,jr,jt,jv,jx,ju,rzZ,Qab,Qac,Qad,Qaa,Qae])
 obtain⟨X,hX⟩:∃ X,X=Go.Sy.nw (Go.Sy.nw (Go.Sy.nw st0 (srE src)) [.nils,.nils,.nils]) [.int .i64 0,.int .i64 0,.int .i64 0]:=⟨_,rfl⟩;have X2:Cl X 2 [.int .i64 0,.int .i64 0,.int .i64 0]:=by rw[hX];exact Cl.new _ _
 have X1:Cl X 1 [.nils,.nils,.nils]:=by rw[hX];exact(Cl.new _ _).nw _
 have X0:Cl X 0 (srE src):=by rw[hX];exact((Cl.new _ _).nw _).nw _
 have Xn:X.nx=3:=by rw[hX];rfl
 have Xf:X.fr=[]:=by rw[hX];rfl
 rw[<-hX];have hn4:(nmp (df (59,[.ptr 2 0]) X)).nx=4:=by show X.nx+1=4;omega
 have hc:(AV.nils :: AV.nils :: AV.nils :: upd [AV.nilm,AV.bool false] 0 (AV.map 3).cells)=[.nils,.nils,.nils,.map 3,.bool false]:=rfl;rw[hn4,hc];have Y:∀ c cs,c<3->Cl X c cs->Cl (Go.Sy.nw (nmp (df (59,[.ptr 2 0]) X)) [.nils,.nils,.nils,.map 3,.bool false]) c cs:=λc cs h3 h=>by
  refine h.keep ?_ ?_
  ·rw[jg,hn4];omega
  ·rw[JQ (by omega),jim,if_neg (by show c≠X.nx;omega)];rfl
 have C4:Cl (Go.Sy.nw (nmp (df (59,[.ptr 2 0]) X)) [.nils,.nils,.nils,.map 3,.bool false]) 4 [.nils,.nils,.nils,.map 3,.bool false]:=hn4▸Cl.new (nmp (df (59,[.ptr 2 0]) X)) _;have M3:Mp (Go.Sy.nw (nmp (df (59,[.ptr 2 0]) X)) [.nils,.nils,.nils,.map 3,.bool false]) 3 []:=by
  have h:Mp (nmp (df (59,[.ptr 2 0]) X)) X.nx []:=Mp.new (df (59,[.ptr 2 0]) X);rw[Xn] at h;exact h.nw _
 have n5:(Go.Sy.nw (nmp (df (59,[.ptr 2 0]) X)) [.nils,.nils,.nils,.map 3,.bool false]).nx=5:=by rw[jg,hn4]
 refine m_a hb ⟨Y _ _ (by decide) X0,Y _ _ (by decide) X1,Y _ _ (by decide) X2,?_,?_,?_,?_,?_⟩ O ⟨.nils,.nils,.nils,C4,M3,Lv.nil,Lv.nil,Lv.nil,trivial,trivial,trivial,by decide,by decide,by decide,by omega,Qaq _⟩
 ·show(59,[AV.ptr 2 0]) :: X.fr=_;rw[Xf]
 all_goals simp(disch:=decide) only[jb,jd]
end Go.Sy
end
noncomputable section
set_option maxRecDepth 100000
namespace Go.Sy
open Go.Ev Go.Proofs
variable {base:Bs}
def je4 (r:KR Ex):AV:=match r with
 |.er c l k=>.tup [.agg (eE ex0),.agg (fcl c l k)]
 |.ok y=>.tup [.agg (eE y),.agg (fcl 0 0 0)]
set_option maxHeartbeats 4000000 in
theorem jir (hb:NB base)(m:ModT)(V:VarsOK m.vars m.enums)(x:Ex)(hx:OkE x):PX Qaf base 25 [.agg (mdE m),.agg (eE x)] (.ok (je4 (yD m.vars m.enums true x 2 []))):=by
 refine WE x25 (hb.pur 25 1 (by decide)) ?_;simp only[y25,jp,Qai,Qal,Qag,Qah];rw[(by unfold z25;simp only[qq];rfl:z25=_)];have uq:upd [.nils,.nils,.nils,.nilm,.bool false] 0 (mdE m)=[.lst m.vars.length (fl vaE m.vars),.lst m.enums.length (fl enE m.enums),.lst m.moves.length (fl moE m.moves),.nilm,.bool false]:=rfl;repeat'(first|(apply jc<;>intro _)|simp(disch:=first|exact dzG|fail) only[wj,YN,Vn,Vm (base:=base),uq,je,jo,jL,jn,jf,qi,qh,jr,jt,jv,jx,ju,rzZ,Qab,Qac,Qad,Qaa,Qae])
 obtain⟨X,hX⟩:∃ X,X=Go.Sy.nw (Go.Sy.nw (Go.Sy.nw (Go.Sy.nw st0 (mdE m)) (eE x)) [.int .i64 0,.int .i64 0,.str [],.nils,.int .i64 0,.int .i64 0]) [.int .i64 0,.int .i64 0,.int .i64 0]:=⟨_,rfl⟩;rw[<-hX];have X3:Cl X 3 [.int .i64 0,.int .i64 0,.int .i64 0]:=by rw[hX];exact Cl.new _ _
 have X2:Cl X 2 [.int .i64 0,.int .i64 0,.str [],.nils,.int .i64 0,.int .i64 0]:=by rw[hX];exact(Cl.new _ _).nw _
 have X1:Cl X 1 (eE x):=by rw[hX];exact((Cl.new _ _).nw _).nw _
 have Xn:X.nx=4:=by rw[hX];rfl
 have Xf:X.fr=[]:=by rw[hX];rfl
 obtain⟨S,hS⟩:∃ S,S=Go.Sy.nw (df (59,[.ptr 3 0]) X) [.lst m.vars.length (fl vaE m.vars),.lst m.enums.length (fl enE m.enums),.lst m.moves.length (fl moE m.moves),.nilm,.bool true]:=⟨_,rfl⟩;rw[<-hS];have hn4:(df (59,[.ptr 3 0]) X).nx=4:=Xn;have Y:∀ c cs,c<4->Cl X c cs->Cl S c cs:=λc cs h3 h=>by
  rw[hS];refine h.keep ?_ ?_
  ·rw[jg,hn4];omega
  ·rw[JQ (by omega)];rfl
 have C1:=Y _ _ (by decide) X1;have C2:=Y _ _ (by decide) X2;have C3:=Y _ _ (by decide) X3;have C4:Cl S 4 [.lst m.vars.length (fl vaE m.vars),.lst m.enums.length (fl enE m.enums),.lst m.moves.length (fl moE m.moves),.nilm,.bool true]:=by rw[hS];exact hn4▸Cl.new (df (59,[.ptr 3 0]) X) _
 have Sf:S.fr=[(59,[.ptr 3 0])]:=by
  rw[hS];show(59,[AV.ptr 3 0]) :: X.fr=_;rw[Xf]
 clear hS Y X1 X2 X3 Xn Xf hX uq hn4;refine Up hb V _ hx.2 (YO _ hx.1) _ _ (fm:=true) (mm:=.nilm) (v3:=.lst m.moves.length (fl moE m.moves)) ⟨C4,.inl rfl,.inl rfl,(λb k z x h=>by cases h),(λb k z x h=>by cases h)⟩ _ _ ?_;cases hr:yD m.vars m.enums true x 2 [] with
 |er a b c=>
  intro s' k2;have E1:=k2.cl C1 (by decide);have E2:=k2.cl C2 (by decide);have E3:=k2.cl C3 (by decide);have l3:=E3.len;have n3:=E3.lt;have hf:s'.fr=[(59,[.ptr 3 0])]:=k2.fr.trans Sf
  (have zz:=aI @Qb (aI C1.r (aI C2.r (aI C3.r (aI E1.r (aI E2.r E3.r)))));(repeat'(first|(apply jc<;>intro _)|simp(disch:=first|exact qu|fail) only[YN,Vn,Vm (base:=base),Qw,YD,Qt (f:=59) (vs:=[.ptr 3 0]),JR (f:=59) (vs:=[.ptr 3 0]),gJ,jav,C1.q,C2.q,C3.q,E1.q,E2.q,E3.q,Qb,C1.r,C2.r,C3.r,E1.r,E2.r,E3.r,je,jo,jL,jn,jf,qi,qh,jr,jt,jv,jx,ju,rzZ,Qab,Qac,Qad,Qaa,Qae]));(all_goals(clear zz)))
  exact FzD.tup (.cons YH (.cons (.agg (.pc (by rfl))) .nil))
 |ok y=>
  intro s' k2 D4;have E1:=k2.cl C1 (by decide);have E2:=k2.cl C2 (by decide);have E3:=k2.cl C3 (by decide);have l3:=E3.len;have n3:=E3.lt;have hf:s'.fr=[(59,[.ptr 3 0])]:=k2.fr.trans Sf
  (have zz:=aI @Qb (aI C1.r (aI C2.r (aI C3.r (aI E1.r (aI E2.r E3.r)))));(repeat'(first|(apply jc<;>intro _)|simp(disch:=first|exact qu|fail) only[YN,Vn,Vm (base:=base),Qw,YD,Qt (f:=59) (vs:=[.ptr 3 0]),JR (f:=59) (vs:=[.ptr 3 0]),gJ,jav,C1.q,C2.q,C3.q,E1.q,E2.q,E3.q,Qb,C1.r,C2.r,C3.r,E1.r,E2.r,E3.r,je,jo,jL,jn,jf,qi,qh,jr,jt,jv,jx,ju,rzZ,Qab,Qac,Qad,Qaa,Qae]));(all_goals(clear zz)))
  exact FzD.tup (.cons (.agg (.pc (q8 y))) (.cons (.agg (.pc (by rfl))) .nil))
theorem jiq (hb:NB base)(m:ModT)(V:VarsOK m.vars m.enums)(x:Ex)(hx:OkE x):Tot base 25 [.agg (mdE m),.agg (eE x)] (je4 (yD m.vars m.enums true x 2 [])):=hb.tot (jir hb m V x hx) (by first|rfl|simp[pa,pc,q8,Qs,wx,JI,Jj,UD,Uv,XN,Za,Zf,Yt,Yp]) rfl
end Go.Sy
end
noncomputable section
set_option maxRecDepth 100000
namespace Go.Sy
open Go.Ev Go.Proofs
variable {base:Bs}
mutual
theorem jbB:∀ (d:Nat) (x:Ex),yv d x=true->zF x=true/\ZR x=true
 |0,_,h=>by cases h
 |d+1,.mk op num name ks l c,h=>by
  rw[vn] at h;simp only[Qar,decide_eq_true_eq] at h;obtain⟨⟨⟨⟨h1,h2⟩,h3⟩,h4⟩,h5⟩:=h;have h3:(ks.length:Int)=if 5<=op/\op<=13 then 1 else if 14<=op/\op<31 then 2 else 0:=h3
  obtain⟨k1,k2⟩:=GX d ks h5;refine⟨?_,?_⟩
  ·rw[zF,Qar,decide_eq_true_eq];refine⟨?_,k1⟩;split at h3
   ·omega
   ·split at h3<;>omega
  ·rw[ZR,Qar,Qbc,Qar,decide_eq_true_eq,decide_eq_true_eq,decide_eq_true_eq];refine⟨?_,k2⟩;by_cases ho:op=1
   ·right;unfold wC at h4;rw[if_pos (show Ex.op (.mk op num name ks l c)=1 from ho)] at h4;simp only[Qar,decide_eq_true_eq] at h4;have h6:(0:Int)<=num:=h4.1.1;have h7:num<=1000000:=h4.1.2;omega
   ·exact .inl ho
theorem GX:∀ (d:Nat) (xs:List Ex),xs.all (yv d)=true->zU xs=true/\Qy xs=true
 |_,[],_=>⟨rfl,rfl⟩
 |d,x :: xs,h=>by
  rw[QaY,Qar] at h;obtain⟨a1,a2⟩:=jbB d x h.1;obtain⟨b1,b2⟩:=GX d xs h.2;rw[zU,Qy,Qar,Qar];exact⟨⟨a1,b1⟩,⟨a2,b2⟩⟩
end
theorem vQ {ts:List Tk}(W:Wds ts){i j:Nat}{x:Ex}(hi:i<ts.length)(h:yC ts i=.ok x j):OkE x:=jbB 60 x (yZ W hi h).2.2.2
theorem jgA:∀ {ts:List Tk} {n i j:Nat} {vs ws:List (List Nat)},vs.length<=32->QO ts n i vs=.ok ws j->vs.length<ws.length/\ws.length<=32
 |ts,0,i,j,vs,ws,hv,h=>by cases h
 |ts,n+1,i,j,vs,ws,hv,h=>by
  rw[QO] at h;split at h
  ·split at h
   ·cases h
   ·split at h
    ·have:=jgA (by simp;omega) h;simp at this;omega
    ·split at h
     ·cases h;simp;omega
     ·cases h
  ·cases h
theorem jqk {ts:List Tk}{i j:Nat}{e:EnumT}(h:Xd ts i=.ok e j):0<e.vals.length/\e.vals.length<=1000000:=by
 unfold Xd at h;split at h
 ·split at h
  ·split at h
   ·rename_i vs k hv;cases h;have:=jgA (by simp) hv;dsimp only;omega
   ·cases h
  ·cases h
 ·cases h
theorem jl4 {ts:List Tk}(N:Nbs ts){i j:Nat}{n:Int}(h:Xp ts i=.ok n j) : -100000000<=n/\n<=100000000:=by
 unfold Xp at h;split at h
 ·split at h
  ·have:=N (i+1);cases h;omega
  ·cases h
 ·split at h
  ·have:=N i;cases h;omega
  ·cases h
theorem jra {ts:List Tk}(N:Nbs ts){i j:Nat}{y:List Nat×Int×Int}(h:Zv ts i=.ok y j):(-100000000<=y.2.1/\y.2.1<=100000000)/\(-100000000<=y.2.2/\y.2.2<=100000000):=by
 unfold Zv at h;split at h
 ·cases h;dsimp only;omega
 ·split at h
  ·cases h;dsimp only;omega
  ·split at h
   ·cases h
   ·rename_i lo k h1;split at h
    ·split at h
     ·cases h
     ·rename_i hi k2 h2;cases h;exact⟨jl4 N h1,jl4 N h2⟩
    ·cases h
theorem jrO {ts:List Tk}(W:Wds ts){i j:Nat}{bs:List Ex}(hi:i<ts.length)(h:XL ts i=.ok bs j):(∀ x∈bs,OkE x)/\bs.length<=1:=by
 unfold XL at h;split at h
 ·rename_i c;have hi1:=W.isM hi c;split at h
  ·cases h
  ·rename_i x k hx;split at h
   ·cases h;exact⟨λy hy=>by simp at hy;rw[hy];exact vQ W hi1 hx,by simp⟩
   ·cases h
 ·split at h
  ·cases h;exact⟨(λy hy=>by cases hy),by simp⟩
  ·cases h
theorem jqq {ts:List Tk}(W:Wds ts)(N:Nbs ts){i j:Nat}{d:DeclT}(hi:i<ts.length)(h:J7 ts i=.ok d j):DeclOK d:=by
 unfold J7 at h;split at h
 ·rename_i k1;have hi1:=W.next i hi (by omega)
  split at h
  ·rename_i c1;have hi2:=W.isM hi1 c1;split at h
   ·cases h
   ·rename_i y k hy;have hk:=jg6 W hi2 hy;split at h
    ·cases h
    ·rename_i bs k2 hb;cases h;obtain⟨a,b⟩:=jra N hy;obtain⟨c,d⟩:=jrO W hk.2 hb;exact⟨c,by dsimp only;omega,a,b⟩
  ·cases h
 ·cases h
theorem ji6 {ts:List Tk}(W:Wds ts):∀ {n i j:Nat} {vs ws:List AsT},i<ts.length->(∀ a∈vs,OkE a.to)->vs.length<=32->Ju ts n i vs=.ok ws j->(∀ a∈ws,OkE a.to)/\ws.length<=32
 |0,i,j,vs,ws,hi,hv,hl,h=>by cases h
 |n+1,i,j,vs,ws,hi,hv,hl,h=>by
  rw[Ju] at h;by_cases k1:(tk ts i).kind=1
  ·simp only[if_pos k1] at h;have hi1:=W.next i hi (by omega)
   by_cases h32:32<=vs.length
   ·simp only[if_pos h32] at h;cases h
   simp only[if_neg h32] at h;by_cases c1:isM (tk ts (i+1)) [[58,61]]=true
   ·simp only[if_pos c1] at h;have hi2:=W.isM hi1 c1;cases h1:yC ts (i+2) with
    |er t=>rw[h1] at h;cases h
    |ok x k=>
     rw[h1] at h;dsimp only at h;have hj:=yZ W hi2 h1;have hx:=vQ W hi2 h1;have hv2:∀ l c nm,∀ a∈vs ++ [(⟨nm,x,l,c⟩:AsT)],OkE a.to:=λl c nm a ha=>by
      rcases Qbk.1 ha with ha|ha
      ·exact hv a ha
      ·simp at ha;rw[ha];exact hx
     by_cases c2:isM (tk ts k) [[44]]=true
     ·simp only[if_pos c2] at h;exact ji6 W (W.isM hj.2.1 c2) (hv2 _ _ _) (by simp;omega) h
     ·simp only[if_neg c2] at h;split at h
      ·cases h;exact⟨hv2 _ _ _,by simp;omega⟩
      ·cases h
   ·simp only[if_neg c1] at h;cases h
  ·simp only[if_neg k1] at h;cases h
theorem jpm {ts:List Tk}(W:Wds ts){i j:Nat}{r:RuleT}(hi:i<ts.length)(h:JC ts i=.ok r j):OkE r.when/\(∀ a∈r.acts,OkE a.to)/\r.acts.length<=1000000:=by
 unfold JC at h;cases h1:yC ts i with
 |er t=>rw[h1] at h;cases h
 |ok x k=>
  rw[h1] at h;dsimp only at h;have hj:=yZ W hi h1;by_cases c1:isM (tk ts k) [[100,111]]=true
  ·simp only[if_pos c1] at h;cases h2:Ju ts ts.length (k+1) [] with
   |er t=>rw[h2] at h;cases h
   |ok vs k2=>
    rw[h2] at h;cases h;have:=ji6 (vs:=[]) W (W.isM hj.2.1 c1) (λa ha=>by cases ha) (QaL _) h2;exact⟨vQ W hi h1,this.1,by dsimp only;omega⟩
  ·simp only[if_neg c1] at h;cases h
theorem jdF {ts:List Tk}(W:Wds ts):∀ {n i j:Nat} {vs ws:List RuleT},i<ts.length->(∀ r∈vs,OkE r.when/\(∀ a∈r.acts,OkE a.to)/\r.acts.length<=1000000)->vs.length<=32->y8 ts n i vs=.ok ws j->(∀ r∈ws,OkE r.when/\(∀ a∈r.acts,OkE a.to)/\r.acts.length<=1000000)/\ws.length<=32
 |0,i,j,vs,ws,hi,hv,hl,h=>by cases h
 |n+1,i,j,vs,ws,hi,hv,hl,h=>by
  rw[y8] at h;by_cases c1:isM (tk ts i) [[119,104,101,110]]=true
  ·simp only[if_pos c1] at h;have hi1:=W.isM hi c1;by_cases h32:32<=vs.length
   ·simp only[if_pos h32] at h;cases h
   simp only[if_neg h32] at h;cases h1:JC ts (i+1) with
   |er t=>rw[h1] at h;cases h
   |ok r k=>
    rw[h1] at h;dsimp only at h;refine jdF W (Gk W hi1 h1).2 (λa ha=>?_) (by simp;omega) h;rcases Qbk.1 ha with ha|ha
    ·exact hv a ha
    ·simp at ha;rw[ha];exact jpm W hi1 h1
  ·simp only[if_neg c1] at h;split at h
   ·cases h;exact⟨hv,hl⟩
   ·cases h
theorem jpy {ts:List Tk}(W:Wds ts){i j:Nat}{p:ProcT}(hi:i<ts.length)(h:J5 ts i=.ok p j):ProcOK p:=by
 unfold J5 at h;split at h
 ·rename_i k1;have hi1:=W.next i hi (by omega)
  split at h
  ·rename_i c1;have hi2:=W.isM hi1 c1;split at h
   ·rename_i vs k hv;cases h;have:=jdF (vs:=[]) W hi2 (λa ha=>by cases ha) (QaL _) hv;exact⟨by dsimp only;omega,this.1⟩
   ·cases h
  ·cases h
 ·cases h
theorem jaf {ts:List Tk}(W:Wds ts)(N:Nbs ts):∀ {n i j:Nat} {m w:SrcT},i<ts.length->SrcOK m->m.enums.length<=32->m.vars.length<=32->m.procs.length<=32->yq ts n i m=.ok w j->SrcOK w/\w.enums.length<=32/\w.vars.length<=32/\w.procs.length<=32
 |0,i,j,m,w,hi,hm,h1,h2,h3,h=>by cases h
 |n+1,i,j,m,w,hi,hm,h1,h2,h3,h=>by
  rw[yq] at h;by_cases c:isM (tk ts i) [[101,110,117,109],[118,97,114],[112,114,111,99,101,115,115]]=true
  ·simp only[if_pos c] at h;have hi1:=W.isM hi c;by_cases c1:(tk ts i).text=[101,110,117,109]
   ·simp only[if_pos c1] at h;by_cases hr:32<=m.enums.length
    ·simp only[if_pos hr] at h;cases h
    simp only[if_neg hr] at h;cases he:Xd ts (i+1) with
    |er t=>rw[he] at h;cases h
    |ok e k=>
     rw[he] at h;refine jaf (m:={ m with enums:=m.enums ++ [e] }) W N (jeh W hi1 he).2 ⟨by simp;omega,hm.nv,hm.np,λa ha=>?_,hm.vars,hm.procs⟩ (by simp;omega) h2 h3 h;rcases Qbk.1 ha with ha|ha
     ·exact hm.vals a ha
     ·simp at ha;rw[ha];exact jqk he
   simp only[if_neg c1] at h;by_cases c2:(tk ts i).text=[118,97,114]
   ·simp only[if_pos c2] at h;by_cases hr:32<=m.vars.length
    ·simp only[if_pos hr] at h;cases h
    simp only[if_neg hr] at h;cases he:J7 ts (i+1) with
    |er t=>rw[he] at h;cases h
    |ok e k=>
     rw[he] at h;refine jaf (m:={ m with vars:=m.vars ++ [e] }) W N (jel W hi1 he).2 ⟨hm.ne,by simp;omega,hm.np,hm.vals,λa ha=>?_,hm.procs⟩ h1 (by simp;omega) h3 h;rcases Qbk.1 ha with ha|ha
     ·exact hm.vars a ha
     ·simp at ha;rw[ha];exact jqq W N hi1 he
   ·simp only[if_neg c2] at h;by_cases hr:32<=m.procs.length
    ·simp only[if_pos hr] at h;cases h
    simp only[if_neg hr] at h;cases he:J5 ts (i+1) with
    |er t=>rw[he] at h;cases h
    |ok e k=>
     rw[he] at h;refine jaf (m:={ m with procs:=m.procs ++ [e] }) W N (jdO W hi1 he).2 ⟨hm.ne,hm.nv,by simp;omega,hm.vals,hm.vars,λa ha=>?_⟩ h1 h2 (by simp;omega) h;rcases Qbk.1 ha with ha|ha
     ·exact hm.procs a ha
     ·simp at ha;rw[ha];exact jpy W hi1 he
  ·simp only[if_neg c] at h;split at h
   ·cases h;exact⟨hm,h1,h2,h3⟩
   ·cases h
theorem jdB {l:List Nat}(h:(zB l).2.1=0):SrcOK (zB l).1:=by
 unfold zB at h ⊢;by_cases c:(qb l).2.1≠0
 ·rw[if_pos c] at h;exact absurd h c
 ·rw[if_neg c] at h ⊢;have c0:(qb l).2.1=0:=by simpa using c
  obtain⟨W,ne,_⟩:=gH c0;cases hr:yq (qb l).1 (qb l).1.length 0 QP with
  |er t=>rw[hr] at h;exact absurd h (λh=>by cases h)
  |ok m j=>exact(jaf W (jiP c0) (Qcc.2 ne) ⟨by decide,by decide,by decide,(λa ha=>by cases ha),(λa ha=>by cases ha),(λa ha=>by cases ha)⟩ (by decide) (by decide) (by decide) hr).1
theorem jkY {l:List Nat}(h:(ya l).2.1=0):OkE (ya l).1:=by
 unfold ya at h ⊢;by_cases c:(qb l).2.1≠0
 ·rw[if_pos c] at h;exact absurd h c
 ·rw[if_neg c] at h ⊢;have c0:(qb l).2.1=0:=by simpa using c
  obtain⟨W,ne,_⟩:=gH c0;cases hr:yC (qb l).1 0 with
  |er t=>rw[hr] at h;exact absurd h (λh=>by cases h)
  |ok x j=>
   rw[hr] at h;dsimp only at h ⊢;by_cases k5:(tk (qb l).1 j).kind=5
   ·rw[if_pos k5];exact vQ W (Qcc.2 ne) hr
   ·rw[if_neg k5] at h;exact absurd h (λh=>by cases h)
def Bad (c:Int):Prop:=c≠0
theorem jfs {vars:List VarT}{enums:List EnumT}{x:Ex}{c l k:Int}(h:zW vars enums x=.er c l k):Bad c:=by
 unfold zW at h;split at h
 ·cases h
 ·split at h
  ·cases h;exact λh=>by cases h
  ·cases h
mutual
theorem Hu {vars:List VarT}{enums:List EnumT}:∀ (fm:Bool) (x:Ex) {a b d:Int},yF vars enums fm x=.er a b d->Bad a
 |fm,.mk op num name ks l c,a,b,d,h=>by
  rw[yF] at h;split at h
  ·cases h
  ·split at h
   ·cases h
   ·split at h
    ·exact jfs h
    ·split at h
     ·rename_i hr;cases h;exact gg _ _ hr
     ·unfold YI at h;split at h
      ·cases h;exact λh=>by cases h
      ·split at h
       ·cases h
       ·split at h
        ·cases h;exact λh=>by cases h
        ·cases h
theorem gg {vars:List VarT}{enums:List EnumT}:∀ (fm:Bool) (xs:List Ex) {a b d:Int},qv vars enums fm xs=.er a b d->Bad a
 |fm,[],a,b,d,h=>by rw[qv] at h;cases h
 |fm,x :: xs,a,b,d,h=>by
  rw[qv] at h;cases hx:yF vars enums fm x with
  |er p q r=>rw[hx] at h;cases h;exact Hu fm x hx
  |ok y=>
   rw[hx] at h;cases hr:qv vars enums fm xs with
   |er p q r=>rw[hr] at h;cases h;exact gg fm xs hr
   |ok r=>rw[hr] at h;cases h
end
theorem Y6 {vars:List VarT}{enums:List EnumT}{fm:Bool}{x:Ex}{w:Int}{en:List Nat}{a b c:Int}(h:yD vars enums fm x w en=.er a b c):Bad a:=by
 unfold yD at h;split at h
 ·rename_i hr;cases h;exact Hu fm x hr
 ·split at h
  ·cases h;exact λh=>by cases h
  ·cases h
theorem Vt {ts:List (List Nat)}{n:List Nat}{l c a b d:Int}(h:XQ ts n l c=.er a b d):Bad a:=by
 unfold XQ at h;split at h
 ·cases h;exact λh=>by cases h
 ·cases h
theorem Kt {l c:Int}:∀ {ns ts:List (List Nat)} {a b d:Int},zG l c ts ns=.er a b d->Bad a
 |[],ts,a,b,d,h=>by cases h
 |n :: ns,ts,a,b,d,h=>by
  rw[zG] at h;split at h
  ·rename_i hr;cases h;exact Vt hr
  ·exact Kt h
theorem jiH {m:ModT}{ts:List (List Nat)}{e:EnumT}{a b d:Int}(h:wH m ts e=.er a b d):Bad a:=by
 unfold wH at h;split at h
 ·rename_i hr;cases h;exact Kt hr
 ·cases h
theorem jcS {vars:List VarT}{enums:List EnumT}:∀ {xs:List Ex} {v:VarT} {a b d:Int},JK vars enums v xs=.er a b d->Bad a
 |[],v,a,b,d,h=>by rw[JK] at h;cases h
 |x :: xs,v,a,b,d,h=>by
  rw[JK] at h;split at h
  ·rename_i hr;cases h;exact Y6 hr
  ·split at h
   ·cases h;exact λh=>by cases h
   ·split at h
    ·cases h;exact λh=>by cases h
    ·exact jcS h
theorem jiO {m:ModT}{ts:List (List Nat)}{e:DeclT}{a b d:Int}(h:Zj m ts e=.er a b d):Bad a:=by
 unfold Zj at h;split at h
 ·rename_i hr;cases h;exact Vt hr
 ·split at h
  ·rename_i hr;cases h;unfold UN at hr;split at hr
   ·cases hr
   ·split at hr
    ·cases hr
    ·split at hr
     ·cases hr;exact λh=>by cases h
     ·split at hr
      ·cases hr;exact λh=>by cases h
      ·split at hr
       ·cases hr;exact λh=>by cases h
       ·cases hr
  ·unfold uv at h;split at h
   ·rename_i hr;cases h;exact jcS hr
   ·unfold Gp at h;split at h
    ·cases h;exact λh=>by cases h
    ·cases h
theorem GV {vars:List VarT}{enums:List EnumT}:∀ {xs done:List AsT} {acc:List SetT} {a b d:Int},QQ vars enums acc done xs=.er a b d->Bad a
 |[],done,acc,a,b,d,h=>by rw[QQ] at h;cases h
 |x :: xs,done,acc,a,b,d,h=>by
  rw[QQ] at h;split at h
  ·cases h;exact λh=>by cases h
  ·split at h
   ·cases h;exact λh=>by cases h
   ·split at h
    ·rename_i hr;cases h;exact Y6 hr
    ·exact GV h
theorem jhn {m:ModT}{ts:List (List Nat)}{e:RuleT}{a b d:Int}(h:XR m ts e=.er a b d):Bad a:=by
 unfold XR at h;split at h
 ·rename_i hr;cases h;exact Y6 hr
 ·split at h
  ·rename_i hr;cases h;exact GV hr
  ·cases h
theorem Z4 {α β:Type}{f:β->α->KR β}(hf:∀ b x a c d,f b x=.er a c d->Bad a):∀ {xs:List α} {b:β} {a c d:Int},yh f b xs=.er a c d->Bad a
 |[],b,a,c,d,h=>by rw[yh] at h;cases h
 |x :: xs,b,a,c,d,h=>by
  rw[yh] at h;split at h
  ·rename_i hr;cases h;exact hf _ _ _ _ _ hr
  ·exact Z4 hf h
theorem K3 {s:SrcT}{a b d:Int}(h:Qh s=.er a b d):Bad a:=by
 unfold Qh at h;split at h
 ·rename_i hr;cases h;exact Z4 (λb x a c d h=>jiH h) hr
 ·split at h
  ·rename_i hr;cases h;exact Z4 (λb x a c d h=>jiO h) hr
  ·refine Z4 (λb x a c d h=>?_) h;unfold Zc at h;split at h
   ·rename_i hr;cases h;exact Vt hr
   ·exact Z4 (λb x a c d h=>jhn h) h
end Go.Sy
end
noncomputable section
set_option maxRecDepth 100000
namespace Go.Sy
open Go.Ev Go.Proofs
variable {base:Bs}
theorem jrk:Go.Ev.isAgg Qaf 51=some true:=by kernel_rfl
theorem jrj:Go.Ev.sizeOf Qaf 51=some 3:=by kernel_rfl
theorem jpf {b o:Nat}{cs:List AV}{h:T AO}(ho:o+3<=qC h b)(hv:rats h b o 3=cs)(hc:cs.all eqs=true):(qa Qaf 51 (.ptr b o) (.agg cs) h=true)=True:=eq_true (ZX jrk jrj (by decide) ho hv hc)
structure RdT where
 m:ModT
 x:Ex
 c:Int
 l:Int
 k:Int
def Xa (l f:List Nat):RdT:=
 if(zB l).2.1≠0 then⟨md0,ex0,(zB l).2.1,(zB l).2.2.1,(zB l).2.2.2⟩ else match Qh (zB l).1 with
 |.er a b c=>⟨md0,ex0,a,b,c⟩
 |.ok m=>if(ya f).2.1≠0 then⟨md0,ex0,(ya f).2.1,(ya f).2.2.1,(ya f).2.2.2⟩ else match yD m.1.vars m.1.enums true (ya f).1 2 [] with
  |.er a b c=>⟨md0,ex0,a,b,c⟩
  |.ok y=>⟨m.1,y,0,0,0⟩
def Ks (r:RdT):AV:=.tup [.agg (mdE r.m),.agg (eE r.x),.agg (fcl r.c r.l r.k)]
theorem jkc {s:St}{r:RdT}{a b c:List AV}(h1:a=mdE r.m)(h2:b=eE r.x)(h3:c=fcl r.c r.l r.k):G0 (Ks r) (.tup [.agg a,.agg b,.agg c]) s:=by
 subst h1 h2 h3;exact FzD.tup (.cons (.agg (.pc (Yt _))) (.cons (.agg (.pc (q8 _))) (.cons (.agg (.pc rfl)) .nil)))
theorem Wy {s:St}{r:RdT}{c:List AV}(h1:r.m=md0)(h2:r.x=ex0)(h3:c=fcl r.c r.l r.k):G0 (Ks r) (.tup [.agg [.nils,.nils,.nils],.agg [.int .i64 0,.int .i64 0,.str [],.nils,.int .i64 0,.int .i64 0],.agg c]) s:=by
 subst h3;unfold Ks;rw[h1,h2];exact FzD.tup (.cons jhV (.cons YH (.cons (.agg (.pc rfl)) .nil)))
theorem Z3 {α β:Type}{f:β->α->KR β}{P:Nat->β->Prop}:∀ {xs:List α} {n:Nat} {b b':β},(∀ k b x b',x∈xs->P k b->f b x=.ok b'->P (k+1) b')->P n b->yh f b xs=.ok b'->P (n+xs.length) b'
 |[],n,b,b',_,h,e=>by rw[yh] at e;cases e;exact h
 |x :: xs,n,b,b',hs,h,e=>by
  rw[yh] at e;split at e
  ·cases e
  ·rename_i c hc;have:=Z3 (n:=n+1) (λk b y b' hy=>hs k b y b' (by simp[hy])) (hs n b x c (by simp) h hc) e;rw[Qaj,show n+(xs.length+1)=n+1+xs.length by omega];exact this
theorem jkw {b b':MT}{p:ProcT}(h:Zc b p=.ok b'):b'.1.vars=b.1.vars/\b'.1.enums=b.1.enums:=by
 unfold Zc at h;split at h
 ·cases h
 ·rename_i ts _;refine Z3 (n:=0) (P:=λ_ c=>c.1.vars=b.1.vars/\c.1.enums=b.1.enums) (λk c x c' _ hc hr=>?_) ⟨rfl,rfl⟩ h;obtain⟨e,he⟩:=jbz hr;rw[he];exact hc
theorem jk3 {src:SrcT}(O:SrcOK src){b:MT}(h:V7 (md0,[]) src.enums=.ok b):b.1.vars=[]/\b.1.moves=[]/\b.1.enums.length<=1000/\(∀ e∈b.1.enums,e.vals.length<=1000000):=by
 have H:=Z3 (n:=0) (P:=λk (c:MT)=>c.1.vars=[]/\c.1.moves=[]/\c.1.enums.length<=k/\(∀ e∈c.1.enums,e.vals.length<=1000000)) (λk c x c' hx hc hr=>?_) ⟨rfl,rfl,Qaq _,λe he=>by cases he⟩ h
 ·have:=O.ne;exact⟨H.1,H.2.1,by have:=H.2.2.1;omega,H.2.2.2⟩
 ·rw[kX hr];refine⟨hc.1,hc.2.1,by have:=hc.2.2.1;simp;omega,λu hu=>?_⟩;rcases Qbk.1 hu with hu|hu
  ·exact hc.2.2.2 u hu
  ·simp only[QbP] at hu;rw[hu];exact(O.vals x hx).2
theorem jk7 {src:SrcT}(O:SrcOK src){b c:MT}(V:VarsOK b.1.vars b.1.enums)(h0:b.1.vars=[])(h:vI b src.vars=.ok c):VarsOK c.1.vars c.1.enums:=by
 have:=Z3 (n:=0) (P:=λk (c:MT)=>(∀ v∈c.1.vars,-100000000<=v.lo/\v.lo<=100000000/\-100000000<=v.hi/\v.hi<=100000000)/\c.1.enums=b.1.enums/\c.1.vars.length=k) (λk c x c' hx hc hr=>?_) ⟨V.ends,rfl,by rw[h0];rfl⟩ h
 ·have hn:=O.nv;exact⟨by omega,by rw[this.2.1];exact V.len2,by rw[this.2.1];exact V.vals,this.1⟩
 ·obtain⟨v,he,hv⟩:=jcC (by rw[hc.2.1];exact V.vals) (O.vars x hx) hr;rw[he];refine⟨λu hu=>?_,hc.2.1,by simp[hc.2.2]⟩;rcases Qbk.1 hu with hu|hu
  ·exact hc.1 u hu
  ·simp only[QbP] at hu;rw[hu];exact hv
theorem jrC {src:SrcT}(O:SrcOK src){m:MT}(h:Qh src=.ok m):VarsOK m.1.vars m.1.enums:=by
 unfold Qh at h;split at h
 ·cases h
 ·rename_i b h1;obtain⟨e1,e2,e3,e4⟩:=jk3 O h1;split at h
  ·cases h
  ·rename_i c h2;have V:=jk7 O ⟨by rw[e1];exact QaL _,by omega,e4,λv hv=>by rw[e1] at hv;cases hv⟩ e1 h2;have:=Z3 (n:=0) (P:=λ_ (d:MT)=>d.1.vars=c.1.vars/\d.1.enums=c.1.enums) (λk d x d' _ hd hr=>?_) ⟨rfl,rfl⟩ h
   ·rw[this.1,this.2];exact V
   ·have:=jkw hr;rw[this.1,this.2];exact hd
set_option maxHeartbeats 8000000 in
theorem jqU (hb:NB base)(hP:PI base)(l f:List Nat)(hl:l.length<=9223372036854775807)(hf:f.length<=9223372036854775807):Tot base 24 [.str l,.str f] (Ks (Xa l f)):=by
 refine hb.tot ?_ rfl rfl;have hS:=jlk hb hP l hl gH jiP;have hX:=jq1 hb hP f hf gH;refine jI x24 (by rfl) (hb.pur 24 1 (by decide)) ?_;simp only[y24,jp,Qai,Qal,Qag,Qah];rw[(by unfold z24;simp only[qq];rfl:z24=_)];unfold Xa;by_cases h1:(zB l).2.1≠0
 ·have h1':¬ ((zB l).2.1:Int)=0:=by omega
  rw[if_pos h1];have e:zX (zB l).2=[.int .i64 ((zB l).2.1:Int),.int .i64 ((zB l).2.2.1:Int),.int .i64 ((zB l).2.2.2:Int)]:=rfl;rw[e] at hS;repeat'(first|(apply jc<;>intro _)|simp(disch:=first|exact dzG|fail) only[hS,h1',YD,Qw,vT,je,jo,jL,jn,jf,qi,qh,jr,jt,jv,jx,ju,rzZ,Qab,Qac,Qad,Qaa,Qae])
  exact Wy rfl rfl rfl
 rw[if_neg h1];have h1z:(zB l).2.1=0:=by simpa using h1
 have O:=jdB h1z;have e0:(zB l).2=(0,0,0):=by
  unfold zB at h1z ⊢;by_cases c:(qb l).2.1≠0
  ·rw[if_pos c] at h1z;exact absurd h1z c
  ·rw[if_neg c] at h1z ⊢;cases hr:yq (qb l).1 (qb l).1.length 0 QP with
   |er t=>rw[hr] at h1z;exact absurd h1z (λh=>by cases h)
   |ok m j=>rfl
 rw[e0] at hS;have e0':zX (0,0,0)=[.int .i64 0,.int .i64 0,.int .i64 0]:=rfl;rw[e0'] at hS;have hM:=jnh hb (zB l).1 O;unfold Us at hM;cases hm:Qh (zB l).1 with
 |er a b c=>
  have ha:¬ a=0:=K3 hm;rw[hm] at hM;unfold fcl at hM;repeat'(first|(apply jc<;>intro _)|simp(disch:=first|exact dzG|fail) only[hS,hM,ha,YD,Qw,vT,je,jo,jL,jn,jf,qi,qh,jr,jt,jv,jx,ju,rzZ,Qab,Qac,Qad,Qaa,Qae])
  exact Wy rfl rfl rfl
 |ok m=>
  rw[hm] at hM;unfold fcl at hM;dsimp only at hM ⊢;have V:=jrC O hm;by_cases h2:(ya f).2.1≠0
  ·have h2':¬ ((ya f).2.1:Int)=0:=by omega
   rw[if_pos h2];have e:zX (ya f).2=[.int .i64 ((ya f).2.1:Int),.int .i64 ((ya f).2.2.1:Int),.int .i64 ((ya f).2.2.2:Int)]:=rfl;rw[e] at hX;repeat'(first|(apply jc<;>intro _)|simp(disch:=first|exact dzG|fail) only[hS,hM,hX,h2',YD,Qw,vT,je,jo,jL,jn,jf,qi,qh,jr,jt,jv,jx,ju,rzZ,Qab,Qac,Qad,Qaa,Qae])
   exact Wy rfl rfl rfl
  rw[if_neg h2];have h2z:(ya f).2.1=0:=by simpa using h2
  have OX:=jkY h2z;have e2:(ya f).2=(0,0,0):=by
   unfold ya at h2z ⊢;by_cases c:(qb f).2.1≠0
   ·rw[if_pos c] at h2z;exact absurd h2z c
   ·rw[if_neg c] at h2z ⊢;cases hr:yC (qb f).1 0 with
    |er t=>rw[hr] at h2z;exact absurd h2z (λh=>by cases h)
    |ok x j=>
     rw[hr] at h2z;dsimp only at h2z ⊢;by_cases k5:(tk (qb f).1 j).kind=5
     ·rw[if_pos k5]
     ·rw[if_neg k5] at h2z;exact absurd h2z (λh=>by cases h)
  rw[e2,e0'] at hX;have hF:=jiq hb m.1 V (ya f).1 OX;unfold je4 at hF;cases hr:yD m.1.vars m.1.enums true (ya f).1 2 [] with
  |er a b c=>
   have ha:¬ a=0:=Y6 hr;rw[hr] at hF;unfold fcl at hF;repeat'(first|(apply jc<;>intro _)|simp(disch:=first|exact dzG|fail) only[hS,hM,hX,hF,ha,YD,Qw,vT,je,jo,jL,jn,jf,qi,qh,jr,jt,jv,jx,ju,rzZ,Qab,Qac,Qad,Qaa,Qae])
   exact Wy rfl rfl rfl
  |ok y=>
   rw[hr] at hF;unfold fcl at hF
   (have zz:=aI @Qb @jaD;(repeat'(first|(apply jc<;>intro _)|simp(disch:=first|exact qu|fail) only[hS,hM,hX,hF,YD,Qw,jpf,vT,Qb,jaD,je,jo,jL,jn,jf,qi,qh,jr,jt,jv,jx,ju,rzZ,Qab,Qac,Qad,Qaa,Qae]));(all_goals(clear zz)))
   exact jkc rfl rfl rfl
end Go.Sy
end
noncomputable section
set_option maxRecDepth 100000
namespace Go.Sy
open Go.Ev Go.Proofs
variable {base:Bs}
theorem jqj (a b c d e f:Int):(eqF Qaf 20 30).run (.agg [.int .i64 a,.int .i64 b,.int .i64 c]) (.agg [.int .i64 d,.int .i64 e,.int .i64 f])=some (decide (a=d/\b=e/\c=f)):=by
 have h:(eqF Qaf 20 30).run (.agg [.int .i64 a,.int .i64 b,.int .i64 c]) (.agg [.int .i64 d,.int .i64 e,.int .i64 f])=cond (eqI a d) (cond (eqI b e) (cond (eqI c f) (some true) (some false)) (some false)) (some false):=by kernel_rfl
 rw[h,Yj,Yj,Yj];by_cases h1:a=d<;>by_cases h2:b=e<;>by_cases h3:c=f<;>simp[h1,h2,h3]
theorem fEq (a b c d e f:Int)(st:St)(K:AV->St->Prop):jm (Xy Qaf .eql 30 false (.agg [.int .i64 a,.int .i64 b,.int .i64 c]) (.agg [.int .i64 d,.int .i64 e,.int .i64 f]) st) K=K (.bool (decide (a=d/\b=e/\c=f))) st:=by
 have h:Xy Qaf .eql 30 false (.agg [.int .i64 a,.int .i64 b,.int .i64 c]) (.agg [.int .i64 d,.int .i64 e,.int .i64 f]) st=jV ((eqF Qaf 20 30).run (.agg [.int .i64 a,.int .i64 b,.int .i64 c]) (.agg [.int .i64 d,.int .i64 e,.int .i64 f])) λb=>.ok (.bool b) st:=by kernel_rfl
 rw[h,jqj];simp[jV,jm]
theorem fNe (a b c d e f:Int)(st:St)(K:AV->St->Prop):jm (Xy Qaf .neq 30 false (.agg [.int .i64 a,.int .i64 b,.int .i64 c]) (.agg [.int .i64 d,.int .i64 e,.int .i64 f]) st) K=K (.bool (decide (¬ (a=d/\b=e/\c=f)))) st:=by
 have h:Xy Qaf .neq 30 false (.agg [.int .i64 a,.int .i64 b,.int .i64 c]) (.agg [.int .i64 d,.int .i64 e,.int .i64 f]) st=jV ((eqF Qaf 20 30).run (.agg [.int .i64 a,.int .i64 b,.int .i64 c]) (.agg [.int .i64 d,.int .i64 e,.int .i64 f])) λb=>.ok (.bool (cond b false true)) st:=by kernel_rfl
 rw[h,jqj];by_cases hh:a=d/\b=e/\c=f<;>simp[hh,jV,jm]
end Go.Sy
end
noncomputable section
set_option maxRecDepth 100000
namespace Go.Sy
open Go.Ev Go.Proofs
variable {base:Bs}
mutual
theorem jca {vars:List VarT}{enums:List EnumT}:∀ (fm:Bool) (x y:Ex) (m:MtT),yF vars enums fm x=.ok (y,m)->szE y<=szE x
 |fm,.mk op num name ks l c,y,m,h=>by
  rw[yF] at h;split at h
  ·cases h;exact Qaq _
  ·split at h
   ·cases h;exact Qaq _
   ·split at h
    ·have hs:∀ o n l c,szE (.mk o n [] [] l c)<=szE (.mk op num name ks l c):=λo n l c=>by rw[Xh,Xh];simp[yp]
     unfold zW at h;split at h
     ·cases h;exact hs _ _ _ _
     ·split at h
      ·cases h
      ·cases h;exact hs _ _ _ _
    ·split at h
     ·cases h
     ·rename_i r hr;have h2:=Hr _ _ r.1 r.2 hr;have e:∀ l' c',szE (.mk op num name r.1 l' c')<=szE (.mk op num name ks l c):=λl' c'=>by rw[Xh,Xh];omega
      unfold YI at h;split at h
      ·cases h
      ·split at h
       ·cases h;exact e _ _
       ·split at h
        ·cases h
        ·cases h;exact e _ _
theorem Hr {vars:List VarT}{enums:List EnumT}:∀ (fm:Bool) (xs ys:List Ex) (ms:List MtT),qv vars enums fm xs=.ok (ys,ms)->yp ys<=yp xs
 |fm,[],ys,ms,h=>by rw[qv] at h;cases h;exact Qaq _
 |fm,x :: xs,ys,ms,h=>by
  rw[qv] at h;cases hx:yF vars enums fm x with
  |er a b d=>rw[hx] at h;cases h
  |ok y=>
   rw[hx] at h;cases hr:qv vars enums fm xs with
   |er a b d=>rw[hr] at h;cases h
   |ok r=>
    rw[hr] at h;cases h;have h1:=jca fm x y.1 y.2 hx;have h2:=Hr fm xs r.1 r.2 hr;simp only[yp];omega
end
end Go.Sy
end
noncomputable section
set_option maxRecDepth 100000
namespace Go.Sy
open Go.Ev Go.Proofs
variable {base:Bs}
theorem YP {α:Type}{f:α->Nat}:∀ {l:List α} {x:α},x∈l->f x<=(l.map f).sum
 |y :: l,x,h=>by
  rw[Qai,List.sum_cons];rcases Qbh.1 h with rfl|h
  ·omega
  ·have:=YP (f:=f) h;omega
theorem YQ {α:Type}{f:α->Nat}(hf:∀ x,1<=f x):∀ l:List α,l.length<=(l.map f).sum
 |[]=>QaL _
 |y :: l=>by
  rw[Qai,List.sum_cons,Qaj];have:=YQ hf l;have:=hf y;omega
theorem jke {xs:List Ex}{x:Ex}(h:x∈xs):szE x<=yp xs:=by rw[<-Qk];exact YP h
theorem jmU (xs:List Ex):xs.length<=yp xs:=by rw[<-Qk];exact YQ Gg xs
theorem joL {m:SrcT}(h:szS m<=1048576):WrS m:=by
 unfold szS at h;have hB:(1048576:Nat)<=BIG:=by decide
 have l1:=YQ (f:=szN) (λe=>by unfold szN;omega) m.enums;have l2:=YQ (f:=szD) (λe=>by unfold szD;omega) m.vars;have l3:=YQ (f:=szP) (λe=>by unfold szP;omega) m.procs;refine⟨by omega,λe he=>?_,by omega,λd hd=>?_,by omega,λp hp=>?_⟩
 ·have h0:=YP (f:=szN) he;have e0:szN e=e.name.length+(e.vals.map szV).sum+1:=rfl;have lv:=YQ (f:=szV) (λe=>by unfold szV;omega) e.vals;refine⟨by omega,by omega,λv hv=>?_⟩;have h1:=YP (f:=szV) hv;have e1:szV v=v.length+1:=rfl;omega
 ·have h0:=YP (f:=szD) hd;have e0:szD d=d.name.length+d.ty.length+yp d.begins+1:=rfl;have:=jmU d.begins;refine⟨by omega,by omega,by omega,λx hx=>?_⟩;have:=jke hx;omega
 ·have h0:=YP (f:=szP) hp;have e0:szP p=p.name.length+(p.rules.map szR).sum+1:=rfl;have lr:=YQ (f:=szR) (λe=>by unfold szR;omega) p.rules;refine⟨by omega,by omega,λr hr=>?_⟩;have h1:=YP (f:=szR) hr;have e1:szR r=szE r.when+(r.acts.map szA).sum+1:=rfl;have la:=YQ (f:=szA) (λe=>by unfold szA;omega) r.acts;refine⟨by omega,by omega,λa ha=>?_⟩;have h2:=YP (f:=szA) ha;have e2:szA a=a.name.length+szE a.to+1:=rfl;omega
section
variable {st:St} {K:AV->St->Prop}
theorem je2 (a b c:AV):jm (GG 0 (.tup [a,b,c]) st) K=K a st:=nr rfl
theorem je1 (a b c:AV):jm (GG 1 (.tup [a,b,c]) st) K=K b st:=nr rfl
theorem je0 (a b c:AV):jm (GG 2 (.tup [a,b,c]) st) K=K c st:=nr rfl
end
end Go.Sy
end
noncomputable section
namespace Go.Proofs
open Go.Shelf
def Tryz.laysC174_ren:Go.Shelf.Ren:=⟨λ|174=>123|247=>150|245=>151|287=>172|279=>173|280=>174|281=>175|282=>176|321=>185|322=>186|316=>187|171=>189|205=>188|243=>190|246=>113|283=>145|284=>146|285=>147|286=>148|129=>168|317=>167|318=>169|319=>170|320=>171|337=>183|338=>184|n=>n,λ|9=>9|3=>3|2=>2|75=>177|85=>178|4=>4|167=>219|5=>5|53=>131|175=>220|46=>217|168=>222|37=>203|0=>0|210=>233|21=>21|127=>237|145=>240|143=>238|171=>200|173=>204|212=>214|51=>215|20=>20|213=>216|232=>235|233=>236|80=>241|n=>n,λ|15=>1|16=>2|17=>0|18=>3|19=>4|n=>n⟩
theorem Tryz.laysC174:Go.Proofs.LaysC.n174 Qaf Tryz.laysC174_ren:={
 mixed:=by kernel_rfl
 f129:=Tryz.func168.trans (congrArg some (by kernel_rfl))
 f171:=Tryz.func189.trans (congrArg some (by kernel_rfl))
 f174:=Tryz.func123.trans (congrArg some (by kernel_rfl))
 f205:=Tryz.func188.trans (congrArg some (by kernel_rfl))
 f243:=Tryz.func190.trans (congrArg some (by kernel_rfl))
 f245:=Tryz.func151.trans (congrArg some (by kernel_rfl))
 f246:=Tryz.func113.trans (congrArg some (by kernel_rfl))
 f247:=Tryz.func150.trans (congrArg some (by kernel_rfl))
 f279:=Tryz.func173.trans (congrArg some (by kernel_rfl))
 f280:=Tryz.func174.trans (congrArg some (by kernel_rfl))
 f281:=Tryz.func175.trans (congrArg some (by kernel_rfl))
 f282:=Tryz.func176.trans (congrArg some (by kernel_rfl))
 f283:=Tryz.func145.trans (congrArg some (by kernel_rfl))
 f284:=Tryz.func146.trans (congrArg some (by kernel_rfl))
 f285:=Tryz.func147.trans (congrArg some (by kernel_rfl))
 f286:=Tryz.func148.trans (congrArg some (by kernel_rfl))
 f287:=Tryz.func172.trans (congrArg some (by kernel_rfl))
 f316:=Tryz.func187.trans (congrArg some (by kernel_rfl))
 f317:=Tryz.func167.trans (congrArg some (by kernel_rfl))
 f318:=Tryz.func169.trans (congrArg some (by kernel_rfl))
 f319:=Tryz.func170.trans (congrArg some (by kernel_rfl))
 f320:=Tryz.func171.trans (congrArg some (by kernel_rfl))
 f321:=Tryz.func185.trans (congrArg some (by kernel_rfl))
 f322:=Tryz.func186.trans (congrArg some (by kernel_rfl))
 f337:=Tryz.func183.trans (congrArg some (by kernel_rfl))
 f338:=Tryz.func184.trans (congrArg some (by kernel_rfl))
 t0:=Tryz.underlying0
 a0:=Tryz.isAgg0
 z0:=Tryz.sizeOf0
 v0:=Tryz.zeroValue0
 t2:=Tryz.underlying2
 a2:=Tryz.isAgg2
 z2:=Tryz.sizeOf2
 v2:=Tryz.zeroValue2
 t3:=Tryz.underlying3
 a3:=Tryz.isAgg3
 z3:=Tryz.sizeOf3
 v3:=Tryz.zeroValue3
 t4:=Tryz.underlying4
 a4:=Tryz.isAgg4
 z4:=Tryz.sizeOf4
 v4:=Tryz.zeroValue4
 t5:=Tryz.underlying5
 a5:=Tryz.isAgg5
 z5:=Tryz.sizeOf5
 v5:=Tryz.zeroValue5
 t9:=Tryz.underlying9
 a9:=Tryz.isAgg9
 z9:=Tryz.sizeOf9
 v9:=Tryz.zeroValue9
 t20:=Tryz.underlying20
 a20:=Tryz.isAgg20
 z20:=Tryz.sizeOf20
 v20:=Tryz.zeroValue20
 t21:=Tryz.underlying21
 a21:=Tryz.isAgg21
 z21:=Tryz.sizeOf21
 v21:=Tryz.zeroValue21
 t37:=Tryz.underlying203
 a37:=Tryz.isAgg203
 z37:=Tryz.sizeOf203
 v37:=Tryz.zeroValue203
 t46:=Tryz.underlying217
 a46:=Tryz.isAgg217
 z46:=Tryz.sizeOf217
 v46:=Tryz.zeroValue217
 t51:=Tryz.underlying215
 a51:=Tryz.isAgg215
 z51:=Tryz.sizeOf215
 v51:=Tryz.zeroValue215
 t53:=Tryz.underlying131
 a53:=Tryz.isAgg131
 z53:=Tryz.sizeOf131
 v53:=Tryz.zeroValue131
 t75:=Tryz.underlying177
 a75:=Tryz.isAgg177
 z75:=Tryz.sizeOf177
 v75:=Tryz.zeroValue177
 t85:=Tryz.underlying178
 a85:=Tryz.isAgg178
 z85:=Tryz.sizeOf178
 v85:=Tryz.zeroValue178
 t127:=Tryz.underlying237
 a127:=Tryz.isAgg237
 z127:=Tryz.sizeOf237
 v127:=Tryz.zeroValue237
 t143:=Tryz.underlying238
 a143:=Tryz.isAgg238
 z143:=Tryz.sizeOf238
 v143:=Tryz.zeroValue238
 t145:=Tryz.underlying240
 a145:=Tryz.isAgg240
 z145:=Tryz.sizeOf240
 v145:=Tryz.zeroValue240
 t167:=Tryz.underlying219
 a167:=Tryz.isAgg219
 z167:=Tryz.sizeOf219
 v167:=Tryz.zeroValue219
 t168:=Tryz.underlying222
 a168:=Tryz.isAgg222
 z168:=Tryz.sizeOf222
 v168:=Tryz.zeroValue222
 t171:=Tryz.underlying200
 a171:=Tryz.isAgg200
 z171:=Tryz.sizeOf200
 v171:=Tryz.zeroValue200
 t173:=Tryz.underlying204
 a173:=Tryz.isAgg204
 z173:=Tryz.sizeOf204
 v173:=Tryz.zeroValue204
 t175:=Tryz.underlying220
 a175:=Tryz.isAgg220
 z175:=Tryz.sizeOf220
 v175:=Tryz.zeroValue220
 t210:=Tryz.underlying233
 a210:=Tryz.isAgg233
 z210:=Tryz.sizeOf233
 v210:=Tryz.zeroValue233
 t212:=Tryz.underlying214
 a212:=Tryz.isAgg214
 z212:=Tryz.sizeOf214
 v212:=Tryz.zeroValue214
 t213:=Tryz.underlying216
 a213:=Tryz.isAgg216
 z213:=Tryz.sizeOf216
 t232:=Tryz.underlying235
 a232:=Tryz.isAgg235
 z232:=Tryz.sizeOf235
 v232:=Tryz.zeroValue235
 t233:=Tryz.underlying236
 a233:=Tryz.isAgg236
 z233:=Tryz.sizeOf236
 v233:=Tryz.zeroValue236
 g15:=by kernel_rfl
 g16:=by kernel_rfl
 g17:=by kernel_rfl
 g18:=by kernel_rfl
 g19:=by kernel_rfl
 t80:=Tryz.underlying241
 a80:=Tryz.isAgg241
 z80:=Tryz.sizeOf241
 v80:=Tryz.zeroValue241
 i0:=by kernel_rfl
 i2:=by kernel_rfl
 i3:=by kernel_rfl
 i4:=by kernel_rfl
 i5:=by kernel_rfl
 i9:=by kernel_rfl
 i20:=by kernel_rfl
 i21:=by kernel_rfl
 i37:=by kernel_rfl
 i46:=by kernel_rfl
 i51:=by kernel_rfl
 i53:=by kernel_rfl
 i75:=by kernel_rfl
 i80:=by kernel_rfl
 i85:=by kernel_rfl
 i127:=by kernel_rfl
 i143:=by kernel_rfl
 i145:=by kernel_rfl
 i167:=by kernel_rfl
 i168:=by kernel_rfl
 i171:=by kernel_rfl
 i173:=by kernel_rfl
 i175:=by kernel_rfl
 i210:=by kernel_rfl
 i212:=by kernel_rfl
 i232:=by kernel_rfl
 i233:=by kernel_rfl
 m15:=by kernel_rfl
 m16:=by kernel_rfl
 m17:=by kernel_rfl
 m18:=by kernel_rfl
 m19:=by kernel_rfl
 c0:=by kernel_rfl
 c2:=by kernel_rfl
 c3:=by kernel_rfl
 c4:=by kernel_rfl
 c5:=by kernel_rfl
 c9:=by kernel_rfl
 c20:=by kernel_rfl
 c21:=by kernel_rfl
 c37:=by kernel_rfl
 c46:=by kernel_rfl
 c51:=by kernel_rfl
 c53:=by kernel_rfl
 c75:=by kernel_rfl
 c80:=by kernel_rfl
 c85:=by kernel_rfl
 c127:=by kernel_rfl
 c143:=by kernel_rfl
 c145:=by kernel_rfl
 c167:=by kernel_rfl
 c168:=by kernel_rfl
 c171:=by kernel_rfl
 c173:=by kernel_rfl
 c175:=by kernel_rfl
 c210:=by kernel_rfl
 c212:=by kernel_rfl
 c213:=by kernel_rfl
 c232:=by kernel_rfl
 c233:=by kernel_rfl }
open Go.RowKit in
theorem Tryz.strconv_ParseInt_10_at64_ok (s:ByteArray)(hmax:s.size<=9223372036854775806)(v:Int)(h:Lib.parseIntB 64 s.data.toList=.ok v)(w:World) :
 Calls Qaf 123 #[.string s,.int .i64 10,.int .i64 64] w λe w'=>e=.returned (.tuple #[.int .i64 v,.nilIface])/\(w'=w\/∃ t,w'=Lib.bytesWorld w 5 t):=Any.strconv_ParseInt_10_at64_ok Tryz.laysC174 s hmax v h w
open Go.RowKit in
theorem Tryz.strconv_ParseInt_10_at64_range (s:ByteArray)(hlim:s.size<=281474976710656)(h:Lib.parseIntB 64 s.data.toList=.range)(ev:Value)(w:World)(hv:w.cell? ⟨2,0,none⟩=some ev)(hev:ev=.nilIface\/∃ te pe,ev=.iface te pe) :
 Calls Qaf 123 #[.string s,.int .i64 10,.int .i64 64] w λe w'=>∃ N,e=.returned (.tuple #[.int .i64 (Lib.intSat 64 s.data.toList),.iface 222 (.pointer (some ⟨N,0,none⟩))])/\w.heap.size<=N/\w'.heap[N]? = some (.cells #[.string ⟨#[80,97,114,115,101,73,110,116]⟩,.string s,ev] 233 (0,0))/\Below w.heap.size w w':=Any.strconv_ParseInt_10_at64_range Tryz.laysC174 s hlim h ev w hv hev
end Go.Proofs
end
noncomputable section
set_option maxRecDepth 100000
namespace Go.Sy
open Go.Ev Go.Proofs
open Go.RowKit (Below)
theorem Ww:okP Qaf=true:=by kernel_rfl
theorem Ko:Tryz.prog.follows .mixedOrders=true:=by kernel_rfl
theorem jpl:jh3 (gC Qaf 10000000 400 21 [] st0)=true:=by kernel_rfl
def GP (l:List UInt8):Prop:=∀ c∈l,48<=c.toNat/\c.toNat<=57
theorem Ha:∀ (l:List UInt8) (acc:Nat),GP l->(acc+1) * 10 ^ l.length<=100000000->Lib.parseUintM 18446744073709551615 acc l=.ok ((l.map UInt8.toNat).foldl (λv c=>10 * v+(c - 48)) acc)
 |[],acc,_,_=>rfl
 |c :: r,acc,hd,h=>by
  have hc:=hd c (by simp);rw[Qaj,Nat.pow_succ] at h;have hp:1<=10 ^ r.length:=Nat.one_le_pow _ _ (by decide);have hacc:(acc+1) * 10<=100000000:=by
   have:(acc+1) * 10 * 1<=(acc+1) * 10 * 10 ^ r.length:=Nat.mul_le_mul_left _ hp;have e:(acc+1) * 10 * 10 ^ r.length=(acc+1) * (10 ^ r.length * 10):=by rw[Nat.mul_assoc,Nat.mul_comm 10]
   omega
  unfold Lib.parseUintM;rw[if_pos hc,if_neg (by omega),if_neg (by omega),Ha r _ (λd hd'=>hd d (by simp[hd']))]
  ·show _=Lib.NumEnd.ok ((r.map UInt8.toNat).foldl _ (10 * acc+(c.toNat - 48)));rw[Nat.mul_comm acc 10]
  ·refine Qau ?_ h;have e:(acc+1) * (10 ^ r.length * 10)=((acc+1) * 10) * 10 ^ r.length:=by rw[Nat.mul_comm (10 ^ r.length),Nat.mul_assoc]
   rw[e];exact QaN _ (by omega)
theorem Vk:∀ (l:List UInt8) (acc:Nat),GP l->(∃ u,Lib.parseUintM 18446744073709551615 acc l=.ok u)\/Lib.parseUintM 18446744073709551615 acc l=.range
 |[],acc,_=>.inl ⟨acc,rfl⟩
 |c :: r,acc,hd=>by
  have hc:=hd c (by simp);unfold Lib.parseUintM;rw[if_pos hc];by_cases h1:1844674407370955162<=acc
  ·rw[if_pos h1];exact .inr rfl
  ·rw[if_neg h1];by_cases h2:18446744073709551615<acc * 10+(c.toNat - 48)
   ·rw[if_pos h2];exact .inr rfl
   ·rw[if_neg h2];exact Vk r _ λd hd'=>hd d (by simp[hd'])
theorem Hb {l:List UInt8}(hne:l≠[])(hd:GP l):Lib.parseIntB 64 l=Lib.signlessC (2 ^ 63) (Lib.parseUintM 18446744073709551615 0 l):=by
 obtain⟨c,r,rfl⟩:=List.exists_cons_of_ne_nil hne;have hc:=hd c (by simp);rw[Lib.parseIntB_plain 64 c r (by omega) (by omega)];unfold Lib.parseUintB;rw[if_neg (by simp)]
theorem jhF {l:List UInt8}(hne:l≠[])(hd:GP l)(h7:l.length<=7):Lib.parseIntB 64 l=.ok (X9 (l.map UInt8.toNat):Int):=by
 have hle:10 ^ l.length<=10 ^ 7:=Nat.pow_le_pow_right (by decide) h7;have e7:10 ^ 7=10000000:=by decide
 rw[Hb hne hd,Ha l 0 hd (by omega)];have hv:=jmM (s:=l.map UInt8.toNat) (n:=l.length) (by simp) h7 (λc hc=>by
  obtain⟨b,hb,rfl⟩:=Qbj.1 hc;have:=hd b hb;unfold jP;simp;omega)
 show Lib.signlessC _ (.ok (X9 (l.map UInt8.toNat)))=_;generalize X9 (l.map UInt8.toNat)=v at hv;unfold Lib.signlessC;simp;omega
end Go.Sy
end
noncomputable section
set_option maxRecDepth 100000
namespace Go.Sy
open Go.Ev Go.Proofs
open Go.RowKit (Below)
theorem jfk {l:List UInt8}(hne:l≠[])(hd:GP l):(∃ v,Lib.parseIntB 64 l=.ok v)\/Lib.parseIntB 64 l=.range:=by
 rw[Hb hne hd];rcases Vk l 0 hd with ⟨u,h⟩|h
 ·rw[h];unfold Lib.signlessC;by_cases hu:2 ^ 63<=u
  ·right;simp only[if_pos hu]
  ·left;exact⟨u,by simp only[if_neg hu]⟩
 ·rw[h];exact .inr rfl
def jcz (s:List Nat):Bool:=decide (s≠[]) && s.all jP
theorem jcy (s:List Nat):jcz s=true↔Wf s:=by
 unfold jcz Wf;simp
def wO:qL:=λf args st=>match args with
 |[]=>if f=21 then .ok (.bool true) st else .no
 |[.str s,.int .i64 a,.int .i64 b]=>if f=123/\a=10/\b=64/\jcz s=true/\s.length<=281474976710656 then(if s.length<=7 then .ok (.tup [.int .i64 (X9 s:Int),.nilif]) st else .ok (.tup [.bad,.bad]) st) else .no
 |_=>.no
theorem jnJ (st:St):wO 21 [] st=.ok (.bool true) st:=rfl
def base6:Bs:=⟨wO,jfi⟩
theorem jcU:PI base6:=λs st hd hl=>by
 have e:wO 123 [.str s,.int .i64 10,.int .i64 64] st=if(123=123/\(10:Int)=10/\(64:Int)=64/\jcz s=true/\s.length<=281474976710656) then(if s.length<=7 then .ok (.tup [.int .i64 (X9 s:Int),.nilif]) st else .ok (.tup [.bad,.bad]) st) else .no:=rfl
 simp only[show base6.run=wO from rfl];rw[e,if_pos ⟨rfl,rfl,rfl,(jcy s).2 hd,hl⟩];exact⟨λh=>if_pos h,λh=>if_neg (by omega)⟩
theorem kz (f:FuncId)(args:List AV)(st:St):wO f args st=.no\/(f=21/\args=[])\/(f=123/\∃ s,args=[.str s,.int .i64 10,.int .i64 64]/\Wf s/\s.length<=281474976710656):=by
 unfold wO;split
 ·by_cases h:f=21
  ·exact .inr (.inl ⟨h,rfl⟩)
  ·exact .inl (if_neg h)
 ·rename_i s a b;by_cases h:f=123/\a=10/\b=64/\jcz s=true/\s.length<=281474976710656
  ·obtain⟨h1,rfl,rfl,h4,h5⟩:=h;exact .inr (.inr ⟨h1,s,rfl,(jcy s).1 h4,h5⟩)
  ·exact .inl (if_neg h)
 ·exact .inl rfl
theorem jlf (f:FuncId)(args:List AV)(st:St)(h9:f≠21)(h31:f≠123):wO f args st=.no:=by
 rcases kz f args st with h|⟨h,_⟩|⟨h,_⟩
 ·exact h
 ·exact absurd h h9
 ·exact absurd h h31
theorem YR {ι:Inj}{st:St}{w w':World}(hs:Sim ι st.h st.nx w)(b:Below w.heap.size w w'):Sim ι st.h st.nx w'/\Grew ι w ι w':=by
 have gr:Grew ι w ι w':=⟨b.os,b.tape,b.output,b.size,λk hk _=>b.block k hk,λb B S e=>.inl ⟨b,S,e⟩,λB vs h=>.inl h⟩;exact⟨⟨λc B S e=>by
  obtain⟨o,x,h1,h2,h3⟩:=hs.obj c B S e;exact⟨o,x,h1,(b.block B (hs.lt e)).trans h2,h3⟩,hs.gone,hs.inj,hs.born,hs.glob.grew gr⟩,gr⟩
theorem jlg:J3 Qaf base6.run:=by
 intro f args st ι w vs hs hv;simp only[show base6.run=wO from rfl];rcases kz f args st with h|⟨rfl,rfl⟩|⟨rfl,s,rfl,hd,hl⟩
 ·rw[h];trivial
 ·rw[jnJ];have hvs:vs = #[]:=by
   have:vs.toList=[]:=by simpa[VRs] using hv
   simpa using this
  subst hvs;have hb:Tryz.f21.body.isSome=true:=by kernel_rfl
  obtain⟨c,hc⟩:=Option.isSome_iff_exists.1 hb;refine⟨(vr Ww Tryz.func21 hc).2,Calls.mono (jko Ww (jej Ko) jpl w ⟨⟨hs.glob.1.1,λb S e=>by cases e⟩,λB vs e=>by cases e⟩) λe w' ⟨he,hos,ht,ho,hsz,hk⟩=>⟨_,he,ι,Le.refl ι,?_,?_,?_,Cleanly.refl ι st⟩⟩
  ·simp only[VR]
  ·exact(YR hs ⟨hos,ht,ho,hsz,hk⟩).1
  ·exact(YR hs ⟨hos,ht,ho,hsz,hk⟩).2
 ·simp only[VRs,VR] at hv;obtain⟨v1,l1,e1,⟨bs,rfl,hbs⟩,v2,l2,rfl,rfl,v3,l3,rfl,rfl,rfl⟩:=hv;have hvs:vs = #[.string bs,.int .i64 10,.int .i64 64]:=by
   cases vs;simpa using e1
  subst hvs;have hlen:bs.data.toList.length=s.length:=by rw[<-hbs,QaQ]
  have hsz:bs.size=s.length:=by rw[<-hlen,Qaz];rfl
  have hne:bs.data.toList≠[]:=λh=>hd.1 (by rw[<-hbs,h];rfl);have hd8:GP bs.data.toList:=λc hc=>by
   have:=hd.2 c.toNat (by rw[<-hbs];exact Qbj.2 ⟨c,hc,rfl⟩);unfold jP at this;simp at this;omega
  have hent:Ev.Enters Qaf 123:=by
   have hb:Tryz.f123.body.isSome=true:=by kernel_rfl
   obtain⟨c,hc⟩:=Option.isSome_iff_exists.1 hb;exact(vr Ww Tryz.func123 hc).2
  have okc:∀ v,Lib.parseIntB 64 bs.data.toList=.ok v->Calls Qaf 123 #[.string bs,.int .i64 10,.int .i64 64] w λe w'=>e=.returned (.tuple #[.int .i64 v,.nilIface])/\Below w.heap.size w w':=λv h=>
   (Tryz.strconv_ParseInt_10_at64_ok bs (by omega) v h w).mono λe w' ⟨he,hw⟩=>⟨he,by
    rcases hw with rfl|⟨t,rfl⟩
    ·exact⟨rfl,rfl,rfl,Qaq _,λ_ _=>rfl⟩
    ·exact Lib.bytesWorld_below w 5 t⟩
  have hP:=jcU s st hd hl;simp only[show base6.run=wO from rfl] at hP;by_cases h7:s.length<=7
  ·rw[hP.1 h7];refine⟨hent,(okc _ (jhF hne hd8 (by omega))).mono λe w' ⟨he,hb⟩=>⟨_,he,ι,Le.refl ι,?_,(YR hs hb).1,(YR hs hb).2,Cleanly.refl ι st⟩⟩;rw[hbs];simp only[VR,VRs];exact⟨_,rfl,_,_,rfl,rfl,_,_,rfl,rfl,rfl⟩
  ·rw[hP.2 (by omega)];refine⟨hent,?_⟩;have fin:∀ (x y:Value) (w':World),Below w.heap.size w w'->JN ι w st st (.tup [.bad,.bad]) (.tuple #[x,y]) w':=λx y w' hb=>by
    refine⟨ι,Le.refl ι,?_,(YR hs hb).1,(YR hs hb).2,Cleanly.refl ι st⟩;simp only[VR,VRs];exact⟨_,rfl,_,_,rfl,trivial,_,_,rfl,trivial,rfl⟩
   rcases jfk hne hd8 with ⟨v,h⟩|h
   ·exact(okc v h).mono λe w' ⟨he,hb⟩=>⟨_,he,fin _ _ w' hb⟩
   ·obtain⟨te,pe,hg⟩:=hs.glob.1.1;exact(Tryz.strconv_ParseInt_10_at64_range bs (by omega) h _ w hg (.inr ⟨te,pe,rfl⟩)).mono λe w' ⟨N,he,_,_,hb⟩=>⟨_,he,fin _ _ w' hb⟩
end Go.Sy
end
noncomputable section
set_option maxRecDepth 100000
namespace Go.Sy
open Go.Ev Go.Proofs
theorem jdr {ι:Inj}:∀ {cs:List AV} {v:Value},VRs ι cs v.cells.toList->2<=cs.length->VR ι (.agg cs) v
 |a :: b :: r,v,h,_=>by
  cases v;case agg c=>exact⟨c,rfl,h⟩
  all_goals
   exfalso;obtain⟨v1,l1,e1,_,v2,l2,e2,_⟩:=h;simp[Value.cells] at e1;rw[e2] at e1;simp at e1
 |[],v,h,h2=>by simp at h2
 |[a],v,h,h2=>by simp at h2
theorem arg_src {w:World}{m:SrcT}{v:Value}(h:VRs (frW w) (srE m) v.cells.toList):VR (frW w) (.agg (srE m)) v:=jdr h (by rw[wt];decide)
theorem arg_ex {w:World}{x:Ex}{v:Value}(h:VRs (frW w) (eE x) v.cells.toList):VR (frW w) (.agg (eE x)) v:=jdr h (by rw[Jw];decide)
theorem base6_21 (st:St):base6.run 21 [] st=.ok (.bool true) st:=rfl
theorem base6_PI:PI base6:=jcU
theorem base6_NB:NB base6:=⟨λf h args st=>jlf f args st (by rintro rfl;simp[kM] at h) (by rintro rfl;simp[kM] at h),rfl⟩
theorem law_calls {f:FuncId}{xs:List AV}{vs:Array Value}{w:World}(h:XB Qaf base6 f xs st0 (λv _=>v=.bool true) λ_ _=>False)(hg:∃ te pe,w.cell? ⟨2,0,none⟩=some (.iface te pe))(hv:VRs (frW w) xs vs.toList) :
  Calls Qaf f vs w λe w'=>e=.returned (.bool true)/\w'.os=w.os/\w'.tape=w.tape/\w'.output=w.output/\w.heap.size<=w'.heap.size/\∀ k,k<w.heap.size->w'.heap[k]? = w.heap[k]?:=by
 have h2:=CW.calls Ww (jej Ko) jlg (K:=λv _=>v=.bool true) h.cb (jmZ hg) hv;refine Calls.mono h2 λe w' ⟨v,x,st',he,hK,ι',_,hv,_,hg,_⟩=>?_;rw[hK] at hv;simp only[VR] at hv;rw[hv] at he;exact⟨he,hg.os,hg.tape,hg.output,hg.size,λk hk=>hg.keep k hk (λb S e=>by cases e)⟩
end Go.Sy
end
noncomputable section
set_option maxRecDepth 100000
namespace Go.Sy
open Go.Ev Go.Proofs
def JA:List Nat->Nat
 |[]=>0
 |x :: r=>if qd x=true then qg yn (x :: r) else if jP x=true then qg jP (x :: r) else Q9 (x :: r)
def uF (rm:Bool):List Nat->Bool
 |[]=>rm
 |c :: r=>if c=10 then false else if rm=false/\c=47/\r.head? = some 47 then true else rm
def Qf:Bool->List Nat->Nat
 |_,[]=>0
 |rm,c :: r=>if(uF rm (c :: r) ||qN c)=true then Qf (uF rm (c :: r)) r+1 else 0
theorem Xk (rm:Bool)(c:Nat)(r:List Nat):uF rm (c :: r)=if c=10 then false else if rm=false/\c=47/\r.head? = some 47 then true else rm:=rfl
theorem Qe (rm:Bool)(c:Nat)(r:List Nat):Qf rm (c :: r)=if(uF rm (c :: r) ||qN c)=true then Qf (uF rm (c :: r)) r+1 else 0:=by rw[Qf]
theorem Y2 (x:Nat)(r:List Nat):JA (x :: r)=if qd x=true then qg yn (x :: r) else if jP x=true then qg jP (x :: r) else Q9 (x :: r):=rfl
theorem Kv:∀ r:List Nat,Qf true r=qg Qz r+Qf false (r.drop (qg Qz r))
 |[]=>rfl
 |c :: r=>by
  by_cases h:c=10
  ·subst h;have h1:qg Qz (10 :: r)=0:=rfl;rw[h1,Qbs,QaM,Qe,Qe,Xk,Xk,if_pos rfl,if_pos rfl]
  ·have h1:uF true (c :: r)=true:=by rw[Xk,if_neg h,if_neg (by simp)]
   have h2:qg Qz (c :: r)=qg Qz r+1:=by
    have:Qz c=true:=by unfold Qz;simp[h]
    simp only[qg,if_pos this]
   have h3:Qf true (c :: r)=Qf true r+1:=by
    rw[Qe,h1,Bool.true_or,if_pos rfl]
   rw[h3,h2,Kv r,List.drop_succ_cons];omega
theorem kd:∀ r:List Nat,Qf false r=qg qN r+Qf false (r.drop (qg qN r))
 |[]=>rfl
 |c :: r=>by
  by_cases h:qN c=true
  ·have hc:c=32\/c=9\/c=10:=by unfold qN at h;simp at h;omega
   have h1:uF false (c :: r)=false:=by
    rw[Xk];by_cases h10:c=10
    ·rw[if_pos h10]
    ·rw[if_neg h10,if_neg (λh=>by have:=h.2.1;omega)]
   have h2:qg qN (c :: r)=qg qN r+1:=by simp only[qg,if_pos h]
   have h3:Qf false (c :: r)=Qf false r+1:=by
    rw[Qe,h1,h,Bool.or_true,if_pos rfl]
   rw[h3,h2,kd r,List.drop_succ_cons];omega
  ·have h2:qg qN (c :: r)=0:=by simp only[qg,if_neg h]
   rw[h2,Qbs,QaM]
theorem WC (k:Nat):∀ r:List Nat,r.length<=k->Qf false r=jW r:=by
 induction k with
 |zero=>
  intro r hr;have:r=[]:=QaT (by omega);subst this;have hg:=w9 ([]:List Nat);simp at hg;rw[hg];rfl
 |succ k ih=>
  intro r hr;have hle:=VQ r;have key:Qf false r=gap r+if gap r=0 then 0 else Qf false (r.drop (gap r)):=by
   unfold gap;by_cases hb:qg qN r=0/\begins [47,47] r=true
   ·rw[if_pos hb];have hr2:r.take 2=[47,47]:=of_decide_eq_true hb.2
    match r,hr2 with
    |x :: y :: r',hr2=>
     obtain⟨rfl,rfl⟩:x=47/\y=47:=by simpa using hr2
     have h2:qg Qz (47 :: 47 :: r')=qg Qz (47 :: r')+1:=rfl;have h3:Qf false (47 :: 47 :: r')=Qf true (47 :: r')+1:=by
      have h4:uF false (47 :: 47 :: r')=true:=by
       rw[Xk,if_neg (by decide),if_pos ⟨rfl,rfl,rfl⟩]
      rw[Qe,h4,Bool.true_or,if_pos rfl]
     rw[h3,Kv,h2,if_neg (by omega),List.drop_succ_cons];omega
    |[],hr2=>simp at hr2
    |[x],hr2=>simp at hr2
   ·rw[if_neg hb];by_cases h0:qg qN r=0
    ·rw[h0,if_pos rfl];cases r with
     |nil=>rfl
     |cons c r=>
      have hnb:¬ qN c=true:=λh=>by simp only[qg,if_pos h] at h0;omega
      have hnb':qN c=false:=by simpa using hnb
      have h1:uF false (c :: r)=false:=by
       rw[Xk];by_cases h10:c=10
       ·rw[if_pos h10]
       ·rw[if_neg h10];refine if_neg λh=>hb ⟨h0,decide_eq_true ?_⟩;obtain⟨_,rfl,h⟩:=h;cases r with
        |nil=>simp at h
        |cons d r=>simp at h;subst h;rfl
      rw[Qe,h1,hnb'];rfl
    ·rw[if_neg h0];exact kd r
  by_cases h0:gap r=0
  ·rw[key,jci h0,h0];rfl
  ·rw[key,jch h0,if_neg h0,ih _ (by rw[QaS];omega)]
theorem jdc {x:Nat}{r:List Nat}{p:Nat×Nat}(hL:qd x=true):ye (x :: r) p=if 32<JA (x :: r) then(132,⟨1,[],0,p.1,p.2⟩,0) else(0,⟨if uG ((x :: r).take (JA (x :: r)))=true then 4 else 1,(x :: r).take (JA (x :: r)),0,p.1,p.2⟩,JA (x :: r)):=by
 have e:JA (x :: r)=qg yn (x :: r):=if_pos hL;rw[e];show(if qd x=true then _ else _)=_;rw[if_pos hL]
theorem jfq {x:Nat}{r:List Nat}{p:Nat×Nat}(hL:qd x=false)(hD:jP x=true):ye (x :: r) p=if 7<JA (x :: r)\/1000000<X9 ((x :: r).take (JA (x :: r))) then(132,⟨2,[],0,p.1,p.2⟩,0) else(0,⟨2,(x :: r).take (JA (x :: r)),X9 ((x :: r).take (JA (x :: r))),p.1,p.2⟩,JA (x :: r)):=by
 have e:JA (x :: r)=qg jP (x :: r):=by
  rw[Y2,if_neg (by rw[hL];decide),if_pos hD]
 rw[e];show(if qd x=true then _ else if jP x=true then _ else _)=_;rw[if_neg (by rw[hL];decide),if_pos hD]
theorem jhM {x:Nat}{r:List Nat}{p:Nat×Nat}(hL:qd x=false)(hD:jP x=false)(hn:JA (x :: r)≠0):ye (x :: r) p=(0,⟨3,(x :: r).take (JA (x :: r)),0,p.1,p.2⟩,JA (x :: r)):=by
 have e:JA (x :: r)=Q9 (x :: r):=by
  rw[Y2,if_neg (by rw[hL];decide),if_neg (by rw[hD];decide)]
 rw[e] at hn ⊢;show(if qd x=true then _ else if jP x=true then _ else _)=_;rw[if_neg (by rw[hL];decide),if_neg (by rw[hD];decide)];simp only;rw[if_neg hn]
theorem jin {x:Nat}{r:List Nat}(h:qN x=false/\x≠47):jW (x :: r)=0:=by
 have h10:x≠10:=λe=>by rw[e] at h;exact absurd h.1 (by decide)
 have e:uF false (x :: r)=false:=by rw[Xk,if_neg h10,if_neg (λh'=>h.2 h'.2.1)]
 rw[<-WC _ _ (Qaq _),Qe,e,h.1];rfl
theorem jk8 {x y:List Nat}{p q:Nat×Nat}(h1:x.drop (jW x)=y.drop (jW y))(h2:jX p (x.take (jW x))=jX q (y.take (jW y))):zb x p=zb y q:=by
 generalize hx:ye (x.drop (jW x)) (jX p (x.take (jW x)))=z;obtain⟨e,t,n⟩:=z;have hy:ye (y.drop (jW y)) (jX q (y.take (jW y)))=(e,t,n):=by rw[<-h1,<-h2];exact hx
 rw[X5 x p hx,X5 y q hy,h1,h2]
theorem jk9 {r:List Nat}{p:Nat×Nat}{t:Tk}(h:ye (r.drop (jW r)) (jX p (r.take (jW r)))=(0,t,0)):zb r p=([t],(0,0,0)):=by
 rw[X5 r p h,if_neg (by decide),if_pos rfl]
theorem jiQ {r:List Nat}{p:Nat×Nat}{n:Nat}{t:Tk}(h:ye (r.drop (jW r)) (jX p (r.take (jW r)))=(0,t,n))(hn:n≠0) :
  zb r p=ahead [t] (zb ((r.drop (jW r)).drop n) (jX (jX p (r.take (jW r))) ((r.drop (jW r)).take n))):=by
 have:=gT (acc:=[]) h hn;rw[HV] at this;exact this
end Go.Sy
end
noncomputable section
set_option maxRecDepth 100000
namespace Go.Sy
open Go.Ev Go.Proofs
def JZ (t:Tk):Nat×List Nat×Nat:=(t.kind,t.text,t.num)
mutual
def unE:Ex->Ex
 |.mk o n nm ks _ _=>.mk o n nm (Jo ks) 0 0
def Jo:List Ex->List Ex
 |[]=>[]
 |x :: xs=>unE x :: Jo xs
end
theorem jbo:∀ xs,Jo xs=xs.map unE
 |[]=>rfl
 |x :: xs=>by rw[Jo,jbo xs];rfl
def Agr (ts us:List Tk)(o i e:Nat):Prop:=∀ k,i<=k->k<=e->JZ (tk us (k+o))=JZ (tk ts k)
theorem Agr.mono {ts us:List Tk}{o i e i' e':Nat}(h:Agr ts us o i e)(h1:i<=i')(h2:e'<=e):Agr ts us o i' e':=λk a b=>h k (by omega) (by omega)
theorem jmT {a b:Tk}{x y x' y':Ex}(h:JZ a=JZ b)(h1:unE x=unE x')(h2:unE y=unE y'):unE (zA a x y)=unE (zA b x' y'):=by
 unfold JZ at h;simp only[Prod.mk.injEq] at h;unfold zA;rw[h.2.1];split
 ·simp only[unE,Jo,h1,h2]
 ·rfl
def RelP (o:Nat):PR->PR->Prop
 |.ok x j,.ok y k=>unE x=unE y/\k=j+o
 |.er _,.er _=>True
 |_,_=>False
theorem RelP.er {o:Nat}{t:Tk}{q:PR}(h:RelP o (.er t) q):∃ t',q=.er t':=by
 cases q with
 |ok x j=>exact h.elim
 |er t'=>exact⟨t',rfl⟩
theorem RelP.ok {o j:Nat}{x:Ex}{q:PR}(h:RelP o (.ok x j) q):∃ x',q=.ok x' (j+o)/\unE x=unE x':=by
 cases q with
 |ok y k=>exact⟨y,by rw[h.2],h.1⟩
 |er t'=>exact h.elim
mutual
theorem Vz:∀ (d:Nat) (x:Ex),yv d (unE x)=yv d x
 |0,_=>rfl
 |d+1,.mk o n nm ks l c=>by
  rw[vn,vn];have e1:(unE (.mk o n nm ks l c)).kids=Jo ks:=rfl;have e2:wC (unE (.mk o n nm ks l c))=wC (.mk o n nm ks l c):=rfl;have e3:(Jo ks).length=ks.length:=by rw[jbo,QaQ]
  rw[e1,e2,e3,KG d ks];rfl
theorem KG:∀ (d:Nat) (xs:List Ex),(Jo xs).all (yv d)=xs.all (yv d)
 |_,[]=>rfl
 |d,x :: xs=>by rw[Jo,QaY,QaY,Vz d x,KG d xs]
end
theorem jbA {d:Nat}{x y:Ex}(h:unE x=unE y):yv d x=yv d y:=by rw[<-Vz d x,h,Vz]
end Go.Sy
end
noncomputable section
set_option maxRecDepth 100000
namespace Go.Sy
open Go.Ev Go.Proofs
def unA (a:AsT):AsT:=⟨a.name,unE a.to,0,0⟩
def unR (r:RuleT):RuleT:=⟨unE r.when,r.acts.map unA⟩
def unP (p:ProcT):ProcT:=⟨p.name,p.rules.map unR,0,0⟩
def unN (e:EnumT):EnumT:=⟨e.name,e.vals,0,0⟩
def unD (d:DeclT):DeclT:=⟨d.name,d.ty,d.lo,d.hi,d.begins.map unE,0,0⟩
section
variable {α β:Type}
def RelS (un:α->β)(o:Nat):SR α->SR α->Prop
 |.ok x j,.ok y k=>un x=un y/\k=j+o
 |.er _,.er _=>True
 |_,_=>False
theorem RelS.er {un:α->β}{o:Nat}{t:Tk}{q:SR α}(h:RelS un o (.er t) q):∃ t',q=.er t':=by
 cases q with
 |ok x j=>exact h.elim
 |er t'=>exact⟨t',rfl⟩
theorem RelS.ok {un:α->β}{o j:Nat}{x:α}{q:SR α}(h:RelS un o (.ok x j) q):∃ x',q=.ok x' (j+o)/\un x=un x':=by
 cases q with
 |ok y k=>exact⟨y,by rw[h.2],h.1⟩
 |er t'=>exact h.elim
end
end Go.Sy
end
noncomputable section
set_option maxRecDepth 100000
namespace Go.Sy
open Go.Ev Go.Proofs
def unS (m:SrcT):SrcT:=⟨m.enums.map unN,m.vars.map unD,m.procs.map unP⟩
def jsH:List (List Nat):=[[101,110,117,109],[118,97,114],[112,114,111,99,101,115,115]]
theorem uT (ts:List Tk)(n i:Nat)(m:SrcT):yq ts (n+1) i m=if isM (tk ts i) jsH=true then
  (if(tk ts i).text=[101,110,117,109] then
   (if 32<=m.enums.length then .er (tk ts i) else match Xd ts (i+1) with
    |.er t=>.er t
    |.ok e j=>yq ts n j { m with enums:=m.enums ++ [e] })
  else if(tk ts i).text=[118,97,114] then
   (if 32<=m.vars.length then .er (tk ts i) else match J7 ts (i+1) with
    |.er t=>.er t
    |.ok e j=>yq ts n j { m with vars:=m.vars ++ [e] })
  else(if 32<=m.procs.length then .er (tk ts i) else match J5 ts (i+1) with
    |.er t=>.er t
    |.ok e j=>yq ts n j { m with procs:=m.procs ++ [e] }))
 else if(tk ts i).kind=5 then .ok m i else .er (tk ts i):=by rw[yq];rfl
theorem jmR {a b:SrcT}(h:unS a=unS b):a.enums.map unN=b.enums.map unN/\a.vars.map unD=b.vars.map unD/\a.procs.map unP=b.procs.map unP:=by
 unfold unS at h;simp only[SrcT.mk.injEq] at h;exact h
end Go.Sy
end
noncomputable section
set_option maxRecDepth 100000
namespace Go.Sy
open Go.Ev Go.Proofs
abbrev qx:=Nat×List Nat×Nat
def Lx (s:List Nat)(cs:List qx)(ok:List Nat->Prop):Prop:=∀ rest p ts,ok rest->zb rest (jX p s)=(ts,(0,0,0))->∃ us,us.map JZ=cs/\zb (s ++ rest) p=(us ++ ts,(0,0,0))
theorem Lx.app {s s':List Nat}{cs cs':List qx}{ok ok':List Nat->Prop}(h:Lx s cs ok)(h':Lx s' cs' ok')(k:∀ r,ok' r->ok (s' ++ r)):Lx (s ++ s') (cs ++ cs') ok':=by
 intro rest p ts hr hc;rw[Vq] at hc;obtain⟨us',e',c'⟩:=h' rest _ ts hr hc;obtain⟨us,e,c⟩:=h (s' ++ rest) p _ (k _ hr) c';exact⟨us ++ us',by rw[QbQ,e,e'],by rw[QaC,c,QaC]⟩
theorem Lx.nil {ok:List Nat->Prop}:Lx [] [] ok:=λrest p ts _ h=>⟨[],rfl,h⟩
theorem Lx.word {x:Nat}{w:List Nat}{c:qx}{ok:List Nat->Prop}(hg:qN x=false/\x≠47)(h:∀ rest p,ok rest->∃ t,ye (x :: (w ++ rest)) p=(0,t,w.length+1)/\JZ t=c):Lx (x :: w) [c] ok:=by
 intro rest p ts hr hc;have g:jW (x :: (w ++ rest))=0:=jin hg;obtain⟨t,ht,hcore⟩:=h rest p hr;refine⟨[t],by simp[hcore],?_⟩;have e1:(x :: (w ++ rest)).drop 0=x :: (w ++ rest):=rfl;have e2:jX p ((x :: (w ++ rest)).take 0)=p:=rfl;have:=jiQ (r:=x :: (w ++ rest)) (p:=p) (n:=w.length+1) (t:=t) (by rw[g,e1,e2];exact ht) (by omega);rw[g,e1,e2] at this;have d1:(x :: (w ++ rest)).drop (w.length+1)=rest:=by simp
 have d2:(x :: (w ++ rest)).take (w.length+1)=x :: w:=by simp
 rw[d1,d2,hc] at this;exact this
theorem Lx.gap {c:Nat}(hc:c=32\/c=10){ok:List Nat->Prop}:Lx [c] [] ok:=by
 intro rest p ts _ h;refine⟨[],rfl,?_⟩;have g:jW (c :: rest)=jW rest+1:=by
  rw[<-WC _ _ (Qaq _),<-WC _ _ (Qaq _),Qe];rcases hc with rfl|rfl<;>rfl
 show zb (c :: rest) p=(ts,(0,0,0));rw[<-h];refine jk8 ?_ ?_
 ·rw[g];rfl
 ·rw[g];rfl
def okI (r:List Nat):Prop:=∀ c,r.head? = some c->yn c=false
def okS (r:List Nat):Prop:=∀ c,r.head? = some c->c≠46/\c≠61/\c≠62/\c≠45
def okZ (_:List Nat):Prop:=True
theorem Gx {p:Nat->Bool}:∀ {w r:List Nat},(∀ c∈w,p c=true)->(∀ c,r.head? = some c->p c=false)->qg p (w ++ r)=w.length
 |[],[],_,_=>rfl
 |[],c :: r,_,h=>by
  have:=h c rfl;show(if p c=true then _ else 0)=0;rw[this];rfl
 |x :: w,r,h1,h2=>by
  have hx:=h1 x (by simp);show(if p x=true then qg p (w ++ r)+1 else 0)=_;rw[if_pos hx,Gx (λc hc=>h1 c (by simp[hc])) h2];rfl
theorem jbp (w r:List Nat):(w ++ r).take w.length=w:=by simp
theorem jfw {x:Nat}(h:qd x=true):qN x=false/\x≠47:=by
 unfold qd at h;unfold qN;simp at h ⊢;omega
theorem jiM {x:Nat}(h:jP x=true):qN x=false/\x≠47/\qd x=false:=by
 unfold jP at h;unfold qN qd;simp at h ⊢;omega
theorem jd0 {p:Nat->Bool}:∀ {w:List Nat},qg p w=w.length->∀ c∈w,p c=true
 |[],_,c,h=>by simp at h
 |x :: w,h,c,hc=>by
  by_cases hx:p x=true
  ·have h':qg p w+1=w.length+1:=by
    have e:qg p (x :: w)=qg p w+1:=by show(if p x=true then _ else _)=_;rw[if_pos hx]
    rw[<-e];exact h
   rcases Qbh.1 hc with rfl|hc
   ·exact hx
   ·exact jd0 (by omega) c hc
  ·have e:qg p (x :: w)=0:=by show(if p x=true then _ else _)=_;rw[if_neg hx]
   rw[e] at h;simp at h
theorem Lx.letters {w:List Nat}(h1:qd (w.getD 0 0)=true)(h2:w.length<=32)(h3:qg yn w=w.length)(h0:w≠[]):Lx w [(if uG w=true then 4 else 1,w,0)] okI:=by
 cases w with
 |nil=>exact absurd rfl h0
 |cons x w=>
  have hx:qd x=true:=h1;refine Lx.word (jfw hx) λrest p hr=>?_;have hw:JA (x :: (w ++ rest))=w.length+1:=by
   rw[Y2,if_pos hx];exact Gx (w:=x :: w) (jd0 h3) hr
  have ht:(x :: (w ++ rest)).take (w.length+1)=x :: w:=jbp (x :: w) rest;have h2':¬ 32<w.length+1:=by simpa using h2
  rw[jdc hx,hw,if_neg h2',ht];exact⟨_,rfl,rfl⟩
theorem Lx.name {w:List Nat}(h:nm w=true):Lx w [(1,w,0)] okI:=by
 unfold nm at h;simp only[Qar,decide_eq_true_eq,QaR] at h;have:=Lx.letters h.1.1.2 h.1.1.1.2 h.2 h.1.1.1.1;rw[if_neg (by rw[h.1.2];decide)] at this;exact this
theorem Lx.sign {w:List Nat}{ok:List Nat->Prop}(h0:w≠[])(h1:qd (w.getD 0 0)=false)(h2:jP (w.getD 0 0)=false)(h3:qN (w.getD 0 0)=false/\w.getD 0 0≠47)(h:∀ r,ok r->Q9 (w ++ r)=w.length):Lx w [(3,w,0)] ok:=by
 cases w with
 |nil=>exact absurd rfl h0
 |cons x w=>
  refine Lx.word h3 λrest p hr=>?_;have hw:JA (x :: (w ++ rest))=w.length+1:=by
   rw[Y2,if_neg (by rw[show qd x=false from h1];decide),if_neg (by rw[show jP x=false from h2];decide)];exact h rest hr
  have ht:(x :: (w ++ rest)).take (w.length+1)=x :: w:=jbp (x :: w) rest;rw[jhM (x:=x) h1 h2 (by rw[hw];omega),hw,ht];exact⟨_,rfl,rfl⟩
theorem jpi {w r:List Nat}(hw:w∈zk)(hr:okS r):Q9 (w ++ r)=w.length:=by
 cases r with
 |nil=>
  have:∀ w∈zk,Q9 (w ++ [])=w.length:=by decide
  exact this w hw
 |cons c r=>
  obtain⟨h1,h2,h3,h4⟩:=hr c rfl;have e1:¬ 46=c:=λe=>h1 e.symm;simp only[zk,Qbh,List.not_mem_nil,or_false] at hw;rcases hw with rfl|rfl|rfl|rfl|rfl|rfl|rfl|rfl|rfl|rfl|rfl|rfl|rfl|rfl|rfl|rfl|rfl|rfl|rfl|rfl|rfl|rfl|rfl<;>simp[Q9,zk,XA,begins,h1,h2,h3,h4]
theorem Lx.signS {w:List Nat}(hw:w∈zk):Lx w [(3,w,0)] okS:=by
 have k:∀ w∈zk,w≠[]/\qd (w.getD 0 0)=false/\jP (w.getD 0 0)=false/\qN (w.getD 0 0)=false/\w.getD 0 0≠47:=by decide
 obtain⟨h0,h1,h2,h3⟩:=k w hw;exact Lx.sign h0 h1 h2 h3 λr hr=>jpi hw hr
theorem Lx.signA {w:List Nat}(hw:w∈[[40],[41],[46,46],[59],[44]]):Lx w [(3,w,0)] okZ:=by
 have k:∀ w∈([[40],[41],[46,46],[59],[44]]:List (List Nat)),w≠[]/\qd (w.getD 0 0)=false/\jP (w.getD 0 0)=false/\qN (w.getD 0 0)=false/\w.getD 0 0≠47:=by decide
 obtain⟨h0,h1,h2,h3⟩:=k w hw;refine Lx.sign h0 h1 h2 h3 λr _=>?_;simp only[Qbh,List.not_mem_nil,or_false] at hw;rcases hw with rfl|rfl|rfl|rfl|rfl<;>simp[Q9,zk,XA,begins]
theorem jnB (n:Nat):Jx n=if n<10 then [48+n] else Jx (n / 10) ++ [48+n % 10]:=by rw[Jx]
theorem kY (n:Nat):(∀ c∈Jx n,jP c=true)/\Jx n≠[]/\X9 (Jx n)=n:=by
 induction n using Nat.strongRecOn with
 |_ n ih=>
 rw[jnB];have d:∀ m,m<10->jP (48+m)=true:=by decide
 by_cases h:n<10
 ·rw[if_pos h];refine⟨λc hc=>?_,by simp,?_⟩
  ·simp at hc;subst hc;exact d n h
  ·show 10 * 0+(48+n - 48)=n;omega
 ·rw[if_neg h];obtain⟨i1,i2,i3⟩:=ih (n / 10) (by omega);refine⟨λc hc=>?_,by simp,?_⟩
  ·rcases Qbk.1 hc with hc|hc
   ·exact i1 c hc
   ·simp at hc;subst hc;exact d _ (by omega)
  ·unfold X9 at i3 ⊢;rw[QbV,i3];show 10 * (n / 10)+(48+n % 10 - 48)=n;omega
theorem p7:(10:Nat) ^ (6+1)=10000000:=by decide
theorem Lx.num {n:Nat}(h:n<=1000000):Lx (Jx n) [(2,Jx n,n)] okI:=by
 obtain⟨h1,h0,h2⟩:=kY n;have h7:=YK 6 n (by rw[p7];omega)
 revert h1 h0 h2 h7
 generalize Jx n=w;intro h1 h0 h2 h7;cases w with
 |nil=>exact absurd rfl h0
 |cons x w=>
  have hx:=h1 x (by simp);obtain⟨g1,g2,g3⟩:=jiM hx;refine Lx.word ⟨g1,g2⟩ λrest p hr=>?_;have hw:JA (x :: (w ++ rest))=w.length+1:=by
   rw[Y2,if_neg (by rw[g3];decide),if_pos hx];refine Gx (w:=x :: w) h1 λc hc=>?_;have:=hr c hc;unfold yn at this;simp at this;exact this.1.2
  have ht:(x :: (w ++ rest)).take (w.length+1)=x :: w:=jbp (x :: w) rest;have hn:¬ (7<w.length+1\/1000000<X9 (x :: w)):=by
   rw[h2];simp at h7;omega
  rw[jfq g3 hx,hw,ht,if_neg hn,h2];exact⟨_,rfl,rfl⟩
end Go.Sy
end
noncomputable section
set_option maxRecDepth 100000
namespace Go.Sy
open Go.Ev Go.Proofs
theorem Lx.weak {s:List Nat}{cs:List qx}{ok ok':List Nat->Prop}(h:Lx s cs ok)(k:∀ r,ok' r->ok r):Lx s cs ok':=λrest p ts hr hc=>h rest p ts (k rest hr) hc
def sgc (op:Int):qx:=(if qd ((sgn op).getD 0 0)=true then 4 else 3,sgn op,0)
def inC (x:Ex)(cs:List qx):List qx:=if x.kids.length=0 then cs else(3,[40],0) :: (cs ++ [(3,[41],0)])
inductive Wr:Ex->List qx->Prop
 |num (n:Nat) (l c:Int) (h:n<=1000000):Wr (.mk 1 (n:Int) [] [] l c) [(2,Jx n,n)]
 |tru (l c:Int):Wr (.mk 2 1 [] [] l c) [(4,[116,114,117,101],0)]
 |fal (l c:Int):Wr (.mk 2 0 [] [] l c) [(4,[102,97,108,115,101],0)]
 |name (w:List Nat) (l c:Int) (h:nm w=true):Wr (.mk 3 0 w [] l c) [(1,w,0)]
 |one (op:Int) (x:Ex) (cs:List qx) (l c:Int) (h1:5<=op) (h2:op<=13) (h:Wr x cs):Wr (.mk op 0 [] [x] l c) (sgc op :: inC x cs)
 |two (op:Int) (x y:Ex) (cs ds:List qx) (l c:Int) (h1:14<=op) (h2:op<=30) (h:Wr x cs) (k:Wr y ds):Wr (.mk op 0 [] [x,y] l c) (inC x cs ++ sgc op :: inC y ds)
theorem jpj {op:Int}{k:Nat}(h:op=((5+k:Nat):Int))(hk:k<26):sgn op=z8.getD k []:=by
 subst h;unfold sgn;rw[if_pos (by omega)]
 congr 1
 omega
theorem jrA {s:List Nat}(h:s∈[[41],[32],[59],[44]])(r:List Nat):okI (s ++ r):=by
 simp only[Qbh,List.not_mem_nil,or_false] at h;rcases h with rfl|rfl|rfl|rfl<;>(intro c hc;simp at hc;subst hc;decide)
theorem jhI (r:List Nat):okS (32 :: r):=by intro c hc;simp at hc;subst hc;decide
theorem VI (r:List Nat):okI (32 :: r):=by intro c hc;simp at hc;subst hc;decide
theorem jjc {op:Int}(h1:5<=op)(h2:op<=30):Lx (sgn op ++ [32]) [sgc op] okZ:=by
 obtain⟨k,hk⟩:∃ k:Nat,op=((5+k:Nat):Int):=⟨(op - 5).toNat,by omega⟩;have hk26:k<26:=by omega
 have e:=jpj hk hk26;unfold sgc;rw[e];have a:∀ k,k<26->(qd ((z8.getD k []).getD 0 0)=true/\(z8.getD k []).length<=32/\qg yn (z8.getD k [])=(z8.getD k []).length/\z8.getD k []≠[]/\uG (z8.getD k [])=true)\/(¬ qd ((z8.getD k []).getD 0 0)=true/\z8.getD k []∈zk):=by decide
 rcases a k hk26 with ⟨a1,a2,a3,a4,a5⟩|⟨a1,a2⟩
 ·rw[if_pos a1];have:=Lx.letters a1 a2 a3 a4;rw[if_pos a5] at this;exact this.app (cs':=[]) (Lx.gap (.inl rfl)) λr _=>VI r
 ·rw[if_neg a1];exact(Lx.signS a2).app (cs':=[]) (Lx.gap (.inl rfl)) λr _=>jhI r
def Fst (s:List Nat):Prop:=∃ c s',s=c :: s'/\c≠46/\c≠61/\c≠62/\c≠45
theorem Fst.ok {s:List Nat}(h:Fst s)(r:List Nat):okS (s ++ r):=by
 obtain⟨c,s',rfl,h⟩:=h;intro d hd;simp at hd;subst hd;exact h
theorem W3 {s:List Nat}(h:qd (s.getD 0 0)=true)(h0:s≠[]):Fst s:=by
 cases s with
 |nil=>exact absurd rfl h0
 |cons x s=>
  have h:qd x=true:=h;unfold qd at h;simp at h;exact⟨x,s,rfl,by omega,by omega,by omega,by omega⟩
theorem Hy {s:List Nat}(h:∀ c∈s,jP c=true)(h0:s≠[]):Fst s:=by
 cases s with
 |nil=>exact absurd rfl h0
 |cons x s=>
  have h:=h x (by simp);unfold jP at h;simp at h;exact⟨x,s,rfl,by omega,by omega,by omega,by omega⟩
structure Wo (x:Ex):Prop where
 wr:∃ cs,Wr x cs/\Lx (qe x) cs okI
 fst:x.kids.length=0->Fst (qe x)
 len:(qe x).length+2<=40 * yg x
theorem Wo.inn {x:Ex}(h:Wo x):(∃ cs,Wr x cs/\Lx (JW x) (inC x cs) okI)/\Fst (JW x)/\(JW x).length<=40 * yg x:=by
 obtain⟨⟨cs,h1,h2⟩,h3,h4⟩:=h;by_cases c:x.kids.length=0
 ·have e:JW x=qe x:=by rw[JW,if_pos c]
  rw[e];exact⟨⟨cs,h1,by rw[inC,if_pos c];exact h2⟩,h3 c,by omega⟩
 ·have e:JW x=40 :: (qe x ++ [41]):=by rw[JW,if_neg c]
  rw[e];refine⟨⟨cs,h1,?_⟩,⟨40,_,rfl,by decide⟩,by simp;omega⟩;rw[inC,if_neg c];exact(Lx.signA (w:=[40]) (by simp)).app (h2.app ((Lx.signA (w:=[41]) (by simp)).weak (ok':=okI) λ_ _=>trivial) λr _=>jrA (by simp) r) λ_ _=>trivial
theorem jcg {x:Ex}{k:Ex}(h:Xx 4 x=false)(hk:k∈x.kids):Xx 4 k=false:=by
 cases x with
 |mk o n nm ks l c=>
  have h:(decide (o=4) ||zM 4 ks)=false:=h;have e:∀ ks:List Ex,zM 4 ks=false->∀ k∈ks,Xx 4 k=false:=by
   intro ks;induction ks with
   |nil=>intro _ k hk;simp at hk
   |cons a ks ih=>
    intro h k hk;have h:(Xx 4 a ||zM 4 ks)=false:=h;simp only[Qbq] at h;rcases Qbh.1 hk with rfl|hk
    ·exact h.1
    ·exact ih h.2 k hk
  simp only[Qbq] at h;exact e ks h.2 k hk
theorem jil {x:Ex}(h:Xx 4 x=false):x.op≠4:=by
 cases x with
 |mk o n nm ks l c=>
  have h:(decide (o=4) ||zM 4 ks)=false:=h;simp only[Qbq,decide_eq_false_iff_not] at h;exact h.1
theorem wo:∀ x:Ex,zV x=true->Xx 4 x=false->Wo x:=by
 refine Ex.indk λx ih hs h4=>?_;obtain⟨h1,h2,h3,h5⟩:=wu hs;have ho:=jil h4;have kid:∀ k∈x.kids,Wo k:=λk hk=>ih k hk (h2 k hk) (jcg h4 hk);clear ih h2 hs h4;cases x with
 |mk op num name ks l c=>
 simp only[Ex.op,Ex.num,Ex.name,Ex.kids] at *;have sz:yg (.mk op num name ks l c)=qO ks+1:=rfl;unfold Yw at h1;unfold ZS at h3
 match ks,h1,kid,sz with
 |[],h1,_,sz=>
  have hop:1<=op/\op<=4:=by
   simp only[Qan] at h1;split at h1
   ·assumption
   ·split at h1
    ·omega
    ·split at h1<;>omega
  have sz:yg (.mk op num name [] l c)=1:=rfl;by_cases e1:op=1
  ·subst e1;simp at h3;obtain⟨n,rfl⟩:∃ n:Nat,num=(n:Int):=⟨num.toNat,by omega⟩;have hn:name=[]:=by simpa using h5
   subst hn;have hl:=YK 6 n (by rw[p7];omega);have e:qe (.mk 1 (n:Int) [] [] l c)=Jx n:=by
    rw[wR,if_pos rfl,Q8,if_neg (by omega)];rfl
   obtain⟨d1,d2,_⟩:=kY n;exact⟨⟨_,.num n l c (by omega),by rw[e];exact Lx.num (by omega)⟩,λ_=>by rw[e];exact Hy d1 d2,by rw[e,sz];omega⟩
  ·by_cases e2:op=2
   ·subst e2;simp at h3;have hn:name=[]:=by simpa using h5
    subst hn;rcases h3 with rfl|rfl
    ·have e:qe (.mk 2 0 [] [] l c)=[102,97,108,115,101]:=by rw[wR,if_neg (by decide),if_pos rfl,if_neg (by decide)]
     have L:=Lx.letters (w:=[102,97,108,115,101]) (by decide) (by decide) (by decide) (by decide);rw[if_pos (by decide)] at L;exact⟨⟨_,.fal l c,by rw[e];exact L⟩,λ_=>by rw[e];exact W3 (by decide) (by decide),by rw[e,sz];decide⟩
    ·have e:qe (.mk 2 1 [] [] l c)=[116,114,117,101]:=by rw[wR,if_neg (by decide),if_pos rfl,if_pos (by decide)]
     have L:=Lx.letters (w:=[116,114,117,101]) (by decide) (by decide) (by decide) (by decide);rw[if_pos (by decide)] at L;exact⟨⟨_,.tru l c,by rw[e];exact L⟩,λ_=>by rw[e];exact W3 (by decide) (by decide),by rw[e,sz];decide⟩
   ·have e3:op=3:=by omega
    subst e3;simp at h3;obtain⟨rfl,h3⟩:=h3;have e:qe (.mk 3 0 name [] l c)=name:=by rw[wR,if_neg (by decide),if_neg (by decide)]
    have hl:name.length<=32:=by(have h:=h3;unfold nm at h;simp only[Qar,decide_eq_true_eq,QaR] at h;exact h.1.1.1.2)
    have hf:qd (name.getD 0 0)=true/\name≠[]:=by
     have h:=h3;unfold nm at h;simp only[Qar,decide_eq_true_eq,QaR] at h;exact⟨h.1.1.2,h.1.1.1.1⟩
    exact⟨⟨_,.name name l c h3,by rw[e];exact Lx.name h3⟩,λ_=>by rw[e];exact W3 hf.1 hf.2,by rw[e,sz];omega⟩
 |[x],h1,kid,sz=>
  have hop:5<=op/\op<=13:=by
   simp only[Qaj,Qan] at h1;split at h1
   ·omega
   ·split at h1
    ·assumption
    ·split at h1<;>omega
  have hn:name=[]:=by rcases h5 with h|h;omega;exact h
  have hz:num=0:=by
   rw[if_neg (by omega),if_neg (by omega),if_neg (by omega),if_neg (by omega)] at h3;simpa using h3
  subst hn hz;obtain⟨⟨cs,w1,w2⟩,w3,w4⟩:=(kid x (by simp)).inn;have sz:yg (.mk op 0 [] [x] l c)=yg x+1:=by rw[sz];simp[qO]
  have sl:=uV op;refine⟨⟨_,.one op x cs l c hop.1 hop.2 w1,?_⟩,λh=>by simp[Ex.kids] at h,?_⟩
  ·rw[Ur];by_cases h6:6<op
   ·rw[if_pos h6];exact(jjc (by omega) (by omega)).app w2 λ_ _=>trivial
   ·rw[if_neg h6,Qbf];have hw:sgn op∈zk/\sgc op=(3,sgn op,0):=by
     have:op=5\/op=6:=by omega
     rcases this with rfl|rfl<;>decide
    have L:=Lx.signS hw.1;rw[<-hw.2] at L;exact L.app w2 λr _=>w3.ok r
  ·rw[Ur,sz];simp only[Qak];split<;>simp<;>omega
 |[x,y],h1,kid,sz=>
  have hop:14<=op/\op<=30:=by
   simp only[Qaj,Qan] at h1;split at h1
   ·omega
   ·split at h1
    ·omega
    ·split at h1
     ·assumption
     ·omega
  have hn:name=[]:=by rcases h5 with h|h;omega;exact h
  have hz:num=0:=by
   rw[if_neg (by omega),if_neg (by omega),if_neg (by omega),if_neg (by omega)] at h3;simpa using h3
  subst hn hz;obtain⟨⟨cs,w1,w2⟩,w3,w4⟩:=(kid x (by simp)).inn;obtain⟨⟨ds,v1,v2⟩,v3,v4⟩:=(kid y (by simp)).inn;have sz:yg (.mk op 0 [] [x,y] l c)=yg x+yg y+1:=by rw[sz];simp[qO]
  have sl:=uV op;refine⟨⟨_,.two op x y cs ds l c hop.1 hop.2 w1 v1,?_⟩,λh=>by simp[Ex.kids] at h,?_⟩
  ·rw[Uq];have e:JW x ++ [32] ++ sgn op ++ [32] ++ JW y=JW x ++ ([32] ++ ((sgn op ++ [32]) ++ JW y)):=by simp
   rw[e];refine w2.app (cs':=sgc op :: inC y ds) (ok':=okI) (Lx.app (cs:=[]) (cs':=sgc op :: inC y ds) (ok':=okI) (Lx.gap (.inl rfl) (ok:=okZ)) ((jjc (by omega) (by omega)).app v2 λ_ _=>trivial) λ_ _=>trivial) λr _=>VI _
  ·rw[Uq,sz];simp only[Qak,Qaj,Qan];omega
 |x :: y :: z :: r,h1,_,_=>
  simp only[Qaj] at h1;split at h1
  ·omega
  ·split at h1
   ·omega
   ·split at h1<;>omega
end Go.Sy
end
noncomputable section
set_option maxRecDepth 100000
namespace Go.Sy
open Go.Ev Go.Proofs
def At (ts:List Tk):Nat->List qx->Prop
 |_,[]=>True
 |i,c :: cs=>JZ (tk ts i)=c/\At ts (i+1) cs
theorem At.app {ts:List Tk}:∀ {a b:List qx} {i:Nat},At ts i (a ++ b)->At ts i a/\At ts (i+a.length) b
 |[],b,i,h=>⟨trivial,h⟩
 |c :: a,b,i,h=>by
  obtain⟨h1,h2⟩:=h;obtain⟨h3,h4⟩:=At.app h2;refine⟨⟨h1,h3⟩,?_⟩;have e:i+(c :: a).length=i+1+a.length:=by simp;omega
  rw[e];exact h4
def isC (c:qx)(S:List (List Nat)):Bool:=decide (c.1=3\/c.1=4) && decide (c.2.1∈S)
theorem yV (t:Tk)(S:List (List Nat)):isM t S=isC (JZ t) S:=rfl
def WB (c:qx):Bool:=q6.all λv=>!isC c v.1
def Fin (f:Nat->Option PR)(x:Ex)(j:Nat):Prop:=∃ N y,unE y=unE x/\∀ n,N<=n->f n=some (.ok y j)
theorem jaS {f:Nat->Option PR}{y x:Ex}{j:Nat}(h:unE y=unE x)(k:∀ n,f (n+1)=some (.ok y j)):Fin f x j:=⟨1,y,h,λn hn=>by
 obtain⟨m,rfl⟩:∃ m,n=m+1:=⟨n - 1,by omega⟩;exact k m⟩
theorem Fin.step {f g:Nat->Option PR}{x:Ex}{j:Nat}(h:Fin f x j)(k:∀ n,g (n+1)=f n):Fin g x j:=by
 obtain⟨N,y,h1,h2⟩:=h;refine⟨N+1,y,h1,λn hn=>?_⟩;obtain⟨m,rfl⟩:∃ m,n=m+1:=⟨n - 1,by omega⟩;rw[k,h2 m (by omega)]
theorem Zh {ts:List Tk}{x:Ex}{i d j:Nat}(h:Fin (λn=>qZ ts n i d) x j):∀ l:List Lev,(∀ v∈l,isM (tk ts j) v.1=false)->Fin (λn=>qw ts n l i d) x j
 |[],_=>h.step λn=>by rw[qw]
 |v :: l,hl=>by
  obtain⟨N,y,h1,h2⟩:=Zh h l λw hw=>hl w (by simp[hw]);refine⟨N+2,y,h1,λn hn=>?_⟩;obtain⟨m,rfl⟩:∃ m,n=m+2:=⟨n - 2,by omega⟩;show qw ts (m+1+1) (v :: l) i d=_;have q:=h2 (m+1) (by omega);dsimp only at q;rw[qw,q];show yE ts (m+1) v l y j d=_;rw[yE,if_neg (by rw[hl v (by simp)];decide)]
theorem GE {ts:List Tk}{x y:Ex}{i d j k:Nat}(h:Fin (λn=>qZ ts n i d) x j)(h':Fin (λn=>qZ ts n (j+1) d) y k):∀ l:List Lev,(∀ v∈l,isM (tk ts k) v.1=false)->(∃ v∈l,isM (tk ts j) v.1=true)->l.Pairwise (λv w=>isM (tk ts j) v.1=true->isM (tk ts j) w.1=false)->Fin (λn=>qw ts n l i d) (zA (tk ts j) x y) k
 |[],_,hx,_=>by obtain⟨v,hv,_⟩:=hx;simp at hv
 |v :: l,hl,hx,hp=>by
  obtain⟨hp1,hp2⟩:=List.pairwise_cons.1 hp;have hk:=hl v (by simp);have hl':∀ w∈l,isM (tk ts k) w.1=false:=λw hw=>hl w (by simp[hw]);by_cases hv:isM (tk ts j) v.1=true
  ·obtain⟨N1,a,a1,a2⟩:=Zh h l λw hw=>hp1 w hw hv;obtain⟨N2,b,b1,b2⟩:=Zh h' l hl';obtain⟨N3,c,c1,c2⟩:=Zh h' (v :: l) hl;have un:∀ b,unE b=unE y->unE (zA (tk ts j) a b)=unE (zA (tk ts j) x y):=λb hb=>jmT rfl a1 hb;by_cases w1:v.2=1
   ·refine⟨N1+N3+2,zA (tk ts j) a c,un c c1,λn hn=>?_⟩;obtain⟨m,rfl⟩:∃ m,n=m+2:=⟨n - 2,by omega⟩;show qw ts (m+1+1) (v :: l) i d=_;have q:=a2 (m+1) (by omega);dsimp only at q;rw[qw,q];show yE ts (m+1) v l a j d=_;have c3:=c2 m (by omega);dsimp only at c3;rw[yE,if_pos hv,if_pos w1,c3]
   ·have b3:=λm (hm:N2<=m)=>b2 m hm;by_cases w2:v.2=2
    ·refine⟨N1+N2+2,zA (tk ts j) a b,un b b1,λn hn=>?_⟩;obtain⟨m,rfl⟩:∃ m,n=m+2:=⟨n - 2,by omega⟩;show qw ts (m+1+1) (v :: l) i d=_;have q:=a2 (m+1) (by omega);dsimp only at q;rw[qw,q];show yE ts (m+1) v l a j d=_;have q:=b3 m (by omega);dsimp only at q;rw[yE,if_pos hv,if_neg w1,q];show(if v.2=2 then _ else _)=_;rw[if_pos w2]
    ·refine⟨N1+N2+3,zA (tk ts j) a b,un b b1,λn hn=>?_⟩;obtain⟨m,rfl⟩:∃ m,n=m+3:=⟨n - 3,by omega⟩;show qw ts (m+1+1+1) (v :: l) i d=_;have q:=a2 (m+1+1) (by omega);dsimp only at q;rw[qw,q];show yE ts (m+1+1) v l a j d=_;have q:=b3 (m+1) (by omega);dsimp only at q;rw[yE,if_pos hv,if_neg w1,q];show(if v.2=2 then _ else _)=_;rw[if_neg w2,yE,if_neg (by rw[hk];decide)]
  ·obtain⟨N,z,z1,z2⟩:=GE h h' l hl' (by
    obtain⟨w,hw,hw2⟩:=hx;rcases Qbh.1 hw with rfl|hw
    ·exact absurd hw2 hv
    ·exact⟨w,hw,hw2⟩) hp2
   refine⟨N+2,z,z1,λn hn=>?_⟩;obtain⟨m,rfl⟩:∃ m,n=m+2:=⟨n - 2,by omega⟩;show qw ts (m+1+1) (v :: l) i d=_;have q:=z2 (m+1) (by omega);dsimp only at q;rw[qw,q];show yE ts (m+1) v l z k d=_;rw[yE,if_neg (by rw[hk];decide)]
theorem jlN:∀ k,k<17->(q6.any λv=>isC (sgc ((14+k:Nat):Int)) v.1)=true/\q6.Pairwise (λv w=>isC (sgc ((14+k:Nat):Int)) v.1=true->isC (sgc ((14+k:Nat):Int)) w.1=false)/\ZO (sgc ((14+k:Nat):Int)).2.1=some k:=by decide +kernel
theorem jl3:∀ k,k<9->isC (sgc ((5+k:Nat):Int)) yJ=true/\Yn (sgc ((5+k:Nat):Int)).2.1=5+k:=by decide +kernel
def uz (x:Ex)(cs:List qx):Prop:=∀ ts i d,At ts i cs->x.kids.length=0->Fin (λn=>yO ts n i d) x (i+cs.length)/\isM (tk ts i) yJ=false
def jgm (x:Ex)(cs:List qx):Prop:=∀ ts i d,At ts i cs->d+2 * zO x<=62->WB (JZ (tk ts (i+cs.length)))=true->Fin (λn=>qw ts n q6 i d) x (i+cs.length)
theorem wS {ts:List Tk}{j:Nat}(h:WB (JZ (tk ts j))=true):∀ v∈q6,isM (tk ts j) v.1=false:=λv hv=>by
 have:=Qax.1 h v hv;rw[yV];simpa using this
theorem jkR {x:Ex}{cs:List qx}(hL:uz x cs)(hT:jgm x cs){ts:List Tk}{i d:Nat}(h:At ts i (inC x cs))(hd:d+2 * zO x<=61):Fin (λn=>yO ts n i d) x (i+(inC x cs).length)/\isM (tk ts i) yJ=false:=by
 by_cases c:x.kids.length=0
 ·have e:inC x cs=cs:=by rw[inC,if_pos c]
  rw[e] at h ⊢;exact hL ts i d h c
 ·have e:inC x cs=(3,[40],0) :: (cs ++ [(3,[41],0)]):=by rw[inC,if_neg c]
  rw[e] at h ⊢;obtain⟨h1,h2⟩:=h;obtain⟨h3,h4,_⟩:=h2.app;have el:i+((3,[40],0) :: (cs ++ [(3,[41],0)]):List qx).length=i+1+cs.length+1:=by simp;omega
  rw[el];have hd2:2<=zO x:=by
   rw[XI];cases hk:x.kids with
   |nil=>rw[hk] at c;simp at c
   |cons a l=>
    have e:yl (a :: l)=max (zO a) (yl l):=rfl;have:=XI a;omega
  obtain⟨N,y,y1,y2⟩:=hT ts (i+1) (d+1) h3 (by omega) (by rw[h4];decide);have k1:(tk ts i).kind=3:=congrArg Prod.fst h1;refine⟨⟨N+1,y,y1,λn hn=>?_⟩,by rw[yV,h1];decide⟩;obtain⟨m,rfl⟩:∃ m,n=m+1:=⟨n - 1,by omega⟩;have y3:=y2 m (by omega);dsimp only at y3;show yO ts (m+1) i d=_;rw[yO,if_neg (by omega),if_neg (by omega),if_neg (by rw[yV,h1];decide),if_neg (by rw[yV,h1];decide),if_pos (by rw[yV,h1];decide),if_neg (by omega),y3];show(if isM (tk ts (i+1+cs.length)) [[41]]=true then _ else _)=_;rw[if_pos (by rw[yV,h4];decide)]
theorem YJ {ts:List Tk}{x:Ex}{i d j:Nat}(h:Fin (λn=>yO ts n i d) x j)(k:isM (tk ts i) yJ=false):Fin (λn=>qZ ts n i d) x j:=h.step λn=>by
 show qZ ts (n+1) i d=_;rw[qZ,if_neg (by rw[k];decide)]
theorem jap {x:Ex}{cs:List qx}(h:Wr x cs):uz x cs/\jgm x cs:=by
 have leaf:∀ {x:Ex} {cs:List qx},x.kids.length=0->uz x cs->uz x cs/\jgm x cs:=λhk hL=>⟨hL,λts i d hA _ hS=>by
  obtain⟨a,b⟩:=hL ts i d hA hk;exact Zh (YJ a b) _ (wS hS)⟩
 induction h with
 |num n l c h=>
  refine leaf rfl λts i d hA _=>?_;obtain⟨h1,_⟩:=hA;have k1:(tk ts i).kind=2:=congrArg Prod.fst h1;have k2:(tk ts i).num=n:=congrArg (λc:qx=>c.2.2) h1;refine⟨jaS (y:=.mk 1 (tk ts i).num [] [] (tk ts i).line (tk ts i).col) (by simp only[unE,Jo,k2]) λm=>?_,by rw[yV,h1];rfl⟩;show yO ts (m+1) i d=_;rw[yO,if_pos k1];rfl
 |tru l c=>
  refine leaf rfl λts i d hA _=>?_;obtain⟨h1,_⟩:=hA;have k1:(tk ts i).kind=4:=congrArg Prod.fst h1;refine⟨jaS (y:=.mk 2 1 [] [] (tk ts i).line (tk ts i).col) (by simp only[unE,Jo]) λm=>?_,by rw[yV,h1];decide⟩;show yO ts (m+1) i d=_;rw[yO,if_neg (by omega),if_neg (by omega),if_pos (by rw[yV,h1];decide)];rfl
 |fal l c=>
  refine leaf rfl λts i d hA _=>?_;obtain⟨h1,_⟩:=hA;have k1:(tk ts i).kind=4:=congrArg Prod.fst h1;refine⟨jaS (y:=.mk 2 0 [] [] (tk ts i).line (tk ts i).col) (by simp only[unE,Jo]) λm=>?_,by rw[yV,h1];decide⟩;show yO ts (m+1) i d=_;rw[yO,if_neg (by omega),if_neg (by omega),if_neg (by rw[yV,h1];decide),if_pos (by rw[yV,h1];decide)];rfl
 |name w l c h=>
  refine leaf rfl λts i d hA _=>?_;obtain⟨h1,_⟩:=hA;have k1:(tk ts i).kind=1:=congrArg Prod.fst h1;have k2:(tk ts i).text=w:=congrArg (λc:qx=>c.2.1) h1;refine⟨jaS (y:=.mk 3 0 (tk ts i).text [] (tk ts i).line (tk ts i).col) (by simp only[unE,Jo,k2]) λm=>?_,by rw[yV,h1];rfl⟩;show yO ts (m+1) i d=_;rw[yO,if_neg (by omega),if_pos k1];rfl
 |one op x cs l c h1 h2 h ih=>
  refine⟨λts i d _ hk=>by simp[Ex.kids] at hk,λts i d hA hd hS=>?_⟩;obtain⟨k,rfl⟩:∃ k:Nat,op=((5+k:Nat):Int):=⟨(op - 5).toNat,by omega⟩;obtain⟨o1,o2⟩:=jl3 k (by omega);obtain⟨a1,a2⟩:=hA;have hdm:zO (.mk ((5+k:Nat):Int) 0 [] [x] l c)=zO x+1:=by
   rw[XI];show max (zO x) 0+1=_;omega
  have hd1:=XI x;have el:i+(sgc ((5+k:Nat):Int) :: inC x cs).length=i+1+(inC x cs).length:=by simp;omega
  rw[el] at hS ⊢;obtain⟨f1,f2⟩:=jkR ih.1 ih.2 a2 (d:=d+1) (by omega);obtain⟨N,y,y1,y2⟩:=YJ f1 f2;have ot:Yn (tk ts i).text=5+k:=by
   have:(tk ts i).text=(sgc ((5+k:Nat):Int)).2.1:=congrArg (λc:qx=>c.2.1) a1;rw[this];exact o2
  refine Zh ⟨N+1,.mk (Yn (tk ts i).text:Nat) 0 [] [y] (tk ts i).line (tk ts i).col,by simp only[unE,Jo,y1,ot],λn hn=>?_⟩ _ (wS hS);obtain⟨m,rfl⟩:∃ m,n=m+1:=⟨n - 1,by omega⟩;have y3:=y2 m (by omega);dsimp only at y3;show qZ ts (m+1) i d=_;rw[qZ,if_pos (by rw[yV,a1];exact o1),if_neg (by omega),y3]
 |two op x y cs ds l c h1 h2 h k ih ik=>
  refine⟨λts i d _ hk=>by simp[Ex.kids] at hk,λts i d hA hd hS=>?_⟩;obtain⟨k,rfl⟩:∃ k:Nat,op=((14+k:Nat):Int):=⟨(op - 14).toNat,by omega⟩;obtain⟨o1,o2,o3⟩:=jlN k (by omega);obtain⟨a0,a1,a2⟩:=hA.app;have hdm:zO (.mk ((14+k:Nat):Int) 0 [] [x,y] l c)=max (zO x) (zO y)+1:=by
   rw[XI];show max (zO x) (max (zO y) 0)+1=_;omega
  have el:i+(inC x cs ++ sgc ((14+k:Nat):Int) :: inC y ds).length=i+(inC x cs).length+1+(inC y ds).length:=by simp;omega
  rw[el] at hS ⊢;obtain⟨f1,f2⟩:=jkR ih.1 ih.2 a0 (d:=d) (by omega);obtain⟨g1,g2⟩:=jkR ik.1 ik.2 a2 (d:=d) (by omega);have T:=GE (YJ f1 f2) (YJ g1 g2) q6 (wS hS) (by
   obtain⟨v,hv,hv2⟩:=List.any_eq_true.1 o1;exact⟨v,hv,by rw[yV,a1];exact hv2⟩) (o2.imp λ{v w} hvw h=>by
    rw[yV,a1] at h ⊢;exact hvw h)
  obtain⟨N,z,z1,z2⟩:=T;refine⟨N,z,?_,z2⟩;rw[z1];have:(tk ts (i+(inC x cs).length)).text=(sgc ((14+k:Nat):Int)).2.1:=congrArg (λc:qx=>c.2.1) a1;unfold zA;rw[this,o3];simp only[unE,Jo]
end Go.Sy
end
noncomputable section
set_option maxRecDepth 100000
namespace Go.Sy
open Go.Ev Go.Proofs
section
variable {s w:List Nat} {cs ds:List qx} {ok:List Nat->Prop}
theorem jpC (r:List Nat):okS (10 :: r):=by intro c hc;simp at hc;subst hc;decide
theorem Lx.sp (h:Lx s cs ok):Lx (32 :: s) cs ok:=Lx.app (s:=[32]) (cs:=[]) (ok:=okZ) (Lx.gap (.inl rfl)) h λ_ _=>trivial
theorem Lx.nl (h:Lx s cs ok):Lx (10 :: s) cs ok:=Lx.app (s:=[10]) (cs:=[]) (ok:=okZ) (Lx.gap (.inr rfl)) h λ_ _=>trivial
theorem Lx.wsp (k:Lx w ds okI)(h:Lx s cs ok):Lx (w ++ 32 :: s) (ds ++ cs) ok:=k.app h.sp λr _=>VI _
theorem Lx.ssp (k:w∈zk)(h:Lx s cs ok):Lx (w ++ 32 :: s) ((3,w,0) :: cs) ok:=(Lx.signS k).app h.sp λr _=>jhI _
theorem Lx.snl (k:w∈zk)(h:Lx s cs ok):Lx (w ++ 10 :: s) ((3,w,0) :: cs) ok:=(Lx.signS k).app h.nl λr _=>jpC _
end
def jS:List (List Nat)->List Nat
 |[]=>[]
 |y :: ys=>44 :: 32 :: (y ++ jS ys)
def jT:List (List qx)->List qx
 |[]=>[]
 |y :: ys=>(3,[44],0) :: (y ++ jT ys)
theorem jd1 (x:List Nat):∀ xs,Jm (x :: xs)=x ++ jS xs:=by
 intro xs;rw[Jm]
 congr 1
 induction xs with
 |nil=>rfl
 |cons y ys ih=>rw[QbU,ih];simp[jS]
theorem jpD (r:List Nat):okI (44 :: r):=by intro c hc;simp at hc;subst hc;decide
theorem GT {α:Type}{f:α->List Nat}{g:α->List qx}:∀ {ps:List α},(∀ p∈ps,Lx (f p) (g p) okI)->Lx (jS (ps.map f)) (jT (ps.map g)) okI/\∀ r,okI r->okI (jS (ps.map f) ++ r)
 |[],_=>⟨Lx.nil,λr h=>h⟩
 |p :: ps,h=>by
  obtain⟨i1,i2⟩:=GT (ps:=ps) λq hq=>h q (by simp[hq]);refine⟨?_,λr _=>jpD _⟩;exact Lx.app (s:=[44]) (cs:=[(3,[44],0)]) (ok:=okZ) (Lx.signA (by simp)) (Lx.sp ((h p (by simp)).app i1 i2)) λ_ _=>trivial
theorem jjh {ts:List Tk}:∀ {us:List Tk} {cs:List qx} {pre post:List Tk},us.map JZ=cs->ts=pre ++ us ++ post->At ts pre.length cs
 |[],cs,pre,post,h,e=>by
  simp at h;subst h;trivial
 |u :: us,cs,pre,post,h,e=>by
  cases cs with
  |nil=>simp at h
  |cons c cs=>
   simp only[Qai,List.cons.injEq] at h;have i:=jjh (ts:=ts) (us:=us) (cs:=cs) (pre:=pre ++ [u]) (post:=post) h.2 (by rw[e];simp);refine⟨?_,by simpa using i⟩;rw[e,tk];simp[QaB,h.1]
theorem jmv {s:List Nat}{cs:List qx}{ok:List Nat->Prop}(h:Lx s cs ok)(hk:ok [])(hl:s.length<=65536):∃ t,(qb s).2=(0,0,0)/\At (qb s).1 0 cs/\JZ (tk (qb s).1 cs.length)=(5,[],0)/\(qb s).1.length=cs.length+1/\tk (qb s).1 cs.length=t:=by
 have h0:zb [] (jX (1,1) s)=([⟨5,[],0,(jX (1,1) s).1,(jX (1,1) s).2⟩],(0,0,0)):=by
  have g:jW []=0:=by have:=w9 [];simpa using this
  refine jk9 ?_;rw[g];rfl
 obtain⟨us,e1,e2⟩:=h [] (1,1) _ hk h0;rw[Qbf] at e2;have ec:qb s=(us ++ [⟨5,[],0,(jX (1,1) s).1,(jX (1,1) s).2⟩],(0,0,0)):=by
  rw[qb,if_neg (by omega),e2]
 have el:us.length=cs.length:=by rw[<-e1,QaQ]
 have et:tk (us ++ [⟨5,[],0,(jX (1,1) s).1,(jX (1,1) s).2⟩]) cs.length=⟨5,[],0,(jX (1,1) s).1,(jX (1,1) s).2⟩:=by
  rw[tk,<-el];simp
 refine⟨_,by rw[ec],?_,?_,?_,rfl⟩
 ·rw[ec];exact jjh (pre:=[]) e1 (by simp;rfl)
 ·rw[ec];show JZ (tk _ _)=_;rw[et];rfl
 ·rw[ec];simp[el]
theorem jrI:WB (5,[],0)=true:=by decide
end Go.Sy
end
noncomputable section
set_option maxRecDepth 100000
namespace Go.Sy
open Go.Ev Go.Proofs
def It (s kw:List Nat)(P:List Tk->Nat->Nat->Prop):Prop:=∃ cs,Lx s ((4,kw,0) :: cs) okZ/\∀ ts i,At ts i cs->i+cs.length<=ts.length->P ts i (i+cs.length)
theorem Lx.kw {w s:List Nat}{cs:List qx}{ok:List Nat->Prop}(h1:qd (w.getD 0 0)=true)(h2:w.length<=32)(h3:qg yn w=w.length)(h0:w≠[])(hk:uG w=true)(h:Lx s cs ok):Lx (w ++ 32 :: s) ((4,w,0) :: cs) ok:=by
 have:=Lx.letters h1 h2 h3 h0;rw[if_pos hk] at this;exact this.wsp h
theorem zp {t:Tk}{c:qx}(h:JZ t=c):t.kind=c.1:=congrArg Prod.fst h
theorem ym {t:Tk}{c:qx}(h:JZ t=c):t.text=c.2.1:=congrArg (λc:qx=>c.2.1) h
theorem jcF {t:Tk}{c:qx}(h:JZ t=c):t.num=c.2.2:=congrArg (λc:qx=>c.2.2) h
theorem yj {t:Tk}{c:qx}(h:JZ t=c){S:List (List Nat)}(k:isC c S=true):isM t S=true:=by rw[yV,h];exact k
theorem Z1 {t:Tk}{c:qx}(h:JZ t=c){S:List (List Nat)}(k:isC c S=false):¬ isM t S=true:=by rw[yV,h,k];decide
theorem jgz {ts:List Tk}:∀ (xs:List (List Nat)) (x:List Nat) (n i:Nat) (vs:List (List Nat)),At ts i ((1,x,0) :: (jT (xs.map λy=>[(1,y,0)]) ++ [(3,[125],0)]))->vs.length+xs.length+1<=32->xs.length+1<=n->QO ts n i vs=.ok (vs ++ x :: xs) (i+(2 * xs.length+2))
 |[],x,n,i,vs,h,h1,h2=>by
  obtain⟨a1,a2,_⟩:=h;obtain⟨n,rfl⟩:∃ m,n=m+1:=⟨n - 1,by omega⟩;simp only[Qan] at h1;rw[QO,if_pos (zp a1),if_neg (by omega),if_neg (Z1 a2 (by decide)),if_pos (yj a2 (by decide)),ym a1];rfl
 |y :: ys,x,n,i,vs,h,h1,h2=>by
  obtain⟨a1,a2,a3⟩:=h;obtain⟨n,rfl⟩:∃ m,n=m+1:=⟨n - 1,by simp at h2;omega⟩;simp only[Qaj] at h1 h2;have ih:=jgz ys y n (i+2) (vs ++ [x]) a3 (by simp;omega) (by omega);rw[QO,if_pos (zp a1),if_neg (by omega),if_pos (yj a2 (by decide)),ym a1];show QO ts n (i+2) (vs ++ [x])=_;rw[ih];simp;omega
theorem jpV {α:Type}{f:α->qx}:∀ xs:List α,(jT (xs.map λy=>[f y])).length=2 * xs.length
 |[]=>rfl
 |x :: xs=>by
  have:=jpV (f:=f) xs;simp only[Qai,jT,Qaj,Qak,this,Qan];omega
theorem jnz {e:EnumT}{s:List Nat}(h:JH e=some s):It s [101,110,117,109] λts i j=>∃ e',Xd ts i=.ok e' j/\unN e'=unN e:=by
 unfold JH at h;split at h
 ·rename_i hh;obtain⟨h1,h2,h3,h4⟩:=hh;simp only[Option.some.injEq] at h;subst h;obtain⟨name,vals,l,c⟩:=e;dsimp only at *;cases vals with
  |nil=>simp at h2
  |cons x xs=>
   have hx:=Qax.1 h4;obtain⟨J1,J2⟩:=GT (f:=λy:List Nat=>y) (g:=λy=>[((1,y,0):qx)]) (ps:=xs) λp hp=>Lx.name (hx p (by simp[hp]));rw[List.map_id'] at J1 J2;have T:Lx (32 :: ([125] ++ 10 :: [])) [(3,[125],0)] okZ:=Lx.sp (Lx.snl (by decide) Lx.nil);refine⟨(1,name,0) :: (3,[123],0) :: ([(1,x,0)] ++ (jT (xs.map λy=>[((1,y,0):qx)]) ++ [(3,[125],0)])),?_,λts i hA hl=>?_⟩
   ·have e:[101,110,117,109,32] ++ name ++ [32,123,32] ++ Jm (x :: xs) ++ [32,125,10]=[101,110,117,109] ++ 32 :: (name ++ 32 :: ([123] ++ 32 :: (x ++ (jS xs ++ 32 :: ([125] ++ 10 :: []))))):=by
     rw[jd1];simp
    rw[e];refine Lx.kw (by decide) (by decide) (by decide) (by decide) (by decide) ((Lx.name h1).wsp (Lx.ssp (by decide) ?_));exact(Lx.name (hx x (by simp))).app (J1.app T λr _=>VI _) λr _=>by
     rw[QaC];exact J2 _ (VI _)
   ·obtain⟨a1,a2,a3⟩:=hA;have jl:=jpV (f:=λy:List Nat=>((1,y,0):qx)) xs;simp only[Qaj,Qak,jl,Qan] at hl ⊢;have V:=jgz xs x ts.length (i+2) [] a3 (by simp at h3 ⊢;omega) (by omega);refine⟨⟨(tk ts i).text,[] ++ x :: xs,(tk ts i).line,(tk ts i).col⟩,?_,by simp only[unN,ym a1,QaF]⟩;rw[Xd,if_pos (zp a1),if_pos (yj a2 (by decide)),V];show SR.ok _ _=SR.ok _ _;have ei:i+2+(2 * xs.length+2)=i+(0+1+(2 * xs.length+(0+1))+1+1):=by omega
    rw[ei]
 ·cases h
theorem jhL {n:Int}(h:Yd n=true):∃ cs,Lx (Q8 n) cs okI/\cs.length<=2/\∀ ts i,At ts i cs->Xp ts i=.ok n (i+cs.length)/\¬ (tk ts i).kind=1/\¬ isM (tk ts i) [[98,111,111,108]]=true:=by
 unfold Yd at h;simp only[Qar,decide_eq_true_eq] at h;by_cases h0:n<0
 ·obtain⟨m,hm⟩:∃ m:Nat,n=-(m:Int):=⟨(-n).toNat,by omega⟩;have e:Q8 n=[45] ++ Jx m:=by
   rw[Q8,if_pos h0];have:(-n).toNat=m:=by omega
   rw[this];rfl
  obtain⟨d1,d2,_⟩:=kY m;refine⟨[(3,[45],0),(2,Jx m,m)],?_,by simp,λts i hA=>?_⟩
  ·rw[e];exact(Lx.signS (by decide)).app (Lx.num (by omega)) λr _=>(Hy d1 d2).ok r
  ·obtain⟨a1,a2,_⟩:=hA;have k1:=zp a1;have k2:=zp a2;have n2:=jcF a2;dsimp only at k1 k2 n2;refine⟨?_,by omega,Z1 a1 (by decide)⟩;rw[Xp,if_pos (yj a1 (by decide)),if_pos k2,n2,hm];rfl
 ·obtain⟨m,hm⟩:∃ m:Nat,n=(m:Int):=⟨n.toNat,by omega⟩;have e:Q8 n=Jx m:=by
   rw[Q8,if_neg h0,hm];rfl
  refine⟨[(2,Jx m,m)],by rw[e];exact Lx.num (by omega),by simp,λts i hA=>?_⟩;obtain⟨a1,_⟩:=hA;have k1:=zp a1;have n1:=jcF a1;dsimp only at k1 n1;have no:∀ S,¬ isM (tk ts i) S=true:=λS=>Z1 a1 (by unfold isC;simp);refine⟨?_,by omega,no _⟩;rw[Xp,if_neg (no _),if_pos k1,n1,hm];rfl
theorem joX {d:DeclT}{t:List Nat}(h:JB d=some t):∃ cs,Lx t cs okI/\∀ ts i,At ts i cs->Zv ts i=.ok (d.ty,d.lo,d.hi) (i+cs.length):=by
 unfold JB at h;split at h
 ·rename_i ht;split at h
  ·rename_i hs;simp only[Option.some.injEq] at h;subst h;obtain⟨ac,A1,A2,A3⟩:=jhL hs.1;obtain⟨bc,B1,B2,B3⟩:=jhL hs.2;refine⟨ac ++ (3,[46,46],0) :: bc,?_,λts i hA=>?_⟩
   ·rw[QaC];exact A1.app ((Lx.signA (w:=[46,46]) (by simp)).app B1 λ_ _=>trivial) λr _=>by intro c hc;simp at hc;subst hc;decide
   ·obtain⟨a0,a1,a2⟩:=hA.app;obtain⟨x1,x2,x3⟩:=A3 ts i a0;obtain⟨y1,_,_⟩:=B3 ts _ a2;rw[Zv,if_neg x3,if_neg x2,x1];show(if isM (tk ts (i+ac.length)) [[46,46]]=true then _ else _)=_;rw[if_pos (yj a1 (by decide)),y1,ht];simp;omega
  ·cases h
 ·rename_i ht;split at h
  ·rename_i hs;obtain⟨s1,s2,s3⟩:=hs;simp only[Option.some.injEq] at h;subst h;rcases s3 with s3|s3
   ·refine⟨[(4,[98,111,111,108],0)],?_,λts i hA=>?_⟩
    ·have:=Lx.letters (w:=[98,111,111,108]) (by decide) (by decide) (by decide) (by decide);rw[if_pos (by decide)] at this;rw[s3];exact this
    ·obtain⟨a1,_⟩:=hA;rw[Zv,if_pos (yj a1 (by decide)),s1,s2,s3];rfl
   ·refine⟨[(1,d.ty,0)],Lx.name s3,λts i hA=>?_⟩;obtain⟨a1,_⟩:=hA;rw[Zv,if_neg (Z1 a1 (by unfold isC;simp)),if_pos (zp a1),ym a1,s1,s2];rfl
  ·cases h
end Go.Sy
end
noncomputable section
set_option maxRecDepth 100000
namespace Go.Sy
open Go.Ev Go.Proofs
open Classical in
theorem UP (y:List qx)(ys:List (List qx)):jT (y :: ys)=(3,[44],0) :: (y ++ jT ys):=rfl
theorem jmb:∀ xs:List (List qx),xs.length<=(jT xs).length
 |[]=>QaL _
 |z :: zs=>by
  have:=jmb zs;rw[UP];simp only[Qaj,Qak];omega
theorem jcK {α:Type}{f:α->Option (List Nat)}:∀ {xs:List α} {t:List Nat},qP (xs.map f)=some t->∃ ls:List (List Nat),xs.map f=ls.map some/\t=ls.flatten
 |[],t,h=>⟨[],rfl,by simp[qP] at h;simp[h]⟩
 |x :: xs,t,h=>by
  rw[Qai] at h;cases hx:f x with
  |none=>rw[hx] at h;simp[qP] at h
  |some a=>
   rw[hx,qP] at h;cases hc:qP (xs.map f) with
   |none=>rw[hc] at h;simp at h
   |some b=>
    rw[hc] at h;simp at h;obtain⟨ls,e1,e2⟩:=jcK hc;exact⟨a :: ls,by rw[Qai,hx,e1,Qai],by rw[<-h,e2];rfl⟩
theorem its {α β:Type}{f:α->Option (List Nat)}{kw:List Nat}{P:α->List Tk->Nat->Nat->Prop}:∀ {xs:List α} {t:List Nat},qP (xs.map f)=some t->(∀ x∈xs,∀ s,f x=some s->It s kw (P x))->∃ cc:List (List qx),cc.length=xs.length/\Lx t (cc.flatMap λc=>(4,kw,0) :: c) okZ/\∀ k (h1:k<xs.length) (h2:k<cc.length),∀ ts i,At ts i cc[k]->i+cc[k].length<=ts.length->P xs[k] ts i (i+cc[k].length)
 |[],t,h,_=>⟨[],rfl,by simp[qP] at h;subst h;exact Lx.nil,λk h1=>by simp at h1⟩
 |x :: xs,t,h,hi=>by
  rw[Qai] at h;cases hx:f x with
  |none=>rw[hx] at h;simp[qP] at h
  |some a=>
   rw[hx,qP] at h;cases hc:qP (xs.map f) with
   |none=>rw[hc] at h;simp at h
   |some b=>
    rw[hc] at h;simp at h;obtain⟨c,c1,c2⟩:=hi x (by simp) a hx;obtain⟨cc,e1,e2,e3⟩:=its (α:=α) (β:=β) hc λy hy=>hi y (by simp[hy]);refine⟨c :: cc,by simp[e1],?_,λk h1 h2=>?_⟩
    ·rw[<-h,QbU];exact c1.app e2 λ_ _=>trivial
    ·cases k with
     |zero=>exact c2
     |succ k=>exact e3 k (by simpa using h1) (by simpa using h2)
end Go.Sy
end
noncomputable section
set_option maxRecDepth 100000
namespace Go.Sy
open Go.Ev Go.Proofs
def fl4 (kw:List Nat):List (List qx)->List qx
 |[]=>[]
 |c :: cc=>(4,kw,0) :: (c ++ fl4 kw cc)
theorem jcn (kw:List Nat):∀ cc,(cc.flatMap λc=>(4,kw,0) :: c)=fl4 kw cc
 |[]=>rfl
 |c :: cc=>by rw[QbU,jcn kw cc];rfl
theorem Wb (kw:List Nat):∀ cc,cc.length<=(fl4 kw cc).length
 |[]=>QaL _
 |c :: cc=>by
  have:=Wb kw cc;simp only[fl4,Qaj,Qak];omega
section
variable {ts:List Tk}
theorem jhd:∀ (xs:List EnumT) (cc:List (List qx)) (n i:Nat) (m:SrcT) (rest:List qx),cc.length=xs.length->(∀ k (h1:k<xs.length) (h2:k<cc.length),∀ ts i,At ts i cc[k]->i+cc[k].length<=ts.length->∃ r',Xd ts i=.ok r' (i+cc[k].length)/\unN r'=unN xs[k])->At ts i (fl4 [101,110,117,109] cc ++ rest)->i+(fl4 [101,110,117,109] cc).length<=ts.length->m.enums.length+xs.length<=32->∃ rs,yq ts (n+xs.length) i m=yq ts n (i+(fl4 [101,110,117,109] cc).length) { m with enums:=m.enums ++ rs }/\rs.map unN=xs.map unN
 |[],cc,n,i,m,rest,hc,hr,h,hl,h1=>by
  cases cc with
  |cons c cc=>simp at hc
  |nil=>exact⟨[],by simp[fl4],rfl⟩
 |x :: xs,cc,n,i,m,rest,hc,hr,h,hl,h1=>by
  cases cc with
  |nil=>simp at hc
  |cons c cc=>
   simp only[Qaj] at h1 hc;have h:At ts i ((4,[101,110,117,109],0) :: ((c ++ fl4 [101,110,117,109] cc) ++ rest)):=h;obtain⟨a1,a2⟩:=h;rw[QaC] at a2;obtain⟨a3,a4⟩:=a2.app;simp only[fl4,Qaj,Qak] at hl;obtain⟨r',r1,r2⟩:=hr 0 (by simp) (by simp) ts (i+1) a3 (by show i+1+c.length<=_;omega);obtain⟨rs,s1,s2⟩:=jhd xs cc n (i+1+c.length) { m with enums:=m.enums ++ [r'] } rest (by omega) (λk k1 k2=>hr (k+1) (by simpa using k1) (by simpa using k2)) a4 (by omega) (by simp;omega);refine⟨r' :: rs,?_,by rw[Qai,s2];exact congrArg (· :: _) r2⟩;show yq ts (n+xs.length+1) i m=_;rw[uT,if_pos (yj a1 (by decide)),if_pos (ym a1),if_neg (by omega),r1];show yq ts (n+xs.length) (i+1+c.length) { m with enums:=m.enums ++ [r'] }=_;rw[s1];simp only[fl4,Qak,Qaj,QaC,QbR]
   congr 1
   omega
end
end Go.Sy
end
noncomputable section
set_option maxRecDepth 100000
namespace Go.Sy
open Go.Ev Go.Proofs
def Er (f:Nat->Option PR):Prop:=∃ N t,∀ n,N<=n->f n=some (.er t)
def FE (f:Nat->Option PR)(x:Ex)(j:Nat):Prop:=Fin f x j\/Er f
theorem jqg {f:Nat->Option PR}{t:Tk}(k:∀ n,f (n+1)=some (.er t)):Er f:=⟨1,t,λn hn=>by
 obtain⟨m,rfl⟩:∃ m,n=m+1:=⟨n - 1,by omega⟩;exact k m⟩
theorem Er.step {f g:Nat->Option PR}(h:Er f)(k:∀ n t,f n=some (.er t)->g (n+1)=some (.er t)):Er g:=by
 obtain⟨N,t,h2⟩:=h;refine⟨N+1,t,λn hn=>?_⟩;obtain⟨m,rfl⟩:∃ m,n=m+1:=⟨n - 1,by omega⟩;exact k m t (h2 m (by omega))
theorem UX {ts:List Tk}{i d:Nat}(h:Er (λn=>qZ ts n i d)):∀ l:List Lev,Er (λn=>qw ts n l i d)
 |[]=>h.step λn t ht=>by
  show qw ts (n+1) [] i d=_;rw[qw];exact ht
 |v :: l=>(UX h l).step λn t ht=>by
  show qw ts (n+1) (v :: l) i d=_;try dsimp only at ht
  rw[qw,ht]
theorem jiC {ts:List Tk}{x:Ex}{i d j:Nat}(h:Fin (λn=>qZ ts n i d) x j)(h':Er (λn=>qZ ts n (j+1) d)):∀ l:List Lev,(∃ v∈l,isM (tk ts j) v.1=true)->l.Pairwise (λv w=>isM (tk ts j) v.1=true->isM (tk ts j) w.1=false)->Er (λn=>qw ts n l i d)
 |[],hx,_=>by obtain⟨v,hv,_⟩:=hx;simp at hv
 |v :: l,hx,hp=>by
  obtain⟨hp1,hp2⟩:=List.pairwise_cons.1 hp;by_cases hv:isM (tk ts j) v.1=true
  ·obtain⟨N1,a,a1,a2⟩:=Zh h l λw hw=>hp1 w hw hv;obtain⟨N2,t,b2⟩:=UX h' l;obtain⟨N3,u,c2⟩:=UX h' (v :: l);by_cases w1:v.2=1
   ·refine⟨N1+N3+2,u,λn hn=>?_⟩;obtain⟨m,rfl⟩:∃ m,n=m+2:=⟨n - 2,by omega⟩;show qw ts (m+1+1) (v :: l) i d=_;have q:=a2 (m+1) (by omega);dsimp only at q;rw[qw,q];show yE ts (m+1) v l a j d=_;have c3:=c2 m (by omega);dsimp only at c3;rw[yE,if_pos hv,if_pos w1,c3]
   ·refine⟨N1+N2+2,t,λn hn=>?_⟩;obtain⟨m,rfl⟩:∃ m,n=m+2:=⟨n - 2,by omega⟩;show qw ts (m+1+1) (v :: l) i d=_;have q:=a2 (m+1) (by omega);dsimp only at q;rw[qw,q];show yE ts (m+1) v l a j d=_;have q:=b2 m (by omega);dsimp only at q;rw[yE,if_pos hv,if_neg w1,q]
  ·exact(jiC h h' l (by
    obtain⟨w,hw,hw2⟩:=hx;rcases Qbh.1 hw with rfl|hw
    ·exact absurd hw2 hv
    ·exact⟨w,hw,hw2⟩) hp2).step λn t ht=>by
    show qw ts (n+1) (v :: l) i d=_;try dsimp only at ht
    rw[qw,ht]
def jgn (x:Ex)(cs:List qx):Prop:=∀ ts i d,At ts i cs->WB (JZ (tk ts (i+cs.length)))=true->FE (λn=>qw ts n q6 i d) x (i+cs.length)
theorem jkT {x:Ex}{cs:List qx}(hL:uz x cs)(hT:jgn x cs){ts:List Tk}{i d:Nat}(h:At ts i (inC x cs)):FE (λn=>qZ ts n i d) x (i+(inC x cs).length):=by
 by_cases c:x.kids.length=0
 ·have e:inC x cs=cs:=by rw[inC,if_pos c]
  rw[e] at h ⊢;obtain⟨a,b⟩:=hL ts i d h c;exact .inl (YJ a b)
 ·have e:inC x cs=(3,[40],0) :: (cs ++ [(3,[41],0)]):=by rw[inC,if_neg c]
  rw[e] at h ⊢;obtain⟨h1,h2⟩:=h;obtain⟨h3,h4,_⟩:=h2.app;have el:i+((3,[40],0) :: (cs ++ [(3,[41],0)]):List qx).length=i+1+cs.length+1:=by simp;omega
  rw[el];have k1:(tk ts i).kind=3:=congrArg Prod.fst h1;have kp:isM (tk ts i) yJ=false:=by rw[yV,h1];decide
  have er:Er (λn=>yO ts n i d)->Er (λn=>qZ ts n i d):=λh=>h.step λn t ht=>by
   show qZ ts (n+1) i d=_;try dsimp only at ht
   rw[qZ,if_neg (by rw[kp];decide),ht]
  have hv:∀ m,yO ts (m+1) i d=if 60<d+1 then some (.er (tk ts (i+1))) else(match qw ts m q6 (i+1) (d+1) with
    |some (.ok x j)=>if isM (tk ts j) [[41]]=true then some (.ok x (j+1)) else some (.er (tk ts j))
    |r=>r):=λm=>by
   rw[yO,if_neg (by omega),if_neg (by omega),if_neg (by rw[yV,h1];decide),if_neg (by rw[yV,h1];decide),if_pos (by rw[yV,h1];decide)];rfl
  by_cases hd:60<d+1
  ·exact .inr (er (jqg λm=>by show yO ts (m+1) i d=_;rw[hv,if_pos hd]))
  ·rcases hT ts (i+1) (d+1) h3 (by rw[h4];decide) with ⟨N,y,y1,y2⟩|q
   ·refine .inl (YJ ⟨N+1,y,y1,λn hn=>?_⟩ kp);obtain⟨m,rfl⟩:∃ m,n=m+1:=⟨n - 1,by omega⟩;have y3:=y2 m (by omega);dsimp only at y3;show yO ts (m+1) i d=_;rw[hv,if_neg hd,y3];show(if isM (tk ts (i+1+cs.length)) [[41]]=true then _ else _)=_;rw[if_pos (by rw[yV,h4];decide)]
   ·exact .inr (er (q.step λn t ht=>by
     show yO ts (n+1) i d=_;try dsimp only at ht
     rw[hv,if_neg hd,ht]))
theorem jry {x:Ex}{cs:List qx}(h:Wr x cs):uz x cs/\jgn x cs:=by
 have leaf:∀ {x:Ex} {cs:List qx},x.kids.length=0->uz x cs->uz x cs/\jgn x cs:=λhk hL=>⟨hL,λts i d hA hS=>by
  obtain⟨a,b⟩:=hL ts i d hA hk;exact .inl (Zh (YJ a b) _ (wS hS))⟩
 induction h with
 |num n l c h=>exact leaf rfl (jap (.num n l c h)).1
 |tru l c=>exact leaf rfl (jap (.tru l c)).1
 |fal l c=>exact leaf rfl (jap (.fal l c)).1
 |name w l c h=>exact leaf rfl (jap (.name w l c h)).1
 |one op x cs l c h1 h2 h ih=>
  refine⟨λts i d _ hk=>by simp[Ex.kids] at hk,λts i d hA hS=>?_⟩;obtain⟨k,rfl⟩:∃ k:Nat,op=((5+k:Nat):Int):=⟨(op - 5).toNat,by omega⟩;obtain⟨o1,o2⟩:=jl3 k (by omega);obtain⟨a1,a2⟩:=hA;have el:i+(sgc ((5+k:Nat):Int) :: inC x cs).length=i+1+(inC x cs).length:=by simp;omega
  rw[el] at hS ⊢;have hp:∀ m,qZ ts (m+1) i d=if 60<d+1 then some (.er (tk ts (i+1))) else(match qZ ts m (i+1) (d+1) with
    |some (.ok x j)=>some (.ok (.mk (Yn (tk ts i).text:Nat) 0 [] [x] (tk ts i).line (tk ts i).col) j)
    |r=>r):=λm=>by(rw[qZ,if_pos (by rw[yV,a1];exact o1)];rfl)
  by_cases hd:60<d+1
  ·exact .inr (UX (jqg λm=>by show qZ ts (m+1) i d=_;rw[hp,if_pos hd]) _)
  ·have ot:Yn (tk ts i).text=5+k:=by
    have:(tk ts i).text=(sgc ((5+k:Nat):Int)).2.1:=congrArg (λc:qx=>c.2.1) a1;rw[this];exact o2
   rcases jkT ih.1 ih.2 a2 (d:=d+1) with ⟨N,y,y1,y2⟩|q
   ·refine .inl (Zh ⟨N+1,.mk (Yn (tk ts i).text:Nat) 0 [] [y] (tk ts i).line (tk ts i).col,by simp only[unE,Jo,y1,ot],λn hn=>?_⟩ _ (wS hS));obtain⟨m,rfl⟩:∃ m,n=m+1:=⟨n - 1,by omega⟩;have y3:=y2 m (by omega);dsimp only at y3;show qZ ts (m+1) i d=_;rw[hp,if_neg hd,y3]
   ·exact .inr (UX (q.step λn t ht=>by
     show qZ ts (n+1) i d=_;try dsimp only at ht
     rw[hp,if_neg hd,ht]) _)
 |two op x y cs ds l c h1 h2 h k ih ik=>
  refine⟨λts i d _ hk=>by simp[Ex.kids] at hk,λts i d hA hS=>?_⟩;obtain⟨k,rfl⟩:∃ k:Nat,op=((14+k:Nat):Int):=⟨(op - 14).toNat,by omega⟩;obtain⟨o1,o2,o3⟩:=jlN k (by omega);obtain⟨a0,a1,a2⟩:=hA.app;have el:i+(inC x cs ++ sgc ((14+k:Nat):Int) :: inC y ds).length=i+(inC x cs).length+1+(inC y ds).length:=by simp;omega
  rw[el] at hS ⊢;have ex:∃ v∈q6,isM (tk ts (i+(inC x cs).length)) v.1=true:=by
   obtain⟨v,hv,hv2⟩:=List.any_eq_true.1 o1;exact⟨v,hv,by rw[yV,a1];exact hv2⟩
  have pw:q6.Pairwise (λv w=>isM (tk ts (i+(inC x cs).length)) v.1=true->isM (tk ts (i+(inC x cs).length)) w.1=false):=o2.imp λ{v w} hvw h=>by
   rw[yV,a1] at h ⊢;exact hvw h
  rcases jkT ih.1 ih.2 a0 (d:=d) with f|q
  ·rcases jkT ik.1 ik.2 a2 (d:=d) with g|q
   ·obtain⟨N,z,z1,z2⟩:=GE f g q6 (wS hS) ex pw;refine .inl ⟨N,z,?_,z2⟩;rw[z1];have:(tk ts (i+(inC x cs).length)).text=(sgc ((14+k:Nat):Int)).2.1:=congrArg (λc:qx=>c.2.1) a1;unfold zA;rw[this,o3];simp only[unE,Jo]
   ·exact .inr (jiC f q _ ex pw)
  ·exact .inr (UX q _)
theorem KL {x:Ex}(h:yo x=true):∃ cs,Lx (qe x) cs okI/\∀ ts i,At ts i cs->WB (JZ (tk ts (i+cs.length)))=true->(∃ y,yC ts i=.ok y (i+cs.length)/\unE y=unE x)\/∃ t,yC ts i=.er t:=by
 unfold yo at h;simp only[Qar,QaR] at h;have hs:=h.1;rw[Qm] at hs;simp only[Qar,decide_eq_true_eq] at hs;obtain⟨⟨cs,w1,w2⟩,_,_⟩:=wo x hs.2 h.2;refine⟨cs,w2,λts i hA hS=>?_⟩;rcases (jry w1).2 ts i 0 hA hS with ⟨N,y,y1,y2⟩|⟨N,t,y2⟩
 ·refine .inl ⟨y,?_,y1⟩;rw[vR ⟨N,y2⟩];show(if yv 60 y=true then _ else _)=_;rw[if_pos (by rw[jbA y1];exact h.1)]
 ·refine .inr ⟨t,?_⟩;rw[vR ⟨N,y2⟩];rfl
end Go.Sy
end
noncomputable section
set_option maxRecDepth 100000
namespace Go.Sy
open Go.Ev Go.Proofs
theorem jqt {d:DeclT}{s:List Nat}(h:JJ d=some s):It s [118,97,114] λts i j=>(∃ e',J7 ts i=.ok e' j/\unD e'=unD d)\/∃ t,J7 ts i=.er t:=by
 cases ht:JB d with
 |none=>rw[Wg ht] at h;cases h
 |some t=>
  rw[U2 ht] at h;split at h
  ·rename_i hh;obtain⟨h1,h2,h3⟩:=hh;simp only[Option.some.injEq] at h;subst h;obtain⟨tc,T1,T2⟩:=joX ht;have hb:∃ bc,Lx (Qo d.begins ++ [59,10]) bc okZ/\(∀ r,okI (Qo d.begins ++ [59,10] ++ r))/\∀ ts i,At ts i bc->(∃ bs,XL ts i=.ok bs (i+bc.length)/\bs.map unE=d.begins.map unE)\/∃ t,XL ts i=.er t:=by
    cases hb:d.begins with
    |nil=>
     refine⟨[(3,[59],0)],(Lx.signA (w:=[59]) (by simp)).app (s':=[10]) (cs':=[]) (Lx.nl Lx.nil) λ_ _=>trivial,λr=>by intro c hc;simp[Qo] at hc;subst hc;decide,λts i hA=>?_⟩;obtain⟨a1,_⟩:=hA;exact .inl ⟨[],by rw[XL,if_neg (Z1 a1 (by decide)),if_pos (yj a1 (by decide))];rfl,rfl⟩
    |cons x xs=>
     rw[hb] at h1 h3;cases xs with
     |cons y ys=>simp at h1
     |nil=>
      have hw:yo x=true:=by simpa using h3
      obtain⟨xc,X1,X2⟩:=KL hw;refine⟨(3,[61],0) :: (xc ++ [(3,[59],0)]),?_,λr=>by intro c hc;simp[Qo] at hc;subst hc;decide,λts i hA=>?_⟩
      ·have e:Qo [x] ++ [59,10]=32 :: ([61] ++ 32 :: (qe x ++ ([59] ++ 10 :: []))):=by simp[Qo]
       rw[e];refine Lx.sp (Lx.ssp (by decide) (X1.app ((Lx.signA (w:=[59]) (by simp)).app (s':=10 :: []) (cs':=[]) (Lx.nl Lx.nil) λ_ _=>trivial) λr _=>?_));intro c hc;simp at hc;subst hc;decide
      ·obtain⟨a1,a2⟩:=hA;obtain⟨a3,a4,_⟩:=a2.app;rcases X2 ts _ a3 (by rw[a4];decide) with ⟨y,y1,y2⟩|⟨t,y1⟩
       ·refine .inl ⟨[y],?_,by simp[y2]⟩;rw[XL,if_pos (yj a1 (by decide)),y1];show(if isM (tk ts (i+1+xc.length)) [[59]]=true then _ else _)=_;rw[if_pos (yj a4 (by decide))];simp;omega
       ·exact .inr ⟨t,by rw[XL,if_pos (yj a1 (by decide)),y1]⟩
   obtain⟨bc,B1,B2,B3⟩:=hb;refine⟨(1,d.name,0) :: (3,[58],0) :: (tc ++ bc),?_,λts i hA hl=>?_⟩
   ·have e:[118,97,114,32] ++ d.name ++ [32,58,32] ++ t ++ Qo d.begins ++ [59,10]=[118,97,114] ++ 32 :: (d.name ++ 32 :: ([58] ++ 32 :: (t ++ (Qo d.begins ++ [59,10])))):=by simp
    rw[e];exact Lx.kw (by decide) (by decide) (by decide) (by decide) (by decide) ((Lx.name h2).wsp (Lx.ssp (by decide) (T1.app B1 λr _=>B2 r)))
   ·obtain⟨a1,a2,a3⟩:=hA;obtain⟨a4,a5⟩:=a3.app;have hd:J7 ts i=match XL ts (i+1+1+tc.length) with
      |.er t=>SR.er t
      |.ok bs k=>.ok ⟨(tk ts i).text,d.ty,d.lo,d.hi,bs,(tk ts i).line,(tk ts i).col⟩ k:=by
     rw[J7,if_pos (zp a1),if_pos (yj a2 (by decide)),T2 ts _ a4];dsimp only;cases XL ts (i+1+1+tc.length)<;>rfl
    rcases B3 ts _ a5 with ⟨bs,b1,b2⟩|⟨t,b1⟩
    ·refine .inl ⟨⟨(tk ts i).text,d.ty,d.lo,d.hi,bs,(tk ts i).line,(tk ts i).col⟩,?_,by simp only[unD,ym a1,b2]⟩;rw[hd,b1];show SR.ok _ _=SR.ok _ _;have ei:i+1+1+tc.length+bc.length=i+((1,d.name,0) :: (3,[58],0) :: (tc ++ bc):List qx).length:=by simp;omega
     rw[ei]
    ·exact .inr ⟨t,by rw[hd,b1]⟩
  ·cases h
structure Ae (a:AsT)(cs:List qx):Prop where
 lx:Lx (qe a.to) cs okI
 rd:∀ ts i,At ts i cs->WB (JZ (tk ts (i+cs.length)))=true->(∃ y,yC ts i=.ok y (i+cs.length)/\unE y=unE a.to)\/∃ t,yC ts i=.er t
theorem jrQ {a:AsT}(h:vP a=true):nm a.name=true/\∃ cs,Ae a cs:=by
 unfold vP at h;simp only[Qar] at h;obtain⟨cs,h1,h2⟩:=KL h.2;exact⟨h.1,cs,h1,h2⟩
open Classical in
def aeC (a:AsT):List qx:=if h:∃ cs,Ae a cs then h.choose else []
theorem jsO {a:AsT}(h:∃ cs,Ae a cs):Ae a (aeC a):=by
 unfold aeC;rw[dif_pos h];exact h.choose_spec
def XM (a:AsT):List qx:=(1,a.name,0) :: (3,[58,61],0) :: aeC a
theorem jey {a:AsT}(h:nm a.name=true)(w:Ae a (aeC a)):Lx (JL a) (XM a) okI:=by
 have e:JL a=a.name ++ 32 :: ([58,61] ++ 32 :: qe a.to):=by unfold JL;simp
 rw[e];exact(Lx.name h).wsp (Lx.ssp (by decide) w.lx)
theorem ji7 {ts:List Tk}:∀ (xs:List AsT) (x:AsT) (n i:Nat) (vs:List AsT),(∀ a∈x :: xs,Ae a (aeC a))->At ts i (XM x ++ (jT (xs.map XM) ++ [(3,[59],0)]))->vs.length+xs.length+1<=32->xs.length+1<=n->(∃ ys,Ju ts n i vs=.ok (vs ++ ys) (i+(XM x ++ (jT (xs.map XM) ++ [(3,[59],0)])).length)/\ys.map unA=(x :: xs).map unA)\/∃ t,Ju ts n i vs=.er t
 |xs,x,n,i,vs,hw,h,h1,h2=>by
  obtain⟨n,rfl⟩:∃ m,n=m+1:=⟨n - 1,by omega⟩;obtain⟨a0,a3⟩:=h.app;obtain⟨a1,a2,a4⟩:=a0;have al:(XM x).length=(aeC x).length+2:=by simp[XM]
  have ei:i+1+1+(aeC x).length=i+(XM x).length:=by omega
  have stop:WB (JZ (tk ts (i+1+1+(aeC x).length)))=true:=by
   rw[ei];cases xs with
   |nil=>obtain⟨b1,_⟩:=a3;rw[b1];decide
   |cons z zs=>rw[Qai,UP] at a3;obtain⟨b1,_⟩:=a3;rw[b1];decide
  rcases (hw x (by simp)).rd ts (i+1+1) a4 stop with ⟨y,y1,y2⟩|⟨t,y1⟩
  ·cases xs with
   |nil=>
    obtain⟨b1,_⟩:=a3;simp only[Qan] at h1;refine .inl ⟨[⟨(tk ts i).text,y,(tk ts i).line,(tk ts i).col⟩],?_,by simp only[Qai,Qal,unA,y2,ym a1]⟩;rw[Ju,if_pos (zp a1),if_neg (by omega),if_pos (yj a2 (by decide)),y1];show(if isM (tk ts (i+1+1+(aeC x).length)) [[44]]=true then _ else _)=_;rw[ei,if_neg (Z1 b1 (by decide)),if_pos (yj b1 (by decide))];show SR.ok _ _=SR.ok _ _;simp only[Qal,jT,QaF,Qak,Qaj,Qan,al];rw[show i+((aeC x).length+2)+1=i+((aeC x).length+2+(0+1)) from by omega]
   |cons z zs=>
    rw[Qai,UP] at a3;obtain⟨b1,b2⟩:=a3;simp only[Qaj] at h1 h2;have b2:At ts (i+(XM x).length+1) ((XM z ++ jT (List.map XM zs)) ++ [(3,[59],0)]):=b2;rw[QaC] at b2;have ha:Ju ts (n+1) i vs=Ju ts n (i+(XM x).length+1) (vs ++ [⟨(tk ts i).text,y,(tk ts i).line,(tk ts i).col⟩]):=by
     rw[Ju,if_pos (zp a1),if_neg (by omega),if_pos (yj a2 (by decide)),y1];show(if isM (tk ts (i+1+1+(aeC x).length)) [[44]]=true then _ else _)=_;rw[ei,if_pos (yj b1 (by decide))]
    rcases ji7 zs z n (i+(XM x).length+1) (vs ++ [⟨(tk ts i).text,y,(tk ts i).line,(tk ts i).col⟩]) (λa ha=>hw a (by simp at ha ⊢;exact .inr ha)) b2 (by simp;omega) (by omega) with ⟨ys,r1,r2⟩|⟨t,r1⟩
    ·refine .inl ⟨⟨(tk ts i).text,y,(tk ts i).line,(tk ts i).col⟩ :: ys,?_,?_⟩
     ·rw[ha,r1];show SR.ok _ _=SR.ok _ _;rw[QaC,QbR]
      congr 1
      simp only[Qai,UP,Qak,Qaj,Qan];omega
     ·rw[Qai,r2];simp only[Qai,unA,y2,ym a1]
    ·exact .inr ⟨t,by rw[ha,r1]⟩
  ·exact .inr ⟨t,by rw[Ju,if_pos (zp a1),if_neg (by omega),if_pos (yj a2 (by decide)),y1]⟩
theorem jpp {r:RuleT}{s:List Nat}(h:Jk r=some s):It s [119,104,101,110] λts i j=>(∃ r',JC ts i=.ok r' j/\unR r'=unR r)\/∃ t,JC ts i=.er t:=by
 unfold Jk at h;split at h
 ·rename_i hh;obtain⟨h1,h2,h3,h4⟩:=hh;simp only[Option.some.injEq] at h;subst h;obtain⟨w,acts⟩:=r;dsimp only at *;obtain⟨wc,W1,W2⟩:=KL h1;cases acts with
  |nil=>simp at h2
  |cons x xs=>
   have hx:∀ a∈x :: xs,nm a.name=true/\Ae a (aeC a):=λa ha=>by
    obtain⟨n1,n2⟩:=jrQ (Qax.1 h4 a ha);exact⟨n1,jsO n2⟩
   obtain⟨J1,J2⟩:=GT (f:=JL) (g:=XM) (ps:=xs) λp hp=>jey (hx p (by simp[hp])).1 (hx p (by simp[hp])).2;have T:Lx ([59] ++ 10 :: []) [(3,[59],0)] okZ:=(Lx.signA (w:=[59]) (by simp)).app (s':=10 :: []) (cs':=[]) (Lx.nl Lx.nil) λ_ _=>trivial;refine⟨wc ++ (4,[100,111],0) :: (XM x ++ (jT (xs.map XM) ++ [(3,[59],0)])),?_,λts i hA hl=>?_⟩
   ·have e:[32,32,119,104,101,110,32] ++ qe w ++ [32,100,111,32] ++ Jm ((x :: xs).map JL) ++ [59,10]=32 :: 32 :: ([119,104,101,110] ++ 32 :: (qe w ++ 32 :: ([100,111] ++ 32 :: (JL x ++ (jS (xs.map JL) ++ ([59] ++ 10 :: [])))))):=by
     rw[Qai,jd1];simp
    rw[e];refine Lx.sp (Lx.sp (Lx.kw (by decide) (by decide) (by decide) (by decide) (by decide) (W1.wsp (Lx.kw (by decide) (by decide) (by decide) (by decide) (by decide) ?_))));have o59:∀ r,okI ([59] ++ 10 :: [] ++ r):=λr=>by intro c hc;simp at hc;subst hc;decide
    exact(jey (hx x (by simp)).1 (hx x (by simp)).2).app (J1.app T λr _=>o59 r) λr _=>by
     rw[QaC];exact J2 _ (o59 r)
   ·obtain⟨a0,a1,a2⟩:=hA.app;rcases W2 ts i a0 (by rw[a1];decide) with ⟨y,y1,y2⟩|⟨t,y1⟩
    ·have hle:=jmb (xs.map XM);rw[QaQ] at hle;have hr:JC ts i=match Ju ts ts.length (i+wc.length+1) [] with
       |.ok vs k=>.ok ⟨y,vs⟩ k
       |.er t=>.er t:=by
      rw[JC,y1];show(if isM (tk ts (i+wc.length)) [[100,111]]=true then _ else _)=_;rw[if_pos (yj a1 (by decide))];rfl
     rcases ji7 xs x ts.length (i+wc.length+1) [] (λa ha=>(hx a ha).2) a2 (by simp at h3 ⊢;omega) (by simp at hl;omega) with ⟨ys,r1,r2⟩|⟨t,r1⟩
     ·refine .inl ⟨⟨y,ys⟩,?_,by simp only[unR,y2,r2]⟩;rw[hr,r1];show SR.ok _ _=SR.ok _ _;rw[QaF]
      congr 1
      simp only[Qak,Qaj];omega
     ·exact .inr ⟨t,by rw[hr,r1]⟩
    ·exact .inr ⟨t,by rw[JC,y1]⟩
 ·cases h
end Go.Sy
end
noncomputable section
set_option maxRecDepth 100000
namespace Go.Sy
open Go.Ev Go.Proofs
theorem jdG {ts:List Tk}:∀ (xs:List RuleT) (cc:List (List qx)) (n i:Nat) (vs:List RuleT),cc.length=xs.length->(∀ k (h1:k<xs.length) (h2:k<cc.length),∀ ts i,At ts i cc[k]->i+cc[k].length<=ts.length->(∃ r',JC ts i=.ok r' (i+cc[k].length)/\unR r'=unR xs[k])\/∃ t,JC ts i=.er t)->At ts i (fl4 [119,104,101,110] cc ++ [(3,[125],0)])->i+(fl4 [119,104,101,110] cc).length<=ts.length->vs.length+xs.length<=32->xs.length+1<=n->(∃ rs,y8 ts n i vs=.ok (vs ++ rs) (i+(fl4 [119,104,101,110] cc).length+1)/\rs.map unR=xs.map unR)\/∃ t,y8 ts n i vs=.er t
 |[],cc,n,i,vs,hc,hr,h,hl,h1,h2=>by
  cases cc with
  |cons c cc=>simp at hc
  |nil=>
   obtain⟨n,rfl⟩:∃ m,n=m+1:=⟨n - 1,by omega⟩;obtain⟨a1,_⟩:=h;refine .inl ⟨[],?_,rfl⟩;rw[y8,if_neg (Z1 a1 (by decide)),if_pos (yj a1 (by decide)),Qbf];rfl
 |x :: xs,cc,n,i,vs,hc,hr,h,hl,h1,h2=>by
  cases cc with
  |nil=>simp at hc
  |cons c cc=>
   obtain⟨n,rfl⟩:∃ m,n=m+1:=⟨n - 1,by omega⟩;simp only[Qaj] at h1 h2 hc;have h:At ts i ((4,[119,104,101,110],0) :: ((c ++ fl4 [119,104,101,110] cc) ++ [(3,[125],0)])):=h;obtain⟨a1,a2⟩:=h;rw[QaC] at a2;obtain⟨a3,a4⟩:=a2.app;simp only[fl4,Qaj,Qak] at hl;rcases hr 0 (by simp) (by simp) ts (i+1) a3 (by show i+1+c.length<=_;omega) with ⟨r',r1,r2⟩|⟨t,r1⟩
   ·have hq:y8 ts (n+1) i vs=y8 ts n (i+1+c.length) (vs ++ [r']):=by
     rw[y8,if_pos (yj a1 (by decide)),if_neg (by omega),r1];rfl
    rcases jdG xs cc n (i+1+c.length) (vs ++ [r']) (by omega) (λk k1 k2=>hr (k+1) (by simpa using k1) (by simpa using k2)) a4 (by omega) (by simp;omega) (by omega) with ⟨rs,s1,s2⟩|⟨t,s1⟩
    ·refine .inl ⟨r' :: rs,?_,by rw[Qai,s2];exact congrArg (· :: _) r2⟩;rw[hq,s1];show SR.ok _ _=SR.ok _ _;rw[QaC,QbR]
     congr 1
     simp only[fl4,Qak,Qaj];omega
    ·exact .inr ⟨t,by rw[hq,s1]⟩
   ·exact .inr ⟨t,by rw[y8,if_pos (yj a1 (by decide)),if_neg (by omega),r1]⟩
theorem jpA {p:ProcT}{s:List Nat}(h:JD p=some s):It s [112,114,111,99,101,115,115] λts i j=>(∃ p',J5 ts i=.ok p' j/\unP p'=unP p)\/∃ t,J5 ts i=.er t:=by
 unfold JD at h;split at h
 ·rename_i hh;obtain⟨h1,h2⟩:=hh;cases hc:qP (p.rules.map Jk) with
  |none=>rw[hc] at h;cases h
  |some t=>
   rw[hc] at h;simp only[Option.some.injEq] at h;subst h;obtain⟨cc,c1,c2,c3⟩:=its (β:=Nat) hc (P:=λr ts i j=>(∃ r',JC ts i=.ok r' j/\unR r'=unR r)\/∃ t,JC ts i=.er t) λr hr s hs=>jpp hs;rw[jcn] at c2;have cl:=Wb [119,104,101,110] cc;refine⟨(1,p.name,0) :: (3,[123],0) :: (fl4 [119,104,101,110] cc ++ [(3,[125],0)]),?_,λts i hA hl=>?_⟩
   ·have e:[112,114,111,99,101,115,115,32] ++ p.name ++ [32,123,10] ++ t ++ [125,10]=[112,114,111,99,101,115,115] ++ 32 :: (p.name ++ 32 :: ([123] ++ 10 :: (t ++ ([125] ++ 10 :: [])))):=by simp
    rw[e];exact Lx.kw (by decide) (by decide) (by decide) (by decide) (by decide) ((Lx.name h1).wsp (Lx.snl (by decide) (c2.app (Lx.snl (by decide) Lx.nil) λ_ _=>trivial)))
   ·obtain⟨a1,a2,a3⟩:=hA;simp only[Qaj,Qak,Qan] at hl;have hp:J5 ts i=match y8 ts ts.length (i+2) [] with
      |.ok vs j=>.ok ⟨(tk ts i).text,vs,(tk ts i).line,(tk ts i).col⟩ j
      |.er t=>.er t:=by
     rw[J5,if_pos (zp a1),if_pos (yj a2 (by decide))];rfl
    rcases jdG p.rules cc ts.length (i+1+1) [] c1 c3 a3 (by omega) (by simp;omega) (by omega) with ⟨rs,r1,r2⟩|⟨t,r1⟩
    ·refine .inl ⟨⟨(tk ts i).text,rs,(tk ts i).line,(tk ts i).col⟩,?_,by simp only[unP,ym a1,r2]⟩;have r1:y8 ts ts.length (i+2) []=_:=r1;rw[hp,r1];show SR.ok _ _=SR.ok _ _;rw[QaF]
     congr 1
     simp only[Qak,Qaj,Qan];omega
    ·have r1:y8 ts ts.length (i+2) []=_:=r1;exact .inr ⟨t,by rw[hp,r1]⟩
 ·cases h
section
variable {ts:List Tk}
theorem jdz:∀ (xs:List DeclT) (cc:List (List qx)) (n i:Nat) (m:SrcT) (rest:List qx),cc.length=xs.length->(∀ k (h1:k<xs.length) (h2:k<cc.length),∀ ts i,At ts i cc[k]->i+cc[k].length<=ts.length->(∃ r',J7 ts i=.ok r' (i+cc[k].length)/\unD r'=unD xs[k])\/∃ t,J7 ts i=.er t)->At ts i (fl4 [118,97,114] cc ++ rest)->i+(fl4 [118,97,114] cc).length<=ts.length->m.vars.length+xs.length<=32->(∃ rs,yq ts (n+xs.length) i m=yq ts n (i+(fl4 [118,97,114] cc).length) { m with vars:=m.vars ++ rs }/\rs.map unD=xs.map unD)\/∃ t,yq ts (n+xs.length) i m=.er t
 |[],cc,n,i,m,rest,hc,hr,h,hl,h1=>by
  cases cc with
  |cons c cc=>simp at hc
  |nil=>exact .inl ⟨[],by simp[fl4],rfl⟩
 |x :: xs,cc,n,i,m,rest,hc,hr,h,hl,h1=>by
  cases cc with
  |nil=>simp at hc
  |cons c cc=>
   simp only[Qaj] at h1 hc;have h:At ts i ((4,[118,97,114],0) :: ((c ++ fl4 [118,97,114] cc) ++ rest)):=h;obtain⟨a1,a2⟩:=h;rw[QaC] at a2;obtain⟨a3,a4⟩:=a2.app;simp only[fl4,Qaj,Qak] at hl;rcases hr 0 (by simp) (by simp) ts (i+1) a3 (by show i+1+c.length<=_;omega) with ⟨r',r1,r2⟩|⟨t,r1⟩
   ·have hq:yq ts (n+(x :: xs).length) i m=yq ts (n+xs.length) (i+1+c.length) { m with vars:=m.vars ++ [r'] }:=by
     show yq ts (n+xs.length+1) i m=_;rw[uT,if_pos (yj a1 (by decide)),if_neg (by rw[ym a1];decide),if_pos (ym a1),if_neg (by omega),r1];rfl
    rcases jdz xs cc n (i+1+c.length) { m with vars:=m.vars ++ [r'] } rest (by omega) (λk k1 k2=>hr (k+1) (by simpa using k1) (by simpa using k2)) a4 (by omega) (by simp;omega) with ⟨rs,s1,s2⟩|⟨t,s1⟩
    ·refine .inl ⟨r' :: rs,?_,by rw[Qai,s2];exact congrArg (· :: _) r2⟩;rw[hq,s1];simp only[fl4,Qak,Qaj,QaC,QbR]
     congr 1
     omega
    ·exact .inr ⟨t,by rw[hq,s1]⟩
   ·refine .inr ⟨t,?_⟩;show yq ts (n+xs.length+1) i m=_;rw[uT,if_pos (yj a1 (by decide)),if_neg (by rw[ym a1];decide),if_pos (ym a1),if_neg (by omega),r1]
theorem jbs:∀ (xs:List ProcT) (cc:List (List qx)) (n i:Nat) (m:SrcT) (rest:List qx),cc.length=xs.length->(∀ k (h1:k<xs.length) (h2:k<cc.length),∀ ts i,At ts i cc[k]->i+cc[k].length<=ts.length->(∃ r',J5 ts i=.ok r' (i+cc[k].length)/\unP r'=unP xs[k])\/∃ t,J5 ts i=.er t)->At ts i (fl4 [112,114,111,99,101,115,115] cc ++ rest)->i+(fl4 [112,114,111,99,101,115,115] cc).length<=ts.length->m.procs.length+xs.length<=32->(∃ rs,yq ts (n+xs.length) i m=yq ts n (i+(fl4 [112,114,111,99,101,115,115] cc).length) { m with procs:=m.procs ++ rs }/\rs.map unP=xs.map unP)\/∃ t,yq ts (n+xs.length) i m=.er t
 |[],cc,n,i,m,rest,hc,hr,h,hl,h1=>by
  cases cc with
  |cons c cc=>simp at hc
  |nil=>exact .inl ⟨[],by simp[fl4],rfl⟩
 |x :: xs,cc,n,i,m,rest,hc,hr,h,hl,h1=>by
  cases cc with
  |nil=>simp at hc
  |cons c cc=>
   simp only[Qaj] at h1 hc;have h:At ts i ((4,[112,114,111,99,101,115,115],0) :: ((c ++ fl4 [112,114,111,99,101,115,115] cc) ++ rest)):=h;obtain⟨a1,a2⟩:=h;rw[QaC] at a2;obtain⟨a3,a4⟩:=a2.app;simp only[fl4,Qaj,Qak] at hl;rcases hr 0 (by simp) (by simp) ts (i+1) a3 (by show i+1+c.length<=_;omega) with ⟨r',r1,r2⟩|⟨t,r1⟩
   ·have hq:yq ts (n+(x :: xs).length) i m=yq ts (n+xs.length) (i+1+c.length) { m with procs:=m.procs ++ [r'] }:=by
     show yq ts (n+xs.length+1) i m=_;rw[uT,if_pos (yj a1 (by decide)),if_neg (by rw[ym a1];decide),if_neg (by rw[ym a1];decide),if_neg (by omega),r1];rfl
    rcases jbs xs cc n (i+1+c.length) { m with procs:=m.procs ++ [r'] } rest (by omega) (λk k1 k2=>hr (k+1) (by simpa using k1) (by simpa using k2)) a4 (by omega) (by simp;omega) with ⟨rs,s1,s2⟩|⟨t,s1⟩
    ·refine .inl ⟨r' :: rs,?_,by rw[Qai,s2];exact congrArg (· :: _) r2⟩;rw[hq,s1];simp only[fl4,Qak,Qaj,QaC,QbR]
     congr 1
     omega
    ·exact .inr ⟨t,by rw[hq,s1]⟩
   ·refine .inr ⟨t,?_⟩;show yq ts (n+xs.length+1) i m=_;rw[uT,if_pos (yj a1 (by decide)),if_neg (by rw[ym a1];decide),if_neg (by rw[ym a1];decide),if_neg (by omega),r1]
end
theorem jhe {m:SrcT}{s:List Nat}(h:Qa m=some s)(hl:s.length<=65536)(hz:(zB s).2.1=0):unS (zB s).1=unS m:=by
 unfold Qa at h;split at h
 ·rename_i h0;cases ha:qP (m.enums.map JH) with
  |none=>rw[ha] at h;simp at h
  |some a=>
   cases hb:qP (m.vars.map JJ) with
   |none=>rw[ha,hb] at h;simp at h
   |some b=>
    cases hc:qP (m.procs.map JD) with
    |none=>rw[ha,hb,hc] at h;simp at h
    |some c=>
     rw[ha,hb,hc] at h;simp only[Option.some.injEq] at h;subst h;obtain⟨ea,a1,a2,a3⟩:=its (β:=Nat) ha (P:=λr ts i j=>∃ r',Xd ts i=.ok r' j/\unN r'=unN r) λr hr s hs=>jnz hs;obtain⟨eb,b1,b2,b3⟩:=its (β:=Nat) hb (P:=λr ts i j=>(∃ r',J7 ts i=.ok r' j/\unD r'=unD r)\/∃ t,J7 ts i=.er t) λr hr s hs=>jqt hs;obtain⟨ec,c1,c2,c3⟩:=its (β:=Nat) hc (P:=λr ts i j=>(∃ r',J5 ts i=.ok r' j/\unP r'=unP r)\/∃ t,J5 ts i=.er t) λr hr s hs=>jpA hs;rw[jcn] at a2 b2 c2;have L:=(a2.app b2 λ_ _=>trivial).app c2 λ_ _=>trivial;obtain⟨t,t1,t2,t3,t4,_⟩:=jmv L trivial hl;have e:zB (a ++ b ++ c)=(if(qb (a ++ b ++ c)).2.1≠0 then(QP,(qb (a ++ b ++ c)).2) else match yq (qb (a ++ b ++ c)).1 (qb (a ++ b ++ c)).1.length 0 QP with
      |.er t=>(QP,(151,t.line,t.col))
      |.ok m j=>(m,(0,0,0))):=rfl
     rw[t1,if_neg (by decide)] at e
     revert t2 t3 t4 e
     generalize (qb (a ++ b ++ c)).1=ts;intro t2 t3 t4 e;simp only[Qak] at t3 t4;have n1:=Wb [101,110,117,109] ea;have n2:=Wb [118,97,114] eb;have n3:=Wb [112,114,111,99,101,115,115] ec;obtain⟨h1,h2,h3⟩:=h0;rw[QaC] at t2;obtain⟨_,t5⟩:=t2.app;obtain⟨_,t6⟩:=t5.app;obtain⟨n,hn⟩:∃ n,ts.length=n+1+m.procs.length+m.vars.length+m.enums.length:=⟨ts.length - (1+m.procs.length+m.vars.length+m.enums.length),by omega⟩;have bad:∀ t,yq ts ts.length 0 QP=.er t->False:=λt ht=>by
      rw[ht] at e;rw[e] at hz;have hz:(151:Nat)=0:=hz;omega
     obtain⟨es,e1,e2⟩:=jhd m.enums ea (n+1+m.procs.length+m.vars.length) 0 QP _ a1 a3 t2 (by omega) (by show 0+_<=_;omega);rcases jdz m.vars eb (n+1+m.procs.length) _ { QP with enums:=QP.enums ++ es } _ b1 b3 t5 (by omega) (by show 0+_<=_;omega) with ⟨vs,v1,v2⟩|⟨t,v1⟩
     ·rcases jbs m.procs ec (n+1) _ { { QP with enums:=QP.enums ++ es } with vars:=QP.vars ++ vs } [] c1 c3 (by rw[Qbf];exact t6) (by omega) (by show 0+_<=_;omega) with ⟨ps,p1,p2⟩|⟨t,p1⟩
      ·have ez:0+(fl4 [101,110,117,109] ea).length+(fl4 [118,97,114] eb).length+(fl4 [112,114,111,99,101,115,115] ec).length=(fl4 [101,110,117,109] ea).length+(fl4 [118,97,114] eb).length+(fl4 [112,114,111,99,101,115,115] ec).length:=by omega
       have k5:=zp t3;have fin:yq ts ts.length 0 QP=.ok ⟨es,vs,ps⟩ ((fl4 [101,110,117,109] ea).length+(fl4 [118,97,114] eb).length+(fl4 [112,114,111,99,101,115,115] ec).length):=by
        rw[hn,e1];refine v1.trans (p1.trans ?_);rw[uT,ez,if_neg (Z1 t3 (by decide)),if_pos k5];rfl
       rw[fin] at e;rw[e];simp only[unS,e2,v2,p2]
      ·exact(bad t (by rw[hn,e1];exact v1.trans p1)).elim
     ·exact(bad t (by rw[hn,e1];exact v1)).elim
 ·cases h
theorem jfN {x:Ex}(h:yo x=true)(hl:(qe x).length<=65536)(hz:(ya (qe x)).2.1=0):unE (ya (qe x)).1=unE x:=by
 obtain⟨cs,L,R⟩:=KL h;obtain⟨t,c1,c2,c3,c4,_⟩:=jmv L (λc hc=>by simp at hc) hl;have k5:(tk (qb (qe x)).1 cs.length).kind=5:=congrArg Prod.fst c3;rcases R _ 0 c2 (by rw[QaM,c3];exact jrI) with ⟨y,y1,y2⟩|⟨t,y1⟩
 ·rw[QaM] at y1;have:ya (qe x)=(y,(0,0,0)):=by
   unfold ya;rw[c1,y1];simp[k5]
  rw[this];exact y2
 ·exfalso;have:ya (qe x)=(ex0,(151,t.line,t.col)):=by
   unfold ya;rw[c1,y1];simp
  rw[this] at hz;have hz:(151:Nat)=0:=hz;omega
end Go.Sy
end
noncomputable section
set_option maxRecDepth 100000
namespace Go.Sy
open Go.Ev Go.Proofs
mutual
def J6 (n:Int):Ex->Bool
 |.mk op num _ ks _ _=>(!(decide (op=3) ||(decide (op=4) && (decide (num<0) ||decide (n<=num))))) && zI n ks
def zI (n:Int):List Ex->Bool
 |[]=>true
 |x :: xs=>J6 n x && zI n xs
end
theorem jkB (n:Int)(x:Ex):J6 n x=((!(decide (x.op=3) ||(decide (x.op=4) && (decide (x.num<0) ||decide (n<=x.num))))) && zI n x.kids):=by cases x;rw[J6];rfl
theorem KX (n:Int):∀ xs,zI n xs=xs.all (J6 n)
 |[]=>rfl
 |x :: xs=>by rw[zI,KX n xs];rfl
def Raw (x:Ex):Prop:=zV x=true/\Xx 4 x=false
theorem jnq {fm:Bool}{op num:Int}{name:List Nat}{l c:Int}{ys:List Ex}{ms:List MtT}{r:Ex×MtT}(h:YI fm op num name l c ys ms=.ok r):r.1=.mk op num name ys l c:=by
 unfold YI at h;split at h
 ·cases h
 ·split at h
  ·cases h;rfl
  ·split at h
   ·cases h
   ·cases h;rfl
theorem jiv {vars:List VarT}{s:List Nat}(h:0<=qA vars s):qA vars s<(vars.length:Int):=wG
mutual
theorem gi {vars:List VarT}{enums:List EnumT}:∀ (fm:Bool) (x y:Ex) (m:MtT),zV x=true->Xx 4 x=false->yF vars enums fm x=.ok (y,m)->J6 vars.length y=true/\yg y=yg x/\zF y=true
 |fm,.mk op num name ks l c,y,m,hs,h4,h=>by
  have hs:=wu hs;have ho:=jil h4;simp only[Ex.op,Ex.kids,Ex.num,Ex.name] at hs ho;have nk:(op=1\/op=2\/op=3)->ks=[]:=λho=>by
   have h1:=hs.1;unfold Yw at h1;rw[if_pos (by omega)] at h1;exact QaT (by omega)
  rw[yF] at h;split at h
  ·rename_i h1;cases h;rw[nk (.inl h1)];exact⟨by simp[J6,zI,h1],rfl,rfl⟩
  ·split at h
   ·rename_i h1;cases h;rw[nk (.inr (.inl h1))];exact⟨by simp[J6,zI,h1],rfl,rfl⟩
   ·split at h
    ·rename_i h1;rw[nk (.inr (.inr h1))] at h ⊢;unfold zW at h;split at h
     ·rename_i h2;cases h;have:=jiv h2;exact⟨by simp[J6,zI];omega,rfl,rfl⟩
     ·split at h
      ·cases h
      ·cases h;exact⟨by simp[J6,zI],rfl,rfl⟩
    ·rename_i n1 n2 n3;split at h
     ·cases h
     ·rename_i r hr;have K:=kn (vars:=vars) (enums:=enums) _ ks r.1 r.2 (λk hk=>⟨hs.2.1 k hk,jcg h4 hk⟩) hr;have e:=jnq h;dsimp only at e;subst e;have k2:=kR op;refine⟨?_,?_,?_⟩
      ·rw[J6,K.1];simp[n3,ho]
      ·show qO r.1+1=qO ks+1;rw[K.2.1]
      ·show(decide (r.1.length<=2) && zU r.1)=true;have:r.1.length<=2:=by rw[K.2.2.2];omega
       rw[K.2.2.1];simp[this]
theorem kn {vars:List VarT}{enums:List EnumT}:∀ (fm:Bool) (xs ys:List Ex) (ms:List MtT),(∀ k∈xs,zV k=true/\Xx 4 k=false)->qv vars enums fm xs=.ok (ys,ms)->zI vars.length ys=true/\qO ys=qO xs/\zU ys=true/\ys.length=xs.length
 |fm,[],ys,ms,hs,h=>by
  rw[qv] at h;cases h;exact⟨rfl,rfl,rfl,rfl⟩
 |fm,x :: xs,ys,ms,hs,h=>by
  rw[qv] at h;split at h
  ·cases h
  ·rename_i y hy;split at h
   ·cases h
   ·rename_i r hr;cases h;have A:=gi (vars:=vars) (enums:=enums) fm x y.1 y.2 (hs x (by simp)).1 (hs x (by simp)).2 hy;have B:=kn (vars:=vars) (enums:=enums) fm xs r.1 r.2 (λk hk=>hs k (by simp[hk])) hr;refine⟨by rw[zI,A.1,B.1];rfl,?_,by rw[zU,A.2.2,B.2.2.1];rfl,by simp[B.2.2.2]⟩;show yg y.1+qO r.1=yg x+qO xs;rw[A.2.1,B.2.1]
end
theorem Wv {vars:List VarT}{enums:List EnumT}{fm:Bool}{x y:Ex}{w:Int}{en:List Nat}(hr:Raw x)(h:yD vars enums fm x w en=.ok y):J6 vars.length y=true/\yg y=yg x/\zF y=true:=by
 unfold yD at h;split at h
 ·cases h
 ·rename_i r hk;split at h
  ·cases h
  ·cases h;exact gi fm x r.1 r.2 hr.1 hr.2 hk
structure VarOf (d:DeclT)(v:VarT):Prop where
 name:v.name=d.name
 le:v.lo<=v.hi
 beg:v.beg=decide (d.begins.length=1)
 first:v.beg=true->v.lo<=v.first/\v.first<=v.hi
inductive F2 {α β:Type}(R:α->β->Prop):List α->List β->Prop
 |nil:F2 R [] []
 |cons {x:α} {y:β} {xs:List α} {ys:List β} (h:R x y) (k:F2 R xs ys):F2 R (x :: xs) (y :: ys)
theorem F2.len {α β:Type}{R:α->β->Prop}{xs:List α}{ys:List β}(h:F2 R xs ys):ys.length=xs.length:=by
 induction h with
 |nil=>rfl
 |cons _ _ ih=>simp[ih]
theorem F2.nth {α β:Type}{R:α->β->Prop}{xs:List α}{ys:List β}(h:F2 R xs ys):∀ (k:Nat) (h1:k<xs.length) (h2:k<ys.length),R xs[k] ys[k]:=by
 induction h with
 |nil=>intro k h1;simp at h1
 |cons h _ ih=>
  intro k h1 h2;cases k with
  |zero=>exact h
  |succ k=>exact ih k (by simpa using h1) (by simpa using h2)
theorem jnA {m:ModT}{ts:List (List Nat)}{d:DeclT}{b:MT}(he:∀ e∈m.enums,0<e.vals.length)(hd:d.begins.length<=1)(h:Zj m ts d=.ok b):∃ v,b.1={ m with vars:=m.vars ++ [v] }/\VarOf d v:=by
 unfold Zj at h;split at h
 ·cases h
 ·split at h
  ·cases h
  ·rename_i v hk;have kv:v.name=d.name/\v.lo<=v.hi/\v.beg=false:=by
    unfold UN at hk;split at hk
    ·cases hk;exact⟨rfl,by dsimp only;omega,rfl⟩
    ·split at hk
     ·rename_i h0;cases hk;have hlt:JY m.enums d.ty<(m.enums.length:Int):=wG;have hi2:(JY m.enums d.ty).toNat<m.enums.length:=by omega
      have:=he _ (Qay hi2);have e:(m.enums.getD (JY m.enums d.ty).toNat en0)=m.enums[(JY m.enums d.ty).toNat]:=by
       rw[QaB,Qav hi2];rfl
      refine⟨rfl,?_,rfl⟩;dsimp only;rw[e];omega
     ·split at hk
      ·cases hk
      ·split at hk
       ·cases hk
       ·split at hk
        ·cases hk
        ·cases hk;exact⟨rfl,by dsimp only;omega,rfl⟩
   unfold uv at h;split at h
   ·cases h
   ·rename_i u hu;unfold Gp at h;split at h
    ·cases h
    ·cases h;refine⟨u,rfl,?_⟩;cases hb:d.begins with
     |nil=>
      rw[hb,JK] at hu;cases hu;exact⟨kv.1,kv.2.1,by rw[kv.2.2,hb];rfl,λh=>by rw[kv.2.2] at h;cases h⟩
     |cons x xs=>
      rw[hb] at hd;cases xs with
      |cons y ys=>simp at hd
      |nil=>
       rw[hb,JK] at hu;split at hu
       ·cases hu
       ·split at hu
        ·cases hu
        ·split at hu
         ·cases hu
         ·rw[JK] at hu;cases hu;exact⟨kv.1,kv.2.1,by rw[hb];rfl,λ_=>by dsimp only;omega⟩
theorem jcB:∀ {l:List DeclT} {b c:MT},(∀ e∈b.1.enums,0<e.vals.length)->(∀ d∈l,d.begins.length<=1)->yh (λb e=>Zj b.1 b.2 e) b l=.ok c->∃ vs,c.1={ b.1 with vars:=b.1.vars ++ vs }/\F2 VarOf l vs
 |[],b,c,he,hd,h=>by
  rw[yh] at h;cases h;exact⟨[],by simp,.nil⟩
 |d :: l,b,c,he,hd,h=>by
  rw[yh] at h;split at h
  ·cases h
  ·rename_i b' hb';obtain⟨v,e,hv⟩:=jnA he (hd d (by simp)) hb';obtain⟨vs,e2,h2⟩:=jcB (b:=b') (by rw[e];exact he) (λd hd'=>hd d (by simp[hd'])) h;exact⟨v :: vs,by rw[e2,e];simp,.cons hv h2⟩
def Ky (n:Int)(s:SetT):Bool:=!(decide (s.var<0) ||decide (n<=s.var)) && (J6 n s.to && zF s.to)
def Xq (n:Int)(m:MoveT):Bool:=(J6 n m.when && zF m.when && decide (m.acts.length<=1000000)) && m.acts.all (Ky n)
theorem jdE {vars:List VarT}{enums:List EnumT}:∀ {l:List AsT} {acc:List SetT} {done:List AsT} {ss:List SetT},(∀ a∈l,Raw a.to)->QQ vars enums acc done l=.ok ss->acc.all (Ky vars.length)=true->ss.all (Ky vars.length)=true/\ss.length=acc.length+l.length
 |[],acc,done,ss,hr,h,ha=>by rw[QQ] at h;cases h;exact⟨ha,rfl⟩
 |a :: l,acc,done,ss,hr,h,ha=>by
  rw[QQ] at h;split at h
  ·cases h
  ·split at h
   ·cases h
   ·split at h
    ·cases h
    ·rename_i n0 _ y hy;have N:=Wv (hr a (by simp)) hy;have hlt:=jiv (vars:=vars) (s:=a.name) (by omega);have R:=jdE (λb hb=>hr b (by simp[hb])) h (by
      rw[Qbi,ha];simp[Ky,N.1,N.2.2];omega)
     exact⟨R.1,by rw[R.2];simp;omega⟩
theorem jm0 {m:ModT}{ts:List (List Nat)}{r:RuleT}{b:MT}(hw:Raw r.when)(hr:∀ a∈r.acts,Raw a.to)(hn:r.acts.length<=1000000)(h:XR m ts r=.ok b)(hm:m.moves.all (Xq m.vars.length)=true):b.1.vars=m.vars/\b.1.moves.all (Xq m.vars.length)=true/\b.1.moves.length=m.moves.length+1:=by
 unfold XR at h;split at h
 ·cases h
 ·rename_i w hw';split at h
  ·cases h
  ·rename_i ss hs;cases h;refine⟨rfl,?_,by simp⟩;dsimp only;rw[Qbi,hm];have S:=jdE hr hs rfl;have N:=Wv hw hw';have hl:ss.length<=1000000:=by rw[S.2];simp;omega
   simp only[QaY,List.all_nil,Bool.and_true,Bool.true_and,Xq,N.1,N.2.2,S.1,hl,decide_true]
def jlm (r:RuleT):Prop:=Raw r.when/\(∀ a∈r.acts,Raw a.to)/\r.acts.length<=1000000
theorem jbx:∀ {l:List RuleT} {b c:MT},(∀ r∈l,jlm r)->yh (λb r=>XR b.1 b.2 r) b l=.ok c->b.1.moves.all (Xq b.1.vars.length)=true->c.1.vars=b.1.vars/\c.1.moves.all (Xq b.1.vars.length)=true/\c.1.moves.length=b.1.moves.length+l.length
 |[],b,c,hr,h,hm=>by rw[yh] at h;cases h;exact⟨rfl,hm,rfl⟩
 |r :: l,b,c,hr,h,hm=>by
  rw[yh] at h;split at h
  ·cases h
  ·rename_i b' hb';obtain⟨e1,e2,e3⟩:=jm0 (hr r (by simp)).1 (hr r (by simp)).2.1 (hr r (by simp)).2.2 hb' hm;have:=jbx (b:=b') (λq hq=>hr q (by simp[hq])) h (by rw[e1];exact e2);rw[e1,e3] at this;exact⟨this.1,this.2.1,by rw[this.2.2];simp;omega⟩
theorem jbL:∀ {l:List ProcT} {b c:MT},(∀ p∈l,p.rules.length<=1000/\∀ r∈p.rules,jlm r)->yh Zc b l=.ok c->b.1.moves.all (Xq b.1.vars.length)=true->c.1.vars=b.1.vars/\c.1.moves.all (Xq b.1.vars.length)=true/\c.1.moves.length<=b.1.moves.length+1000 * l.length
 |[],b,c,hr,h,hm=>by rw[yh] at h;cases h;exact⟨rfl,hm,by simp⟩
 |p :: l,b,c,hr,h,hm=>by
  rw[yh] at h;split at h
  ·cases h
  ·rename_i b' hb';unfold Zc at hb';split at hb'
   ·cases hb'
   ·rename_i ts' _;obtain⟨e1,e2,e3⟩:=jbx (b:=(b.1,ts')) (hr p (by simp)).2 hb' hm;have h1000:=(hr p (by simp)).1;have:=jbL (b:=b') (λq hq=>hr q (by simp[hq])) h (by rw[e1];exact e2);rw[e1,e3] at this;exact⟨this.1,this.2.1,by have:=this.2.2;dsimp only at this;simp only[Qaj];omega⟩
theorem jkE {s:SrcT}{c:MT}(hv:∀ e∈s.enums,0<e.vals.length)(hb:∀ d∈s.vars,d.begins.length<=1)(hr:∀ p∈s.procs,p.rules.length<=1000/\∀ r∈p.rules,jlm r)(hp:s.procs.length<=100)(h:Qh s=.ok c):F2 VarOf s.vars c.1.vars/\c.1.moves.all (Xq c.1.vars.length)=true/\c.1.moves.length<=100000:=by
 unfold Qh at h;split at h
 ·cases h
 ·rename_i b h1;have en:∀ {l:List EnumT} {b c:MT},(∀ e∈l,0<e.vals.length)->yh (λb e=>wH b.1 b.2 e) b l=.ok c->(∀ e∈b.1.enums,0<e.vals.length)->(∀ e∈c.1.enums,0<e.vals.length)/\c.1.vars=b.1.vars/\c.1.moves=b.1.moves:=by
   intro l;induction l with
   |nil=>intro b c hl h hb;rw[yh] at h;cases h;exact⟨hb,rfl,rfl⟩
   |cons e l ih=>
    intro b c hl h hb;rw[yh] at h;split at h
    ·cases h
    ·rename_i b' hb';have e1:=kX hb';have:=ih (b:=b') (λe he=>hl e (by simp[he])) h (by
      rw[e1];intro e' he';rcases Qbk.1 he' with he'|he'
      ·exact hb e' he'
      ·simp only[QbP] at he';rw[he'];exact hl e (by simp))
     rw[e1] at this;exact this
  obtain⟨E1,E2,E3⟩:=en hv h1 (λe he=>by cases he);split at h
  ·cases h
  ·rename_i b2 h2;obtain⟨vs,e1,e2⟩:=jcB E1 hb h2;have v0:b.1.vars=[]:=E2;have m0:b.1.moves=[]:=E3;obtain⟨f1,f2,f3⟩:=jbL (b:=b2) hr h (by rw[e1];dsimp only;rw[m0];rfl);have ev:c.1.vars=vs:=by rw[f1,e1];dsimp only;rw[v0];rfl
   have ev2:b2.1.vars=vs:=by rw[e1];dsimp only;rw[v0];rfl
   rw[ev2] at f2;rw[ev];have m2:b2.1.moves.length=0:=by rw[e1];dsimp only;rw[m0];rfl
   exact⟨e2,f2,by omega⟩
end Go.Sy
end
noncomputable section
set_option maxRecDepth 100000
namespace Go.Sy
open Go.Ev Go.Proofs
def z22:XC:=(Pv [LV 2 0,LV 3 1,La 4 [.nils,.nils,.nils],Em 5,PH 6] [PT 12 3,Pw 13 12 12,TB 14 (L9 13),TH 15 14,Li 16 15 (.ldA 6 3),PE 17 (Lh 15) 14 [] [16],Ee 18 15 .gtr 17 20,L6 19 15 Ls 18] 19 [LD 20 [.nils,.nils,.nils] [],LD 21 (PK TI TI TN TI TI) [],T9 3 4 20,EJ 5 21,PH 6] (Pv [T4 23 3 2,Pw 24 18 23,TH 22 24,Ly 25 22 0,Ly 26 22 1,TG 7 25,TG 8 26] [TH 27 8,EU 28 .neq 27,TH 29 28,Ph 30 29 7,Li 31 29 (.lenS 30),Ee 32 29 .gtr 31 5000,L6 33 29 Ls 32] 33 [LD 34 [.nils,.nils,.nils] [],LD 35 (PK TI TI TN TI TI) [],T9 3 4 34,EJ 5 35,PH 6] (Lb [TH 37 7,PT 38 3,Pw 39 16 38,PZ 40 24 37 39,TH 36 40,Ly 41 36 0,Ly 42 36 1,Ly 43 36 2,La 9 [.nils,.nils,.nils],Em 10,La 11 [TI,TI,TI],T9 3 9 41,EJ 10 42,T9 3 11 43] (.dops [EI (T4 44 3 9) 9 51,EI (PT 45 10) 10 37,EI (T4 46 3 11) 11 30,LO (LD 47 [TI,TI,TI] []),LO (TB 48 (ET .eql 30 46 47)),EM 3 4 44 [(2,30),(3,37)],EM 6 5 45 [(3,30)],LO (TG 6 48)]) .ret)))
def y22:XF:=⟨[0,1],z22,[(.cA 4 3),(.cA 5 6),(.t 6)]⟩
theorem x22:jE Qaf 22=some y22:=by kernel_rfl
def jeP:XC:=(Es [Ew 26 2,Pa 27 26,LW 28 27,Pb 29] 0 (EN 30 29 28) 30 0 1 [Lu 31 6 27 29,PT 32 31,Em 6,EJ 6 32] (LN [PT 33 6,TH 34 1,PZ 35 23 33 34,ED 36 35] 36 [Ec]) 37 29 1 29 37 (Lg [EB Ls]))
def z23:XC:=(Pv (LZ (LV 2 0) 4 Ld) [PC 7 2,TO 8 7,Px 9 8 3,TH 10 9,LG 11 10 0 2,LI 12 10 11,Ee 13 10 .eql 12 4,Ph 14 10 13,P8 15 14 1 2,P9 16 14 15,L5 17 14 (Eg .lss 16),PO 18 14 17,LG 19 18 1 2,LI 20 18 19,Ph 21 18 1,Eo 22 18 .geq 20 21,L5 23 14 (.pick 18 Ls 22),Li 24 10 (.pick 14 23 Ld),L6 25 10 Ls 24] 25 [Ec] jeP)
def y23:XF:=⟨[0,1],z23,[(.t 4)]⟩
theorem x23:jE Qaf 23=some y23:=by kernel_rfl
def jeA:XC:=(.seq (Po [TK 103 2 5,Pa 104 103,LW 105 104,Pb 106] 2 (EN 107 106 105) 107 2 3 (Pv [Lu 108 7 104 106,T4 109 7 108,La 11 [TI,TI,TN,.nils,TI,TI,.nils],T9 7 11 109] [PC 110 11,PT 111 110,PC 112 5,TO 113 112,PD 114 113,PZ 115 23 111 114,ED 116 115] 116 [Ec] (EO [TK 117 6 11,Pa 118 117,LW 119 118,Pb 120] 4 121 120 119 121 4 5 [Lu 122 7 118 120,T4 123 7 122,La 13 [TI,TI,TI,TN,.nils,TI,TI],T9 7 13 123] (LN [PC 124 13,TO 125 124,EU 126 .lss 125,TH 127 126,LG 128 127 0 13,LI 129 127 128,LG 130 127 0 5,LI 131 127 130,PV 132 127 131,Eo 133 127 .geq 129 132,EG 134 127 133,TH 135 134,LG 136 135 1 13,Li 137 135 (.ldA 6 136),LG 138 135 0 5,LI 139 135 138,PV 140 135 139,PE 141 (Lh 135) 23 [] [137,140],Li 142 135 (L9 141),L6 143 135 Ls 142] 143 [Ec]) 144 120 1 120 144)) 145 106 1 106 145) (Lg [EB Ls]))
def jeB:XC:=(.seq (Po [PC 47 5,Pa 48 47,LW 49 48,Pb 50] 0 (EN 51 50 49) 51 0 1 (Lb [TH 52 50,Lu 53 7 48 50,T4 54 7 53,La 9 [TN,TI,TN,TI,TI,.bool false,TI],TG 8 52,T9 7 9 54] (.cops [LB (PC 55 9),P4 56 55,LB (P6 57 2),P4 58 57,Ef 59 8,LB (Lu 60 7 58 59),LB (PC 61 60),P4 62 61,LB (LA 63 .neq 56 62),Ef 64 63,LB (LG 65 64 3 9),LB (LI 66 64 65),LB (LG 67 64 4 9),LB (LI 68 64 67),LB (Eo 69 64 .gtr 66 68),LB (EG 70 64 69),Ef 71 70,LB (LG 72 71 5 9),LB (LI 73 71 72),LB (LG 74 71 1 2),LB (LI 75 71 74),LB (Ph 76 71 8),LB (Li 77 71 (.idxS 7 75 76)),LB (LG 78 71 4 77),LB (LI 79 71 78),LB (PV 80 71 79),LB (Ee 81 71 .eql 80 1),LB (Li 82 71 (ET .neq 4 73 81)),LB (EG 83 71 82),Ef 84 83,LB (LG 85 84 5 9),LB (LI 86 84 85),LB (Ph 87 84 86),LB (P8 88 87 6 9),LB (P9 89 87 88),LB (P8 90 87 3 9),LB (P9 91 87 90),LB (L5 92 87 (LP 89 91)),LB (PO 93 87 92),LB (LG 94 93 6 9),LB (LI 95 93 94),LB (LG 96 93 4 9),LB (LI 97 93 96),LB (Eo 98 93 .gtr 95 97),LB (L5 99 87 (.pick 93 Ls 98)),LB (Li 100 84 (.pick 87 99 Ld)),LB (L6 101 84 Ls 100)]) (Eh 101 [Ec] .skip)) 102 50 1 50 102) jeA)
def jji:XC:=(.seq (Pz [LU 25 0 5,Ey 26 25 25 48,LO (PD 27 26),LU 28 1 2,Ey 29 28 28 24,LO (PD 30 29),LO (Pq 31 .neq 27 30),LO (TH 32 31),EI (Li 33 32 (.ldA 6 6)) 6 37,LO (LG 34 32 0 5),EI (LI 35 32 34) 34 48,LO (PV 36 32 35),(LH (PE 37 (Lh 32) 23 [] [33,36]) 0 [],PB),LO (Li 38 32 (L9 37)),LO (EG 39 32 38),LO (TH 40 39),EI (Li 41 40 (.ldA 6 6)) 6 37,(LH (PE 42 (Lh 40) 13 [] [41]) 0 [],some [Eb 42 0,Ll (Li 43 40 (.ldA 6 3)) 3 37 [(0,0)],Eb 44 0,Eb 45 0,Lj (Lk 46 LM) 0]),LK (Li 43 40 (.ldA 6 3)) 3 37 [(0,0)],(LH (PE 44 (Lh 40) 13 [] [43]) 0 [],PB),LO (Eo 45 40 .neq 42 44),LO (L6 46 40 Ls 45)] (Eh 46 [Ec] .skip)) jeB)
def zL5:XC:=(Pv [LV 2 0,LV 3 1,Ec] [Lt 14 21 [],ED 15 14] 15 [Ec] (Pv [T4 17 3 2,PT 18 3,PZ 19 22 17 18,TH 16 19,Ly 20 16 0,Ly 21 16 1,Ly 22 16 2,La 5 [.nils,.nils,.nils],Em 6,T9 3 5 20,EJ 6 21,TG 7 22] [TH 23 7,ED 24 23] 24 [EB Ls] jji))
def yL5:XF:=⟨[0,1],zL5,[(.t 4)]⟩
theorem xL5:jE Qaf 5=some yL5:=by kernel_rfl
end Go.Sy
end
noncomputable section
set_option maxRecDepth 100000
namespace Go.Sy
open Go.Ev Go.Proofs
variable {base:Bs}
theorem WP (n:Int)(xs ys:List Ex):zI n (xs ++ ys)=(zI n xs && zI n ys):=by simp only[KX,Qbi]
set_option maxHeartbeats 4000000 in
theorem WO (hb:NB base)(n:Int):∀ x:Ex,zF x=true->Tot base 23 [.agg (eE x),.int .i64 n] (.bool (J6 n x)):=by
 refine Ex.indk λx ih hx=>?_;refine hb.tot ?_ (by first|rfl|simp[pa,pc,q8,Qs,wx,JI,Jj,UD,Uv,XN,Za,Zf,Yt,Yp]) rfl;have hd:=jkB n x;have hx2:x.kids.length<=2/\zU x.kids=true:=by cases x;rw[zF,Qar,decide_eq_true_eq] at hx;exact hx
 generalize hks:x.kids=ks at *;obtain⟨hlen,hth⟩:=hx2;refine jI x23 (by rfl) (hb.pur 23 1 (by decide)) ?_;simp only[y23,jp,Qai,Qal,Qag,Qah];rw[(by unfold z23;simp only[qq];rfl:z23=_)];by_cases c:x.op=3\/x.op=4/\(x.num<0\/n<=x.num)
 ·repeat'(first|(apply jc<;>intro _)|simp(disch:=first|exact dzG|fail) only[hks,je,jo,jL,jn,jf,qi,qh,jr,jt,jv,jx,ju,rzZ,Qab,Qac,Qad,Qaa,Qae])
  all_goals first
   |(refine G0.v (congrArg AV.bool ?_) rfl;rw[hd];simp_all<;>omega)
   |(exfalso;omega)
 ·have hd2:J6 n x=zI n ks:=by
   rw[hd];have:(!(decide (x.op=3) ||decide (x.op=4) && (decide (x.num<0) ||decide (n<=x.num))))=true:=by simp;omega
   rw[this,Bool.true_and]
  have loop:∀ v:AV,xC Qaf base jeP [(25,v),(4,.bool false),(2,.ptr 0 0),(0,.agg (eE x)),(1,.int .i64 n)] (nw st0 (eE x)) (QE Qaf [.t 4] (Xe G0 (.ok (.bool (J6 n x))))) λv _ s=>Xb G0 (.ok (.bool (J6 n x))) v s.bare:=λv=>by
   rw[(by unfold jeP;simp only[qq];rfl:jeP=_)];repeat'(first|(apply jc<;>intro _)|simp(disch:=first|exact dzG|fail) only[hks,je,jo,jL,jn,jf,qi,qh,jr,jt,jv,jx,ju,rzZ,Qab,Qac,Qad,Qaa,Qae])
   refine qy ks.length (λk L s=>zI n (ks.take k)=true/\Has L 1 (.int .i64 n)/\Has L 27 (.lst ks.length (fl eE ks))) (by first|assumption|omega) (by decide) (by simp(disch:=decide) only[jd,jb]) (by simp(disch:=decide) only[jd,jb]) ?_ (λk L s v h=>by simp(disch:=decide) only[jb];exact h) (λk L s v h=>by simp(disch:=decide) only[jb];exact h) (λk L s hk hI hi hn=>?_) (λL s hI=>?_)
   ·simp(disch:=decide) only[Qam,Qao,z0,z1,jd,jb,and_true,true_and,QaZ,zI]
   ·obtain⟨h0,i1,i27⟩:=hI;have e:=ih ks[k] (Qay hk) (Vs hk hth);repeat'(first|(apply jc<;>intro _)|simp(disch:=first|exact dzG|fail) only[ja i1,ja i27,ja hi,ja hn,e,je,jo,jL,jn,jf,qi,qh,jr,jt,jv,jx,ju,rzZ,Qab,Qac,Qad,Qaa,Qae])
    ·have e3:=WP n (ks.take (k+1)) (ks.drop (k+1));rw[Qbp,y7 hk,WP] at e3;simp only[zI] at e3
     (refine G0.v ?_ rfl;repeat' split)<;>first|rfl|(exfalso;omega)|(simp_all;done)|(simp;omega)|(simp_all;omega)
    ·simp(disch:=decide) only[Qam,Qao,z0,z1,jd,jb,and_true,true_and,i1,i27,hi,hn];rw[y7 hk,WP,h0];simp_all [zI]
   ·rw[QaE] at hI;repeat'(first|(apply jc<;>intro _)|simp(disch:=first|exact dzG|fail) only[ja hI.2.1,je,jo,jL,jn,jf,qi,qh,jr,jt,jv,jx,ju,rzZ,Qab,Qac,Qad,Qaa,Qae])
    (refine G0.v ?_ rfl;repeat' split)<;>first|rfl|(exfalso;omega)|(simp_all;done)|(simp;omega)|(simp_all;omega)
  repeat'(first|(apply jc<;>intro _)|simp(disch:=first|exact dzG|fail) only[hks,je,jo,jL,jn,jf,qi,qh,jr,jt,jv,jx,ju,rzZ,Qab,Qac,Qad,Qaa,Qae])
  all_goals first
   |(exfalso;omega)
   |exact loop _
end Go.Sy
end
noncomputable section
set_option maxRecDepth 100000
namespace Go.Sy
open Go.Ev Go.Proofs
variable {base:Bs}
def Qp (s:SrcT)(x:Ex):ModT×Ex×Bool:=
 if yo x=true/\¬ 20<zO x then(match Qa s with
  |none=>(md0,ex0,false)
  |some t=>if 5000<t.length then(md0,ex0,false) else((Xa t (qe x)).m,(Xa t (qe x)).x,decide ((Xa t (qe x)).c=0/\(Xa t (qe x)).l=0/\(Xa t (qe x)).k=0)))
 else(md0,ex0,false)
def jae (r:ModT×Ex×Bool):AV:=.tup [.agg (mdE r.1),.agg (eE r.2.1),.bool r.2.2]
theorem jkd {s:St}{r:ModT×Ex×Bool}{a b:List AV}{q:Bool}(h1:a=mdE r.1)(h2:b=eE r.2.1)(h3:q=r.2.2):G0 (jae r) (.tup [.agg a,.agg b,.bool q]) s:=by
 subst h1 h2 h3;exact FzD.tup (.cons (.agg (.pc (Yt _))) (.cons (.agg (.pc (q8 _))) (.cons (.pc rfl) .nil)))
theorem Wz {s:St}{r:ModT×Ex×Bool}(h:r=(md0,ex0,false)):G0 (jae r) (.tup [.agg [.nils,.nils,.nils],.agg [.int .i64 0,.int .i64 0,.str [],.nils,.int .i64 0,.int .i64 0],.bool false]) s:=by
 subst h;exact FzD.tup (.cons (.agg (.cons FzD.nils (.cons FzD.nils (.cons FzD.nils .nil)))) (.cons (.agg (.cons (.pc rfl) (.cons (.pc rfl) (.cons (.pc rfl) (.cons FzD.nils (.cons (.pc rfl) (.cons (.pc rfl) .nil))))))) (.cons (.pc rfl) .nil)))
set_option maxHeartbeats 8000000 in
theorem jpt (hb:NB base)(hP:PI base)(m:SrcT)(x:Ex)(hm:szS m<=1048576)(hx:szE x<=1048576):Tot base 22 [.agg (srE m),.agg (eE x)] (jae (Qp m x)):=by
 have hB:(1048576:Nat)<=BIG:=by decide
 have hBm:BIG<=4611686018427387904:=by decide
 have E12:=wP hb x (by omega);have E14:=jjf hb x (by omega);have E18:=ji8 hb m (joL hm);unfold je3 at E18;refine hb.tot ?_ (by first|rfl|simp[pa,pc,q8,Qs,wx,JI,Jj,UD,Uv,XN,Za,Zf,Yt,Yp]) rfl;refine jI x22 (by rfl) (hb.pur 22 1 (by decide)) ?_;simp only[y22,jp,Qai,Qal,Qag,Qah];rw[(by unfold z22;simp only[qq];rfl:z22=_)];by_cases c1:yo x=true
 ·by_cases c2:20<zO x
  ·have hr:Qp m x=(md0,ex0,false):=by unfold Qp;rw[if_neg (by simp[c2])]
   repeat'(first|(apply jc<;>intro _)|simp(disch:=first|exact dzG|fail) only[E12,E14,c1,c2,je,jo,jL,jn,jf,qi,qh,jr,jt,jv,jx,ju,rzZ,Qab,Qac,Qad,Qaa,Qae])
   all_goals exact Wz hr
  ·cases hs:Qa m with
   |none=>
    have hr:Qp m x=(md0,ex0,false):=by unfold Qp;rw[if_pos ⟨c1,c2⟩,hs]
    rw[hs] at E18;have e18:(if(none:Option (List Nat)).isSome=true then(0:Int) else 141)=141:=rfl;rw[e18] at E18;repeat'(first|(apply jc<;>intro _)|simp(disch:=first|exact dzG|fail) only[E12,E14,c1,c2,E18,je,jo,jL,jn,jf,qi,qh,jr,jt,jv,jx,ju,rzZ,Qab,Qac,Qad,Qaa,Qae])
    all_goals exact Wz hr
   |some t=>
    rw[hs] at E18;have e18:(if(some t).isSome=true then(0:Int) else 141)=0:=rfl;have e18':(some t).getD []=t:=rfl;rw[e18,e18'] at E18;by_cases c3:5000<t.length
    ·have hr:Qp m x=(md0,ex0,false):=by
      unfold Qp;rw[if_pos ⟨c1,c2⟩,hs];dsimp only;rw[if_pos c3]
     repeat'(first|(apply jc<;>intro _)|simp(disch:=first|exact dzG|fail) only[E12,E14,c1,c2,E18,c3,je,jo,jL,jn,jf,qi,qh,jr,jt,jv,jx,ju,rzZ,Qab,Qac,Qad,Qaa,Qae])
     all_goals exact Wz hr
    ·have E16:=gV hb x (by omega) (zc c1);have tl:=Jp x (zc c1);have E24:=jqU hb hP t (qe x) (by omega) (by omega);have hr:Qp m x=((Xa t (qe x)).m,(Xa t (qe x)).x,decide ((Xa t (qe x)).c=0/\(Xa t (qe x)).l=0/\(Xa t (qe x)).k=0)):=by
      unfold Qp;rw[if_pos ⟨c1,c2⟩,hs];dsimp only;rw[if_neg c3]
     rw[hr];unfold Ks fcl at E24;generalize Xa t (qe x)=r at *
     (have zz:=aI @Qb @jaD;(repeat'(first|(apply jc<;>intro _)|simp(disch:=first|exact qu|fail) only[E12,E14,E16,c1,c2,E18,c3,E24,fNe,fEq,je2,je1,je0,YD,Qw,jpf,Qb,jaD,je,jo,jL,jn,jf,qi,qh,jr,jt,jv,jx,ju,rzZ,Qab,Qac,Qad,Qaa,Qae]));(all_goals(clear zz)))
     all_goals exact jkd rfl rfl rfl
 ·have c1':yo x=false:=by simpa using c1
  have hr:Qp m x=(md0,ex0,false):=by unfold Qp;rw[if_neg (by simp[c1'])]
  repeat'(first|(apply jc<;>intro _)|simp(disch:=first|exact dzG|fail) only[E12,E14,c1',je,jo,jL,jn,jf,qi,qh,jr,jt,jv,jx,ju,rzZ,Qab,Qac,Qad,Qaa,Qae])
  all_goals exact Wz hr
end Go.Sy
end
noncomputable section
set_option maxRecDepth 100000
namespace Go.Sy
open Go.Ev Go.Proofs
mutual
theorem kS (op:Int):∀ x:Ex,Xx op (unE x)=Xx op x
 |.mk o n nm ks l c=>by
  show(decide (o=op) ||zM op (Jo ks))=(decide (o=op) ||zM op ks);rw[Hw op ks]
theorem Hw (op:Int):∀ xs:List Ex,zM op (Jo xs)=zM op xs
 |[]=>rfl
 |x :: xs=>by
  show(Xx op (unE x) ||zM op (Jo xs))=(Xx op x ||zM op xs);rw[kS op x,Hw op xs]
end
mutual
theorem Vv:∀ x:Ex,yg (unE x)=yg x
 |.mk o n nm ks l c=>by
  show qO (Jo ks)+1=qO ks+1;rw[Kx ks]
theorem Kx:∀ xs:List Ex,qO (Jo xs)=qO xs
 |[]=>rfl
 |x :: xs=>by
  show yg (unE x)+qO (Jo xs)=yg x+qO xs;rw[Vv x,Kx xs]
end
theorem jmY {x y:Ex}(h:unE x=unE y):yg x=yg y:=by rw[<-Vv x,h,Vv]
theorem jbE {x y:Ex}(h:unE x=unE y)(hy:yo y=true):Raw x:=by
 unfold yo at hy;simp only[Qar,QaR] at hy;have h1:=hy.1;rw[<-jbA h,Qm] at h1;simp only[Qar] at h1;refine⟨h1.2,?_⟩;rw[<-kS,h,kS];exact hy.2
theorem UI {α β:Type}{f:α->β}{p:α->Prop}{q:α->Prop}(hp:∀ x y,f x=f y->q y->p x){xs ys:List α}(h:xs.map f=ys.map f)(hy:∀ y∈ys,q y):∀ x∈xs,p x:=by
 intro x hx;have:f x∈ys.map f:=by rw[<-h];exact Qbj.2 ⟨x,hx,rfl⟩
 obtain⟨y,hy1,hy2⟩:=Qbj.1 this;exact hp x y hy2.symm (hy y hy1)
theorem jdX {α β:Type}{f:α->β}{xs ys:List α}(h:xs.map f=ys.map f):xs.length=ys.length:=by
 have:=congrArg List.length h;simpa using this
theorem k8 {α:Type}{f:α->Option (List Nat)}{xs:List α}{t:List Nat}(h:qP (xs.map f)=some t):∀ x∈xs,∃ s,f x=some s:=by
 obtain⟨ls,e,_⟩:=jcK h;intro x hx;have:f x∈ls.map some:=by rw[<-e];exact Qbj.2 ⟨x,hx,rfl⟩
 obtain⟨s,_,hs⟩:=Qbj.1 this;exact⟨s,hs.symm⟩
theorem je5 {m:SrcT}{t:List Nat}(h:Qa m=some t):(∀ d∈m.vars,d.begins.length<=1)/\∀ p∈m.procs,∀ r∈p.rules,yo r.when=true/\∀ a∈r.acts,yo a.to=true:=by
 unfold Qa at h;split at h
 ·cases ha:qP (m.enums.map JH) with
  |none=>rw[ha] at h;simp at h
  |some a=>
   cases hb:qP (m.vars.map JJ) with
   |none=>rw[ha,hb] at h;simp at h
   |some b=>
    cases hc:qP (m.procs.map JD) with
    |none=>rw[ha,hb,hc] at h;simp at h
    |some c=>
     refine⟨λd hd=>?_,λp hp r hr=>?_⟩
     ·obtain⟨s,hs⟩:=k8 hb d hd;cases ht:JB d with
      |none=>rw[Wg ht] at hs;cases hs
      |some u=>
       rw[U2 ht] at hs;split at hs
       ·rename_i hh;exact hh.1
       ·cases hs
     ·obtain⟨s,hs⟩:=k8 hc p hp;unfold JD at hs;split at hs
      ·cases hq:qP (p.rules.map Jk) with
       |none=>rw[hq] at hs;cases hs
       |some u=>
        obtain⟨v,hv⟩:=k8 hq r hr;unfold Jk at hv;split at hv
        ·rename_i hh;refine⟨hh.1,λa ha=>?_⟩;have:=Qax.1 hh.2.2.2 a ha;unfold vP at this;rw[Qar] at this;exact this.2
        ·cases hv
      ·cases hs
 ·cases h
theorem F2.mapL {α β γ:Type}{R:α->β->Prop}{f:α->γ}(hR:∀ a b y,f a=f b->R a y->R b y):∀ {xs xs':List α} {ys:List β},xs.map f=xs'.map f->F2 R xs ys->F2 R xs' ys
 |[],[],ys,_,h=>h
 |[],x :: xs,ys,e,h=>by simp at e
 |x :: xs,[],ys,e,h=>by simp at e
 |x :: xs,x' :: xs',ys,e,h=>by
  simp only[Qai,List.cons.injEq] at e;cases h with
  |cons h k=>exact .cons (hR _ _ _ e.1 h) (F2.mapL hR e.2 k)
mutual
theorem Gf:∀ x:Ex,szE (unE x)=szE x
 |.mk o n nm ks l c=>by
  show yp (Jo ks)+nm.length+1=yp ks+nm.length+1;rw[jbq ks]
theorem jbq:∀ xs:List Ex,yp (Jo xs)=yp xs
 |[]=>rfl
 |x :: xs=>by
  show szE (unE x)+yp (Jo xs)=szE x+yp xs;rw[Gf x,jbq xs]
end
theorem jo8 {x y:Ex}(h:unE x=unE y):szE x=szE y:=by rw[<-Gf x,h,Gf]
theorem jg4 {vars:List VarT}{enums:List EnumT}{fm:Bool}{x y:Ex}{w:Int}{en:List Nat}(h:yD vars enums fm x w en=.ok y):szE y<=szE x:=by
 unfold yD at h;split at h
 ·cases h
 ·rename_i r hk;split at h
  ·cases h
  ·cases h;exact jca fm x r.1 r.2 hk
structure Keeps (m:SrcT)(x:Ex)(M:ModT)(y:Ex):Prop where
 vars:F2 VarOf m.vars M.vars
 moves:M.moves.all (Xq M.vars.length)=true
 numb:J6 M.vars.length y=true
 size:yg y=yg x
 thin:zF y=true
 sz:szE y<=szE x
 len:M.moves.length<=100000
 nv:M.vars.length<=1000
theorem jfd {m:SrcT}{x:Ex}(h:(Qp m x).2.2=true):Keeps m x (Qp m x).1 (Qp m x).2.1:=by
 revert h
 unfold Qp;split
 ·rename_i c;cases hs:Qa m with
  |none=>intro h;cases h
  |some t=>
   dsimp only;split
   ·intro h;cases h
   ·rename_i c2;dsimp only;intro h;have h:=of_decide_eq_true h
    revert h
    unfold Xa;split
    ·rename_i h1;intro h;exact absurd (show((zB t).2.1:Int)=0 from h.1) (by omega)
    ·rename_i h1;have h1:(zB t).2.1=0:=by omega
     have O:=jdB (l:=t) h1;have U:=jhe hs (by omega) h1;obtain⟨u1,u2,u3⟩:=jmR U;obtain⟨w1,w2⟩:=je5 hs;cases hm:Qh (zB t).1 with
     |er a b d=>intro h;exact absurd h.1 (K3 hm)
     |ok M=>
      dsimp only;have RW:∀ p∈(zB t).1.procs,∀ r∈p.rules,Raw r.when/\∀ a∈r.acts,Raw a.to:=UI (p:=λp:ProcT=>∀ r∈p.rules,Raw r.when/\∀ a∈r.acts,Raw a.to) (λa b hab hb=>by
       simp only[unP,ProcT.mk.injEq,and_true] at hab;refine UI (p:=λr:RuleT=>Raw r.when/\∀ a∈r.acts,Raw a.to) (λr r' hr hr'=>?_) hab.2 hb;simp only[unR,RuleT.mk.injEq] at hr;refine⟨jbE hr.1 hr'.1,UI (p:=λa:AsT=>Raw a.to) (λa a' ha ha'=>?_) hr.2 hr'.2⟩;simp only[unA,AsT.mk.injEq,and_true] at ha;exact jbE ha.2 ha') u3 w2
      obtain⟨v1,v2,v3⟩:=jkE (λe he=>(O.vals e he).1) (UI (p:=λd:DeclT=>d.begins.length<=1) (λa b hab hb=>by
       simp only[unD,DeclT.mk.injEq,and_true] at hab;rw[jdX hab.2.2.2.2];exact hb) u2 w1) (λp hp=>⟨(O.procs p hp).len,λr hr=>⟨(RW p hp r hr).1,(RW p hp r hr).2,((O.procs p hp).rules r hr).2.2⟩⟩) O.np hm
      split
      ·rename_i h2;intro h;exact absurd (show((ya (qe x)).2.1:Int)=0 from h.1) (by omega)
      ·rename_i h2;have h2:(ya (qe x)).2.1=0:=by omega
       cases ht:yD M.1.vars M.1.enums true (ya (qe x)).1 2 [] with
       |er a b d=>intro h;exact absurd h.1 (Y6 ht)
       |ok y=>
        intro _;dsimp only;have hl:(qe x).length<=65536:=by
         refine Classical.byContradiction λhn=>?_;have ec:qb (qe x)=([],(132,1,1)):=by unfold qb;rw[if_pos (by omega)]
         have:(ya (qe x)).2.1=132:=by unfold ya;rw[ec];rfl
         omega
        have E:=jfN c.1 hl h2;obtain⟨n1,n2,n3⟩:=Wv (jbE E c.1) ht;have hs2:=jg4 ht;exact⟨F2.mapL (λa b y hab hy=>by
         simp only[unD,DeclT.mk.injEq,and_true] at hab;exact⟨by rw[hy.name,hab.1],hy.le,by rw[hy.beg,jdX hab.2.2.2.2],hy.first⟩) u2 v1,v2,n1,by rw[n2,jmY E],n3,by rw[<-jo8 E];exact hs2,v3,by rw[v1.len];exact O.nv⟩
 ·intro h;cases h
end Go.Sy
end
noncomputable section
set_option maxRecDepth 100000
namespace Go.Sy
open Go.Ev Go.Proofs
variable {base:Bs}
theorem jrm:Go.Ev.isAgg Qaf 48=some false:=by kernel_rfl
theorem jrl:Go.Ev.sizeOf Qaf 48=some 1:=by kernel_rfl
theorem jsI {b o:Nat}{v:AV}{h:T AO}(ho:o<qC h b)(hv:rat h b o=v)(hc:eqs v=true):(qa Qaf 48 (.ptr b o) v h=true)=True:=eq_true (Qx jrm jrl ho hv hc)
theorem bNe (a b:Bool)(st:St)(K:AV->St->Prop):jm (Xy Qaf .neq 4 false (.bool a) (.bool b) st) K=K (.bool (decide (a≠b))) st:=by
 have h:Xy Qaf .neq 4 false (.bool a) (.bool b) st=.ok (.bool (decide (a≠b))) st:=by cases a<;>cases b<;>kernel_rfl
 rw[h];rfl
set_option maxHeartbeats 8000000 in
theorem jpQ (hb:NB base){M:ModT}(hv:M.vars.length<=1000)(hm:M.moves.length<=100000)(ho:M.moves.all (Xq M.vars.length)=true){L:Sl}{s:St}(n0:3<=s.nx)(C2:Cl s 2 (mdE M))(i5:Has L 5 (.ptr 2 0)):xC Qaf base jeA L s (QE Qaf [.t 4] λv _=>v=.bool true) λ_ _ _=>False:=by
 rw[(by unfold jeA;simp only[qq];rfl:jeA=_)]
 (have zz:=C2.r;(repeat'(first|(apply jc<;>intro _)|simp(disch:=first|exact qu|fail) only[ja i5,C2.q,C2.r,je,jo,jL,jn,jf,qi,qh,jr,jt,jv,jx,ju,rzZ,Qab,Qac,Qad,Qaa,Qae]));(all_goals(clear zz)))
 refine qy M.moves.length (λk L s=>Has L 5 (.ptr 2 0)/\Has L 104 (.lst M.moves.length (fl moE M.moves))/\3<=s.nx/\Cl s 2 (mdE M)) (by first|assumption|omega) (by decide) (by simp(disch:=decide) only[jd,jb]) (by simp(disch:=decide) only[jd,jb]) ?_ (λk L s v h=>by simp(disch:=decide) only[jb];exact h) (λk L s v h=>by simp(disch:=decide) only[jb];exact h) (λko Lo so hko hIo hio hno=>?_) (λLo so hIo=>?_)
 ·simp(disch:=decide) only[Qam,Qao,z0,z1,jd,jb,and_true,true_and,i5];exact⟨by(first|omega|(simp only[jg,jh,jk,jj,ji];first|done|omega)),by(first|exact C2|(simp(disch:=first|assumption|decide|(first|omega|(simp only[jg,jh,jk,jj,ji];first|done|omega))) only[jA,jB,jy,jN,jC,jG,jF,jH];exact C2))⟩
 ·clear i5 n0 C2;obtain⟨i5,iL,n0,C2⟩:=hIo;have mo:=Qax.1 ho _ (Qay hko);obtain⟨mv,hmv⟩:∃ mv,mv=M.moves[ko]:=⟨_,rfl⟩;rw[<-hmv] at mo;simp only[Xq,Qar,decide_eq_true_eq] at mo;obtain⟨⟨⟨m1,m2⟩,m3⟩,m4⟩:=mo;have D:=WO hb M.vars.length mv.when m2;rw[m1,qI] at D
  (have zz:=aI @yB C2.r;(repeat'(first|(apply jc<;>intro _)|simp(disch:=first|exact qu|fail) only[ja i5,ja iL,ja hio,ja hno,D,<-hmv,yB,C2.q,yB,C2.r,je,jo,jL,jn,jf,qi,qh,jr,jt,jv,jx,ju,rzZ,Qab,Qac,Qad,Qaa,Qae]));(all_goals(clear zz)))
  refine qy mv.acts.length (λk L s=>Has L 5 (.ptr 2 0)/\Has L 104 (.lst M.moves.length (fl moE M.moves))/\Has L 105 (.int .i64 (M.moves.length:Int))/\Has L 106 (.int .i64 (ko:Int))/\Has L 118 (.lst mv.acts.length (fl seE mv.acts))/\3<=s.nx/\Cl s 2 (mdE M)) (by first|assumption|omega) (by decide) (by simp(disch:=decide) only[jd,jb]) (by simp(disch:=decide) only[jd,jb]) ?_ (λk L s v h=>by simp(disch:=decide) only[jb];exact h) (λk L s v h=>by simp(disch:=decide) only[jb];exact h) (λk L s hk hI hi hn=>?_) (λL s hI=>?_)
  ·simp(disch:=decide) only[Qam,Qao,z0,z1,jd,jb,and_true,true_and,i5,iL,hio,hno];exact⟨by(first|omega|(simp only[jg,jh,jk,jj,ji];first|done|omega)),by(first|exact C2|(simp(disch:=first|assumption|decide|(first|omega|(simp only[jg,jh,jk,jj,ji];first|done|omega))) only[jA,jB,jy,jN,jC,jG,jF,jH];exact C2))⟩
  ·clear i5 iL n0 C2 hio hno;obtain⟨i5,iL,hno,hio,iA,n0,C2⟩:=hI;have so:=Qax.1 m4 _ (Qay hk);simp only[Ky,Qar,QaR,Qbq,decide_eq_false_iff_not] at so;obtain⟨⟨s1,s2⟩,s3,s4⟩:=so;have E:=WO hb M.vars.length mv.acts[k].to s4;rw[s3,qI] at E
   (have zz:=aI @yB C2.r;(repeat'(first|(apply jc<;>intro _)|simp(disch:=first|exact qu|fail) only[ja i5,ja iL,ja iA,ja hi,ja hn,E,s1,s2,yB,C2.q,yB,C2.r,je,jo,jL,jn,jf,qi,qh,jr,jt,jv,jx,ju,rzZ,Qab,Qac,Qad,Qaa,Qae]));(all_goals(clear zz)))
   refine⟨?_,?_⟩
   ·simp(disch:=decide) only[Qam,Qao,z0,z1,jd,jb,and_true,true_and,i5,iL,hno,hio,iA];exact⟨by(first|omega|(simp only[jg,jh,jk,jj,ji];first|done|omega)),by(first|exact C2|(simp(disch:=first|assumption|decide|(first|omega|(simp only[jg,jh,jk,jj,ji];first|done|omega))) only[jA,jB,jy,jN,jC,jG,jF,jH];exact C2))⟩
   ·simp(disch:=decide) only[Qam,Qao,z0,z1,jd,jb,and_true,true_and,hi,hn]
  ·clear i5 iL n0 C2 hio hno;obtain⟨i5,iL,hno,hio,iA,n0,C2⟩:=hI;repeat'(first|(apply jc<;>intro _)|simp(disch:=first|exact dzG|fail) only[je,jo,jL,jn,jf,qi,qh,jr,jt,jv,jx,ju,rzZ,Qab,Qac,Qad,Qaa,Qae])
   refine⟨?_,?_⟩
   ·simp(disch:=decide) only[Qam,Qao,z0,z1,jd,jb,and_true,true_and,i5,iL];exact⟨n0,C2⟩
   ·simp(disch:=decide) only[Qam,Qao,z0,z1,jd,jb,and_true,true_and,hio,hno]
 ·repeat'(first|(apply jc<;>intro _)|simp(disch:=first|exact dzG|fail) only[je,jo,jL,jn,jf,qi,qh,jr,jt,jv,jx,ju,rzZ,Qab,Qac,Qad,Qaa,Qae])
set_option maxHeartbeats 8000000 in
theorem jpR (hb:NB base){m:SrcT}{x:Ex}{M:ModT}{y:Ex}(KE:Keeps m x M y){L:Sl}{s:St}(n0:3<=s.nx)(C0:Cl s 0 (srE m))(C2:Cl s 2 (mdE M))(i2:Has L 2 (.ptr 0 0))(i5:Has L 5 (.ptr 2 0)):xC Qaf base jeB L s (QE Qaf [.t 4] λv _=>v=.bool true) λ_ _ _=>False:=by
 have hv:=KE.nv;have hm:=KE.len;have ho:=KE.moves;have hl:=KE.vars.len;rw[(by unfold jeB;simp only[qq];rfl:jeB=_)]
 (have zz:=C2.r;(repeat'(first|(apply jc<;>intro _)|simp(disch:=first|exact qu|fail) only[ja i5,C2.q,C2.r,je,jo,jL,jn,jf,qi,qh,jr,jt,jv,jx,ju,rzZ,Qab,Qac,Qad,Qaa,Qae]));(all_goals(clear zz)))
 refine qy M.vars.length (λk L s=>Has L 2 (.ptr 0 0)/\Has L 5 (.ptr 2 0)/\Has L 48 (.lst M.vars.length (fl vaE M.vars))/\3<=s.nx/\Cl s 0 (srE m)/\Cl s 2 (mdE M)) (by first|assumption|omega) (by decide) (by simp(disch:=decide) only[jd,jb]) (by simp(disch:=decide) only[jd,jb]) ?_ (λk L s v h=>by simp(disch:=decide) only[jb];exact h) (λk L s v h=>by simp(disch:=decide) only[jb];exact h) (λk L s hk hI hi hn=>?_) (λL s hI=>?_)
 ·simp(disch:=decide) only[Qam,Qao,z0,z1,jd,jb,and_true,true_and,i2,i5];exact⟨by(first|omega|(simp only[jg,jh,jk,jj,ji];first|done|omega)),by(first|exact C0|(simp(disch:=first|assumption|decide|(first|omega|(simp only[jg,jh,jk,jj,ji];first|done|omega))) only[jA,jB,jy,jN,jC,jG,jF,jH];exact C0)),by(first|exact C2|(simp(disch:=first|assumption|decide|(first|omega|(simp only[jg,jh,jk,jj,ji];first|done|omega))) only[jA,jB,jy,jN,jC,jG,jF,jH];exact C2))⟩
 ·clear i2 i5 n0 C0 C2;obtain⟨i2,i5,iL,n0,C0,C2⟩:=hI;have hk2:k<m.vars.length:=by omega
  have V:=KE.vars.nth k hk2 hk;obtain⟨w1,w2,w3,w4⟩:=V;have w2':¬ M.vars[k].hi<M.vars[k].lo:=by omega
  cases hbeg:M.vars[k].beg with
  |false=>
   rw[hbeg] at w3;have c1:((m.vars[k].begins.length:Int)=1)=False:=by
    have:=of_decide_eq_false w3.symm;rw[eq_iff_iff];constructor
    ·intro h;omega
    ·exact False.elim
   (have zz:=aI C0.r C2.r;(repeat'(first|(apply jc<;>intro _)|simp(disch:=first|exact qu|fail) only[ja i2,ja i5,ja iL,ja hi,ja hn,w1,w2',hbeg,c1,bNe,C0.q,C2.q,C0.r,C2.r,je,jo,jL,jn,jf,qi,qh,jr,jt,jv,jx,ju,rzZ,Qab,Qac,Qad,Qaa,Qae]));(all_goals(clear zz)))
   refine⟨?_,?_⟩
   ·simp(disch:=decide) only[Qam,Qao,z0,z1,jd,jb,and_true,true_and,i2,i5,iL];exact⟨by(first|omega|(simp only[jg,jh,jk,jj,ji];first|done|omega)),by(first|exact C0|(simp(disch:=first|assumption|decide|(first|omega|(simp only[jg,jh,jk,jj,ji];first|done|omega))) only[jA,jB,jy,jN,jC,jG,jF,jH];exact C0)),by(first|exact C2|(simp(disch:=first|assumption|decide|(first|omega|(simp only[jg,jh,jk,jj,ji];first|done|omega))) only[jA,jB,jy,jN,jC,jG,jF,jH];exact C2))⟩
   ·simp(disch:=decide) only[Qam,Qao,z0,z1,jd,jb,and_true,true_and,hi,hn]
  |true=>
   rw[hbeg] at w3;obtain⟨w5,w6⟩:=w4 hbeg;have c1:((m.vars[k].begins.length:Int)=1)=True:=by
    have:=of_decide_eq_true w3.symm;rw[eq_iff_iff];constructor
    ·intro h;trivial
    ·intro h;omega
   have w5':¬ M.vars[k].first<M.vars[k].lo:=by omega
   have w6':¬ M.vars[k].hi<M.vars[k].first:=by omega
   (have zz:=aI C0.r C2.r;(repeat'(first|(apply jc<;>intro _)|simp(disch:=first|exact qu|fail) only[ja i2,ja i5,ja iL,ja hi,ja hn,w1,w2',hbeg,c1,w5',w6',bNe,C0.q,C2.q,C0.r,C2.r,je,jo,jL,jn,jf,qi,qh,jr,jt,jv,jx,ju,rzZ,Qab,Qac,Qad,Qaa,Qae]));(all_goals(clear zz)))
   refine⟨?_,?_⟩
   ·simp(disch:=decide) only[Qam,Qao,z0,z1,jd,jb,and_true,true_and,i2,i5,iL];exact⟨by(first|omega|(simp only[jg,jh,jk,jj,ji];first|done|omega)),by(first|exact C0|(simp(disch:=first|assumption|decide|(first|omega|(simp only[jg,jh,jk,jj,ji];first|done|omega))) only[jA,jB,jy,jN,jC,jG,jF,jH];exact C0)),by(first|exact C2|(simp(disch:=first|assumption|decide|(first|omega|(simp only[jg,jh,jk,jj,ji];first|done|omega))) only[jA,jB,jy,jN,jC,jG,jF,jH];exact C2))⟩
   ·simp(disch:=decide) only[Qam,Qao,z0,z1,jd,jb,and_true,true_and,hi,hn]
 ·obtain⟨i2,i5,iL,n0,C0,C2⟩:=hI;repeat'(first|(apply jc<;>intro _)|simp(disch:=first|exact dzG|fail) only[je,jo,jL,jn,jf,qi,qh,jr,jt,jv,jx,ju,rzZ,Qab,Qac,Qad,Qaa,Qae])
  exact jpQ hb hv hm ho n0 C2 i5
set_option maxHeartbeats 8000000 in
theorem law5_ok (hb:NB base)(h21:∀ st,base.run 21 [] st=.ok (.bool true) st)(hP:PI base)(m:SrcT)(x:Ex)(hm:szS m<=1048576)(hx:szE x<=1048576):XB Qaf base 5 [.agg (srE m),.agg (eE x)] st0 (λv _=>v=.bool true) λ_ _=>False:=by
 have hB:(1048576:Nat)<=BIG:=by decide
 have E21:=λ(st:St) (K Kp:AV->St->Prop)=>hH (P:=Qaf) (base:=base) (h21 st) K Kp;have E22:=jpt hb hP m x hm hx;have KE:=jfd (m:=m) (x:=x);unfold jae at E22;generalize Qp m x=r at *;obtain⟨M,y,q⟩:=r;dsimp only at E22 KE;refine JO xL5 (by rfl) (hb.at0 5 (by decide) (by decide) _ _) ?_;simp only[yL5,jp,Qai,Qal,Qag,Qah];rw[(by unfold zL5;simp only[qq];rfl:zL5=_)];cases q with
 |false=>repeat'(first|(apply jc<;>intro _)|simp(disch:=first|exact dzG|fail) only[E21,E22,je2,je1,je0,je,jo,jL,jn,jf,qi,qh,jr,jt,jv,jx,ju,rzZ,Qab,Qac,Qad,Qaa,Qae])
 |true=>
  have KE:=KE rfl;have E23:=WO hb M.vars.length y KE.thin;rw[KE.numb] at E23;have E13:=ji9 hb x (by omega);have E13y:=ji9 hb y (by have:=KE.sz;omega);rw[KE.size] at E13y;have hl:=KE.vars.len;rw[hl] at E23;repeat'(first|(apply jc<;>intro _)|simp(disch:=first|exact dzG|fail) only[E21,E22,je2,je1,je0,je,jo,jL,jn,jf,qi,qh,jr,jt,jv,jx,ju,rzZ,Qab,Qac,Qad,Qaa,Qae])
  rw[(by unfold jji;simp only[qq];rfl:jji=_)];have nv:=KE.nv
  (have zz:=aI @YY (aI @Qb @hl);(repeat'(first|(apply jc<;>intro _)|simp(disch:=first|exact qu|fail) only[E13,E13y,E23,hl,jsI,jkj,Qw,YY,Qb,hl,je,jo,jL,jn,jf,qi,qh,jr,jt,jv,jx,ju,rzZ,Qab,Qac,Qad,Qaa,Qae]));(all_goals(clear zz)))
  exact jpR hb KE (by(first|omega|(simp only[jg,jh,jk,jj,ji];first|done|omega))) (by(first|exact cyG|fail)) (by(first|exact cyG|fail)) (by simp(disch:=decide) only[Qam,Qao,z0,z1,jd,jb,and_true,true_and]) (by simp(disch:=decide) only[Qam,Qao,z0,z1,jd,jb,and_true,true_and])
end Go.Sy
end
