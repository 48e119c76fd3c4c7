/-
  Contracts: the code lowered, what it does told by rules, and the contracts of the functions that the law reaches.
-/
import Derived.Test.YtndojkghlhllpaaGreatDoorSbSyE
import Derived.Shelf.LaysC
import Derived.Shelf.Strconv.ParseIntPublic10
import Derived.Test.YtndojkghlhllpaaGreatDoorProg
import Derived.Shelf.RegionOpenPlain
import Derived.WalkKit
import Derived.Deep.LoopGhost
import Derived.Lib.Walk
import Derived.Lib.SliceRun
import Derived.KernelRfl
import Derived.Shelf.LaysM
import Derived.Shelf.Strconv.AppendIntPublic10
import Derived.Lib.AppendIntMem
import Derived.Lib.ItoaLen
import Derived.Lib.Slices
import Derived.Lib.Hide
import Derived.Laws.IdiomStrings
import Derived.OwnWalk
import Derived.BigCall
import Derived.IntWalk
set_option linter.unusedVariables false
set_option linter.unusedSimpArgs false
open Go.Proofs.Tryz renaming prog → γ
open Nat renaming reduceAdd → δ, reduceSub → ε, reduceMul → ζ, reduceBEq → θ, le_refl → τ, le_trans → Qab, zero_le → Qae, zero_add → Qam, le_max_left → Qas, le_max_right → Qat, lt_or_ge → Qav, lt_of_lt_of_le → Qaw, mul_le_mul_right → Qax, not_lt_zero → Qay, mul_one → QaI, add_mul → QaL, sub_zero → QaN, le_of_eq → QaO, succ_mul → QaQ, zero_mul → QaU, succ_pos → QaY, ne_of_lt → Qbh, lt_irrefl → Qbj, min_eq_left → Qbr, add_assoc → Qbs, add_zero → Qbt, mod_eq_of_lt → Qbv, one_mul → Qbx, add_comm → Qby, lt_succ_self → Qbz, succ_lt_succ → QbD, le_of_lt → QbS, lt_trichotomy → Qcm, le_succ_of_le → Qcq, beq → Qcw, succ → Qcx, ble → Qcy, add → Qcz, mul → QcA, sub → QcB
open Int renaming reduceToNat → η, natCast_zero → χ, zero_add → ψ, ofNat → QaB, eq_ofNat_of_zero_le → QbA, natCast_nonneg → QbX, toNat_natCast → Qcj
open List renaming map_cons → κ, map_nil → μ, getD_cons_zero → ν, getD_cons_succ → ξ, length_append → υ, length_cons → φ, length_nil → ω, getElem_mem → Qac, getD → Qad, take_length → Qaf, getElem?_eq_getElem → Qag, length_map → Qah, range' → Qai, cons_append → Qaj, range → Qak, all_eq_true → Qal, nil_append → Qan, cons → Qao, length_take → Qap, getD_eq_getElem?_getD → Qaq, mem_append → Qau, length_drop → QaD, all_cons → QaF, append_assoc → QaG, mem_map → QaH, take_zero → QaJ, mem_singleton → QaK, mem_cons → QaS, append_nil → QaT, map_congr_left → QaW, all_append → QaZ, map_append → Qba, foldl_append → Qbb, eq_nil_of_length_eq_zero → Qbc, mem_iff_getElem → Qbd, flatMap_cons → Qbf, drop_zero → Qbg, map_map → Qbi, length_singleton → Qbk, range'_succ → Qbl, getElem?_eq_some_iff → Qbm, getElem?_append_left → Qbn, mem_range → Qbo, take_append_drop → Qbp, ext_getElem → Qbq, drop_drop → Qbu, getElem_cons_zero → QbB, length_pos_iff → QbE, getElem_append_left → QbF, drop_length → QbG, length_eq_zero_iff → QbH, getElem?_take → QbI, getElem?_drop → QbJ, any_cons → QbL, getElem?_map → QbM, foldl_cons → QbN, take_add_one → QbO, getElem_map → QbP, map_toArray → QbQ, getElem_cons_succ → QbT, getElem_cons_drop → QbU, mem_of_mem_take → QbV, take_take → QbW, foldr_cons → QbY, length_range → Qca, getElem?_append_right → Qcb, mem_append_left → Qcd, mem_cons_of_mem → Qce, drop_eq_getElem_cons → Qcf, take_of_length_le → Qcg, getElem_append_right → Qci, countP_singleton → Qco, take_succ_cons → Qcp, nodup_append → Qcr, dropLast_concat_getLast → Qcv
open Bool renaming and_eq_true → Qaa, or_eq_true → QaC, eq_iff_iff → QaE, false_eq_true → QaR, not_eq_true' → QaV, true_eq_false → QbC, or_eq_false_iff → QbZ, eq_false_iff → Qch
open Array renaming length_toList → Qar, getElem?_eq_some_iff → Qaz, replicate → QaM, toList_map → Qbw, getElem?_toList → QbR, getD_eq_getD_getElem? → Qcc, toList_append → Qcl, mem_toList_iff → Qcn, getElem?_eq_getElem → Qct, getElem?_setIfInBounds_ne → Qcu
open Option renaming map_some → QaA, getD_some → QaP, bind_some → QaX, map_none → Qbe, map_eq_some_iff → QbK, isSome_iff_exists → Qcs
open Function renaming comp_def → Qck
noncomputable section
set_option maxRecDepth 100000
namespace Go.Sy
open Go.Ev Go.Proofs
variable {base:Bs}
theorem jr9 (hb:NB base)(v:VarT):Tot base 43 [.agg (vaE v)] (.tup [.int .i64 (uY v).lo,.int .i64 (uY v).hi]):=by
 refine hb.tot ?_ (by simp[pa,pc,Yj]) rfl;cases hv:v.beg with
 |true=>
  rw[show uY v={ v with lo:=v.first,hi:=v.first } from if_pos hv];refine jG jqx (by rfl) (hb.pur 43 1 dc) ?_;simp only[jk3,jr,κ,μ,ν,ξ];rw[(by unfold jbG;simp only[qq];rfl:jbG=_)];repeat'(first|apply jb<;>intro _|simp(disch:=first|exact dzG|fail) only[hv,r11,δ,ε,ζ,η,θ])
  all_goals exact FzD.tup (.cons (.pc rfl) (.cons (.pc rfl) .nil))
 |false=>
  rw[show uY v=v from if_neg (by rw[hv];decide)];refine jG jqx (by rfl) (hb.pur 43 1 dc) ?_;simp only[jk3,jr,κ,μ,ν,ξ];rw[(by unfold jbG;simp only[qq];rfl:jbG=_)];repeat'(first|apply jb<;>intro _|simp(disch:=first|exact dzG|fail) only[hv,r11,δ,ε,ζ,η,θ])
  all_goals exact FzD.tup (.cons (.pc rfl) (.cons (.pc rfl) .nil))
def Ka (P:Program)(t:TypeId)(v h m:AV)(st:St):ER:=(JZ P t (O v) none (some (O h)) (some (O m))).run E0 st
theorem jtz {P:Program}{e:En}{st:St}{K:AV->St->Prop}(t:TypeId)(x h m:A):wK P base (.i (.sl3 t x none (some h) (some m))) e st K=on1 e x λv=>on1 e h λu=>on1 e m λw=>jh (Ka P t v u w st) K:=k_3 rfl (λ_=>rfl) K
theorem jm7:Go.Ev.sizeOf γ 2=some 1:=by kernel_rfl
theorem jlo {c n:Nat}{ex:Bool}(st:St)(K:AV->St->Prop):jh (Ka γ 30 (.slice c 0 n n 1 ex) (.int .i64 (n:Int)) (.int .i64 (n:Int)) st) K=K (.slice c 0 n n 1 true) st:=by
 have e1:Qcy 0 n=true:=qu (Qae _);have e2:Qcy n n=true:=qu (τ _);unfold Ka JZ;simp only[Tryz.underlying30,jm7,O,optF,qC,e1,e2,cond_true,jF,jh];rfl
theorem joo {l:SvT}(st:St)(K:AV->St->Prop):jh (Ka γ 30 (svV l) (.int .i64 (l.length:Int)) (.int .i64 (l.length:Int)) st) K=K (.xlst l.length (l.map (.int .i64))) st:=by
 have e1:Qcy 0 l.length=true:=qu (Qae _);have e2:Qcy l.length l.length=true:=qu (τ _);have e3:Qcw l.length l.length=true:=YB rfl;have e4:Qcy (QcA l.length 1) (jO (l.map (AV.int .i64)))=true:=qu (by rw[jL,Qah];exact QaO (QaI _));have e5:yh (zp (l.map (AV.int .i64)) (QcA 0 1)) (QcA (QcB l.length 0) 1)=l.map (AV.int .i64):=by
  rw[qK,yP,show QcA (QcB l.length 0) 1=(l.map (AV.int .i64)).length from by rw[Qah];exact QaI _];exact Qaf
 unfold Ka JZ svV;simp only[Tryz.underlying30,jm7,O,optF,qC,e1,e2,e3,e4,e5,cond_true,jF,jh];rfl
theorem In1.lenV {lo hi b0:Nat}{s:St}{x:AV}{l:SvT}{K:AV->St->Prop}(h:In1 s lo hi b0 x l)(st:St):jh (lenV x st) K=K (.int .i64 (l.length:Int)) st:=by
 rcases h with rfl|⟨c,ex,rfl,_⟩<;>rfl
def jnX (s:St)(x:AV)(l:SvT)(n:Int):Prop:=∃ y c ex s',(∀ (st:St) (K:AV->St->Prop),jh (Ka γ 30 x (.int .i64 (l.length:Int)) (.int .i64 (l.length:Int)) st) K=K y st)/\(∀ K:AV->St->Prop,jh (Jc 1 8 y (.slice s.nx 0 1 1 1 true) (Go.Sy.nw s [.int .i64 n])) K=K (.slice c 0 (l ++ [n]).length (l ++ [n]).length 1 ex) s')/\Cl s' c ((l ++ [n]).map (.int .i64))/\s.nx<=c/\c<s'.nx/\ApX s.nx s'.nx s s'
theorem In1.snoc {lo hi b0:Nat}{s:St}{x:AV}{l:SvT}{n:Int}(h:In1 s lo hi b0 x l)(hl:l.length<=1000000000000) :
  jnX s x l n:=by
 have C:=Cl.new s [AV.int .i64 n];have hr:rats (Go.Sy.nw s [.int .i64 n]).h s.nx 0 1=[.int .i64 n]:=by have:=C.ratsP 1 0 (by simp);simpa using this
 have hv:1<=qv (Go.Sy.nw s [.int .i64 n]).h s.nx:=by rw[C.len];exact τ 1
 have A:ApX s.nx (Go.Sy.nw (Go.Sy.nw s [.int .i64 n]) ((l ++ [n]).map (.int .i64))).nx s (Go.Sy.nw (Go.Sy.nw s [.int .i64 n]) ((l ++ [n]).map (.int .i64))):=⟨by rw[jg,jg];omega,rfl,λc hc h=>(q6 (by rw[jg];omega)).trans (q6 om)⟩;have fin:∀ y,(∀ (st:St) (K:AV->St->Prop),jh (Ka γ 30 x (.int .i64 (l.length:Int)) (.int .i64 (l.length:Int)) st) K=K y st)->(∀ K:AV->St->Prop,jh (Jc 1 8 y (.slice s.nx 0 1 1 1 true) (Go.Sy.nw s [.int .i64 n])) K=K (.slice (s.nx+1) 0 (l.length+1) (l.length+1) 1 false) (Go.Sy.nw (Go.Sy.nw s [.int .i64 n]) (l.map (.int .i64) ++ [.int .i64 n])))->jnX s x l n:=λy h1 h2=>⟨y,s.nx+1,false,_,h1,by rw[υ,Qba];exact h2,Cl.new (Go.Sy.nw s [.int .i64 n]) _,om,Qbz _,A⟩;rcases h with rfl|⟨c,ex,rfl,D,_,_,_⟩
 ·refine fin _ joo λK=>?_;obtain⟨m,zl,zz,ks,hg⟩:=C.row;have h4:=C.len;rw[yG hg] at h4;have h4:m=1:=h4;have e1:Qcy (Qcz 0 (QcA 1 1)) m=true:=qu (by rw[h4];decide);have er:jP zl zz ks (QcA 1 1) 0=[.int .i64 n]:=by
   have h:=C.rats0 (k:=1) rfl;rw[JW] at h;rw[qi,<-h];exact QaW λi _=>by rw[JG hg]
  have e3:Qcw (jO [AV.int .i64 n]) (QcA 1 1)=true:=rfl;have e4:Qcw 1 0=false:=rfl;have f4:Qcy (QcA (Qcz l.length 1) 8) 140737488355328=true:=qu (by show(l.length+1) * 8<=_;omega);have f5:Qcy (Qcz l.length 1) 9223372036854775807=true:=qu (by show l.length+1<=_;omega);have f6:Qcy (QcA l.length 1) (jO (l.map (AV.int .i64)))=true:=qu (by rw[jL,Qah];exact QaO (QaI _));have f7:yh (l.map (AV.int .i64)) (QcA l.length 1)=l.map (AV.int .i64):=by rw[qK,show QcA l.length 1=(l.map (AV.int .i64)).length from by rw[Qah];exact QaI _,Qaf]
  have e9:yQ (l.map (AV.int .i64)) [AV.int .i64 n]=l.map (AV.int .i64) ++ [AV.int .i64 n]:=by rw[yw]
  have e10:QcA (Qcz l.length 1) 1=(l.map (AV.int .i64) ++ [AV.int .i64 n]).length:=by rw[υ,Qah];exact QaI _
  simp only[Jc,zA,firstCells,hg,yl,jF,e1,cond_true,er,qY,e3,e4,f4,f5,f6,f7,cond_false,e9,e10,St.alloc_eq,jh];rfl
 ·exact fin _ jlo λK=>jjU (D.nw _) (by simp) dc om om hv hr
theorem ApL.trx {p lo hi:Nat}{s t u:St}(a:ApL p s t)(b:ApX lo hi t u)(h:p<=lo):ApL p s u:=⟨Qab a.nx b.nx,b.fr.trans a.fr,λc hc hl=>(b.hp c (.inl om) (Qaw hl a.nx)).trans (a.hp c hc hl)⟩
theorem LL.cls {lo hi:Nat}{s s':St}{v:AV}{ls:List SvT}(h:LL lo hi s v ls)(c:∀ b cs,Cl s b cs->Cl s' b cs):LL lo hi s' v ls:=by
 rcases h with ⟨e,rfl|⟨b,rfl,C,h1,h2⟩⟩|⟨b,cs,ex,rfl,hn,C,h1,h2,I⟩
 ·exact .inl ⟨e,.inl rfl⟩
 ·exact .inl ⟨e,.inr ⟨b,rfl,c _ _ C,h1,h2⟩⟩
 ·exact .inr ⟨b,cs,ex,rfl,hn,c _ _ C,h1,h2,I.mono λx l k=>by
   rcases k with rfl|⟨d,ex,rfl,E,k⟩
   ·exact .inl rfl
   ·exact .inr ⟨d,ex,rfl,c _ _ E,k⟩⟩
theorem LL.bk {lo hi:Nat}{s:St}{v:AV}{ls:List SvT}(h:LL lo hi s v ls)(st:St):LL lo hi (Go.Sy.bk st s) v ls:=h.cls λb cs C=>⟨C.lt,C.row,C.len,C.cell⟩
theorem Mq.cl {s:St}{q c:Nat}{l:List SvT}{cs:List AV}(h:Mq s q l)(C:Cl s c cs)(es:List (AV×AV)):Cl (mp s q es) c cs:=C.keep (τ _) (by
 rw[Wq,if_neg (λe=>by
  obtain⟨_,_,_,_,hr⟩:=C.row;rw[e,h.2] at hr;cases hr)])
theorem ApX.nm (s:St):ApX s.nx (s.nx+1) s (nmp s):=⟨by rw[jnj];omega,rfl,λc hc h=>by rw[gX,if_neg om]⟩
theorem In1.v1 {lo hi b0:Nat}{s:St}{x:AV}{l:SvT}(h:In1 s lo hi b0 x l):V1 hi s x l:=h.imp id λ⟨c,ex,e,C,_,h,_⟩=>⟨c,ex,e,C,h⟩
structure KeyP (base:Bs):Prop where
 key:∀ (v:AV) (sv:SvT) (st:St),lend st.h v=some (svV sv)->sv.length<=1000000->(∀ x∈sv,-100000000<=x/\x<=100000000)->base.run 44 [v] st=.ok (.str (zU sv)) st
theorem KeyP.xb (h:KeyP base){p:Nat}{v:AV}{sv:SvT}{st:St}(h1:V1 p st v sv)(h3:sv.length<=1000000)(h2:∀ x∈sv,-100000000<=x/\x<=100000000)(K Kp:AV->St->Prop):XB γ base 44 [v] st K Kp=K (.str (zU sv)) st:=by
 have E:=Wa (P:=γ) (base:=base) (h.key v sv st h1.lend h3 h2) K Kp;rw[uO] at E;exact E
theorem vF {m:ModT}(V:∀ v∈m.vars,-100000000<=v.lo/\v.lo<=100000000/\-100000000<=v.hi/\v.hi<=100000000){x:SvT}(h:qy m.vars x=true):x.length=m.vars.length/\∀ y∈x,-100000000<=y/\y<=100000000:=by
 obtain⟨h1,h2⟩:=qW.1 h;refine⟨h1,λy hy=>?_⟩;obtain⟨i,hi,rfl⟩:=Qbd.1 hy;have:=h2 i om hi;have:=V _ (Qac (show i<m.vars.length by omega));omega
set_option maxHeartbeats 16000000 in
theorem jfu (hb:NB base)(m:ModT)(V:∀ v∈m.vars,-100000000<=v.lo/\v.lo<=100000000/\-100000000<=v.hi/\v.hi<=100000000)(hm:m.vars.length<=1000000)(S:SB m.vars)(hF:QV m.vars)(hc:QP m.vars<=300){st:St}{K Kp:AV->St->Prop}(hK:∀ v s',LL st.nx s'.nx s' v (yJ m.vars)->ApL st.nx st s'->K (.tup [v,.bool true]) s'):XB γ base 21 [.agg (mdE m),.int .i64 300] st K Kp:=by
 have hbn:st.bare.nx=st.nx:=rfl;obtain⟨W,hW⟩:∃ W,W=m.vars.map uY:=⟨_,rfl⟩;have hWl:m.vars.length=W.length:=by rw[hW,Qah]
 have hfw:yJ m.vars=QT W:=by rw[hW];rfl
 have VW:∀ k (h1:k<m.vars.length) (h2:k<W.length),W[k]=uY m.vars[k]/\VB W[k]/\-100000000<=W[k].lo/\W[k].hi<=100000000:=λk h1 h2=>by
  subst hW;rw[QbP];have a:=S.vb _ (Qac h1);have b:=V _ (Qac h1);have c:=hF _ (Qac h1);refine⟨rfl,?_⟩;unfold VB uY at *;split
  ·rename_i hg;have:=c hg;dsimp only;omega
  ·omega
 have VB2:∀ v∈W,VB v:=λv hv=>by
  obtain⟨k,hk,rfl⟩:=Qbd.1 hv;exact(VW k om hk).2.1
 have hcW:QP W<=300:=by rw[<-kJ,<-hfw];exact Qab (VO _ (jdJ _) λx hx=>uV hF hx) hc
 have hfl:(yJ m.vars).length<=300:=by rw[hfw,kJ];exact hcW
 have E43:=λv=>jr9 hb v;have A0:ApL st.nx st.bare (nw (nw (nw st.bare (mdE m)) []) [.slice (st.nx+1) 0 0 0 1 true]):=(((ApL.refl st.nx st.bare).nw2 _).nw2 _).nw2 _;have C1:Cl (nw (nw (nw st.bare (mdE m)) []) [.slice (st.nx+1) 0 0 0 1 true]) (st.nx+1) []:=(Cl.new (nw st.bare (mdE m)) []).nw _;have C2:Cl (nw (nw (nw st.bare (mdE m)) []) [.slice (st.nx+1) 0 0 0 1 true]) (st.nx+2) [.slice (st.nx+1) 0 0 0 1 true]:=Cl.new (nw (nw st.bare (mdE m)) []) _;have L0:LL (st.nx+1) (st.nx+3) (nw (nw (nw st.bare (mdE m)) []) [.slice (st.nx+1) 0 0 0 1 true]) (.slice (st.nx+2) 0 1 1 1 true) [[]]:=.inr ⟨st.nx+2,_,true,rfl,by simp,C2,om,om,⟨.inr ⟨st.nx+1,true,rfl,C1,om,om,om⟩,trivial⟩⟩;have n0:(nw (nw (nw st.bare (mdE m)) []) [.slice (st.nx+1) 0 0 0 1 true]).nx=st.nx+3:=rfl;have fin:∀ {s:St} {v:AV} {h:Nat},LL (st.nx+1) h s v (QT W)->h<=s.nx->ApL st.nx st.bare s->K (.tup [v,.bool true]) (bk st s):=λ{s v h} L hh a=>hK _ _ (by rw[hfw];exact(((L.down (Nat.le_succ _)).up hh).bk st)) ⟨a.nx,rfl,a.hp⟩;refine zH jt8 (by rfl) (hb.at0 21 dc dc _ _) ?_;simp only[jpJ,jr,κ,μ,ν,ξ];rw[(by unfold jkh;simp only[qq];rfl:jkh=_)];generalize hp:st.nx=p at *;repeat'(first|apply jb<;>intro _|simp(disch:=first|exact dzG|fail) only[hbn,r11,δ,ε,ζ,η,θ])
 refine jX m.vars.length (λk L s=>(∃ hi v,LL (p+1) hi s v (QT (W.take k))/\hi<=s.nx/\Has L 6 v)/\p+1<=s.nx/\ApL p st.bare s/\Has L 18 (.lst m.vars.length (fl vaE m.vars))/\Has L 1 (.int .i64 300)) ?_ (λk L s hk hI hi hn=>?_) (λL s hI=>?_)
 ·refine⟨⟨p+3,_,L0,om,?_⟩,om,A0,?_,?_⟩<;>exact hsX
 ·obtain⟨⟨h,v,LS,hn1,i6⟩,n1,AS,i18,i1⟩:=hI;obtain⟨hva,hvb,hl1,hl2⟩:=VW k hk om;have hcnt:=Qab (jmd VB2 (k+1)) hcW;rw[<-kJ,jjP om,Vh] at hcnt;have hel:=λx (hx:x∈QT (W.take k))=>jsF hx;rw[jjP om];generalize hls:QT (W.take k)=ls at *;generalize hvk:m.vars[k]=vk at *;have E43:=E43 vk;rw[<-hva] at E43;generalize W[k]=va at *;have hel:∀ x∈ls,x.length<=1000000:=λx hx=>by have:=hel x hx;rw[Qap] at this;omega
  have eL:=λ(st:St) (K:AV->St->Prop)=>LS.lenV (K:=K) st;obtain⟨u,hu⟩:∃ u,u=Go.Sy.wr (Go.Sy.nw s [AV.str [],AV.int IntKind.i64 0,AV.str [],AV.int IntKind.i64 0,AV.int IntKind.i64 0,AV.bool false,AV.int IntKind.i64 0]) s.nx 0 (vaE vk):=⟨_,rfl⟩;have un:u.nx=s.nx+1:=by rw[hu];rfl
  have LU:LL (p+1) h u v ls:=by rw[hu];exact(LS.keep (ApX.nw s _) (.inl hn1)).keep (ApX.wr _ _ _ _) (.inl hn1)
  have AU:ApL p st.bare u:=by rw[hu];exact(AS.nw2 _).wr2 om _ _
  have LN:LL (s.nx+1) (s.nx+1) u .nils []:=.inl ⟨rfl,.inl rfl⟩;repeat'(first|apply jb<;>intro _|simp(disch:=first|exact dzG|fail) only[ja i6,ja i1,ja i18,ja hi,ja hn,hvk,eL,E43,r11,δ,ε,ζ,η,θ])
  rw[<-hu];have hr0:0<(va.hi - va.lo+1).toNat:=by have:=hvb.1;omega
  have hl3:ls.length<=300:=by
   have:=Nat.le_mul_of_pos_right ls.length hr0;omega
  refine jX ls.length (λk2 L s2=>(∃ h2 v2,LL (s.nx+1) h2 s2 v2 ((ls.take k2).flatMap (Je va))/\h2<=s2.nx/\Has L 9 v2)/\LL (p+1) h s2 v ls/\s.nx+1<=s2.nx/\ApL p st.bare s2/\Has L 10 (.int .i64 va.lo)/\Has L 11 (.int .i64 va.hi)/\Has L 18 (.lst m.vars.length (fl vaE m.vars))/\Has L 20 (.int .i64 (k:Int))/\Has L 19 (.int .i64 (m.vars.length:Int))/\Has L 29 v/\Has L 1 (.int .i64 300)) ?_ (λky Ly sy hky hIy hiy hny=>?_) (λLy sy hIy=>?_)
  ·refine⟨⟨s.nx+1,_,LN,om,?_⟩,LU,om,AU,?_,?_,?_,?_,?_,?_,?_⟩;all_goals exact hsX
  ·obtain⟨⟨h2,v2,LY2,hn2,j9⟩,LY,m2,AY,j10,j11,j18,j20,j19,j29,j1⟩:=hIy;obtain⟨b,cs,ex,rfl,hne,CB,hb1,hb2,IN⟩:∃ b cs ex,v=.slice b 0 ls.length ls.length 1 ex/\ls≠[]/\Cl sy b cs/\p+1<=b/\b<h/\InL sy (p+1) h b cs ls:=by
    rcases LY with ⟨e,_⟩|q
    ·rw[e] at hky;exact absurd hky (Qay _)
    ·exact q
   have gx:rat sy.h b ky=cs.getD ky .bad:=CB.cell ky (by rw[IN.len];exact hky);have X:=IN.get hky;have hlen:qv sy.h b=ls.length:=by rw[CB.len,IN.len]
   have hlx:=hel _ (Qac hky);have hS:=jrT (v:=va) hky;generalize cs.getD ky .bad=x at gx X;generalize hly:ls[ky]=ly at *;have fin0:(Qak (va.lo - va.lo).toNat).map (λ(i:Nat)=>ly ++ [va.lo+(i:Int)])=[]:=by rw[Int.sub_self];rfl
   have hbound:∀ n:Int,va.lo<=n->n<=va.hi->((ls.take ky).flatMap (Je va) ++ (Qak (n - va.lo).toNat).map λ(i:Nat)=>ly ++ [va.lo+(i:Int)]).length<300:=λn h1 hn=>by
    rw[υ,Vh,Qah,Qca,Qap,Qbr om];have:=Qax (va.hi - va.lo+1).toNat (show ky+1<=ls.length by omega);rw[QaQ] at this;omega
   repeat'(first|apply jb<;>intro _|simp(disch:=first|exact dzG|fail) only[ja j9,ja j10,ja j11,ja j18,ja j20,ja j19,ja j29,ja j1,ja hiy,ja hny,gx,r11,δ,ε,ζ,η,θ])
   refine zb (λmm L s3=>∃ (n:Int),va.lo<=n/\n<=va.hi+1/\(mm:Int)=va.hi+1 - n/\(∃ h3 v3,LL (s.nx+1) h3 s3 v3 ((ls.take ky).flatMap (Je va) ++ (Qak (n - va.lo).toNat).map λ(i:Nat)=>ly ++ [va.lo+(i:Int)])/\h3<=s3.nx/\Has L 9 v3)/\LL (p+1) h s3 (.slice b 0 ls.length ls.length 1 ex) ls/\In1 s3 (p+1) h b x ly/\s.nx+1<=s3.nx/\ApL p st.bare s3/\Has L 10 (.int .i64 va.lo)/\Has L 11 (.int .i64 va.hi)/\Has L 18 (.lst m.vars.length (fl vaE m.vars))/\Has L 20 (.int .i64 (k:Int))/\Has L 19 (.int .i64 (m.vars.length:Int))/\Has L 29 (.slice b 0 ls.length ls.length 1 ex)/\Has L 1 (.int .i64 300)/\Has L 31 (.int .i64 (ky:Int))/\Has L 30 (.int .i64 (ls.length:Int))/\Has L 13 x/\Has L 14 (.int .i64 n)) ?_ (va.hi+1 - va.lo).toNat ?_
   ·rintro mm L s3 ⟨n,q1,q2,q3,⟨h3,v3,LZ,hn3,z9⟩,LO,XZ,m3,AZ,z10,z11,z18,z20,z19,z29,z1,z31,z30,z13,z14⟩;unfold KB;by_cases hle:n<=va.hi
    ·have hbn:=hbound n q1 hle;obtain⟨y,c,ex2,s4,e1,e2,C4,hc1,hc2,A4⟩:=XZ.snoc (n:=n) om;have eX:=λ(st:St) (K:AV->St->Prop)=>XZ.lenV (K:=K) st;have eZ:=λ(st:St) (K:AV->St->Prop)=>LZ.lenV (K:=K) st;have n4:=A4.nx;have fr:∀ {lo hi v' ls'},LL lo hi s3 v' ls'->hi<=s3.nx->LL lo hi (Go.Sy.nw s4 [.slice c 0 (ly ++ [n]).length (ly ++ [n]).length 1 ex2]) v' ls':=λk hh=>(k.keep A4 (.inl om)).keep (ApX.nw s4 _) (.inl om);obtain⟨v6,s6,e6,L6,A6⟩:=(fr LZ hn3).app (bytes:=24) (xc:=1) (xx:=true) (Cl.new s4 _) (.inr ⟨c,ex2,rfl,C4.nw _,om,om⟩) (by rw[jg];omega) (by rw[jg];omega) om om;have eW:wq (n+1)=n+1:=jfP _ om om;have n6:=A6.nx;rw[jg] at n6;have hR:(Qak (n+1 - va.lo).toNat).map (λ(i:Nat)=>ly ++ [va.lo+(i:Int)])=(Qak (n - va.lo).toNat).map (λ(i:Nat)=>ly ++ [va.lo+(i:Int)]) ++ [ly ++ [n]]:=by
      rw[show(n+1 - va.lo).toNat=(n - va.lo).toNat+1 by omega,List.range_succ,Qba,κ,μ];rw[show va.lo+((n - va.lo).toNat:Int)=n by omega]
     rw[QaG,<-hR] at L6;have hge:¬ (300:Int)<=(((ls.take ky).flatMap (Je va) ++ (Qak (n - va.lo).toNat).map λ(i:Nat)=>ly ++ [va.lo+(i:Int)]).length:Int):=om
     have A6':ApL p st.bare s6:=((AZ.trx A4 om).nw2 _).trx A6 om;repeat'(first|apply jb<;>intro _|simp(disch:=first|exact dzG|fail) only[ja z9,ja z10,ja z11,ja z13,ja z14,ja z1,jtz,eX,eZ,e1,e2,e6,hle,hge,jaM,eW,r11,δ,ε,ζ,η,θ])
     refine⟨mm - 1,om,n+1,om,om,om,⟨s6.nx,v6,L6,τ _,?_⟩,(fr LO om).keep A6 (.inl om),?_,om,A6',?_,?_,?_,?_,?_,?_,?_,?_,?_,?_,?_⟩
     ·simp(disch:=decide) only[ji,ju]
     ·exact((XZ.keep A4 (.inl om)).keep (ApX.nw s4 _) (.inl om)).keep A6 (.inl om)
     all_goals exact hsX
    ·have hnh:n=va.hi+1:=om
     subst hnh;have hst:Je va ly=(Qak (va.hi+1 - va.lo).toNat).map (λ(i:Nat)=>ly ++ [va.lo+(i:Int)]):=by
      unfold Je;rw[show va.hi - va.lo+1=va.hi+1 - va.lo by omega]
     rw[<-hst,<-hS] at LZ;repeat'(first|apply jb<;>intro _|simp(disch:=first|exact dzG|fail) only[ja z9,ja z10,ja z11,ja z13,ja z14,hle,r11,δ,ε,ζ,η,θ])
     refine⟨⟨⟨h3,v3,LZ,hn3,?_⟩,LO,m3,AZ,?_,?_,?_,?_,?_,?_,?_⟩,?_,?_⟩;all_goals exact hsX
   ·refine⟨va.lo,Int.le_refl _,by have:=hvb.1;omega,by have:=hvb.1;omega,⟨h2,v2,by rw[fin0,QaT];exact LY2,hn2,?_⟩,LY,X,m2,AY,?_,?_,?_,?_,?_,?_,?_,?_,?_,?_,?_⟩;all_goals exact hsX
  ·obtain⟨⟨h2,v2,LY2,hn2,j9⟩,LY,m2,AY,j10,j11,j18,j20,j19,j29,j1⟩:=hIy;rw[Qaf] at LY2;repeat'(first|apply jb<;>intro _|simp(disch:=first|exact dzG|fail) only[ja j9,r11,δ,ε,ζ,η,θ])
   refine⟨⟨⟨h2,v2,LY2.down om,hn2,?_⟩,om,AY,?_,?_⟩,?_,?_⟩;all_goals exact hsX
 ·obtain⟨⟨h,v,LS,hn1,i6⟩,n1,AS,i18,i1⟩:=hI;rw[hWl,Qaf] at LS;have eL:=λ(st:St) (K:AV->St->Prop)=>LS.lenV (K:=K) st;have hgt:¬ (300:Int)<((QT W).length:Int):=by rw[<-hfw];omega
  repeat'(first|apply jb<;>intro _|simp(disch:=first|exact dzG|fail) only[ja i6,ja i1,eL,hgt,r11,δ,ε,ζ,η,θ])
  exact fin LS hn1 AS
end Go.Sy
end
noncomputable section
set_option maxRecDepth 100000
namespace Go.Sy
open Go.Ev Go.Proofs
variable {base:Bs}
theorem LL.row {lo hi:Nat}{s:St}{v:AV}{ls:List SvT}(h:LL lo hi s v ls){k:Nat}(hk:k<ls.length):∃ (b:Nat) (cs:List AV) (ex:Bool),v=.slice b 0 ls.length ls.length 1 ex/\qv s.h b=ls.length/\rat s.h b k=cs.getD k .bad/\In1 s lo hi b (cs.getD k .bad) ls[k]:=by
 rcases h with ⟨e,_⟩|⟨b,cs,ex,rfl,hn,C,h1,h2,I⟩
 ·rw[e] at hk;exact absurd hk (Qay _)
 ·exact⟨b,cs,ex,rfl,by rw[C.len,I.len],C.cell k (by rw[I.len];exact hk),I.get hk⟩
set_option maxHeartbeats 16000000 in
theorem jpl (hb:NB base)(hC:CloneP base)(hkp:KeyP base)(m:ModT)(B:ModB m)(V:∀ v∈m.vars,-100000000<=v.lo/\v.lo<=100000000/\-100000000<=v.hi/\v.hi<=100000000)(S:SB m.vars)(hF:QV m.vars)(hc:QP m.vars<=300){o:List SvT}(ho:gf m 300=some o):Tot base 23 [.agg (mdE m),.int .i64 300] (.tup [.lst o.length (fl svE o),.bool true]):=by
 have hm:=B.vars;have C0:Cl (nw st0 (mdE m)) 0 (mdE m):=Cl.new st0 (mdE m);have f1:(nw st0 (mdE m)).nx=1:=rfl;have hnd:(yJ m.vars).Nodup:=jdJ _;have hgd:∀ x∈yJ m.vars,qy m.vars x=true:=λx hx=>uV hF hx;have hfl:(yJ m.vars).length<=300:=Qab (VO _ hnd hgd) hc;have ho:Z2 (yg m) 300 301 0 (yJ m.vars)=some o:=by unfold gf at ho;rwa [if_pos om] at ho
 refine hb.tot ?_ (by simp[pa,pc,J2]) rfl;refine jG jt7 (by rfl) (hb.pur 23 1 dc) ?_;simp only[jpI,jr,κ,μ,ν,ξ];rw[(by unfold jkg;simp only[qq];rfl:jkg=_)];repeat'(first|apply jb<;>intro _|simp(disch:=first|exact dzG|fail) only[r11,δ,ε,ζ,η,θ])
 refine jfu hb m V hm S hF hc λv s1 LF AF=>?_;have n1:=AF.nx;rw[f1] at n1 AF LF;have C1:Cl s1 0 (mdE m):=AF.cl 0 _ om C0;clear C0 f1 AF;generalize yJ m.vars=F at *;obtain⟨s2,hs2⟩:∃ s2,s2=nmp s1:=⟨_,rfl⟩;have n2:s2.nx=s1.nx+1:=by rw[hs2];rfl
 have M2:Mq s2 s1.nx []:=hs2▸Mq.new s1;have L2:LL 1 s1.nx s2 v F:=by rw[hs2];exact LF.keep (ApX.nm s1) (.inl (τ _))
 have C2:Cl s2 0 (mdE m):=by rw[hs2];exact(ApX.nm s1).cl 0 _ (.inl om) C1
 have eL:=λ(st:St) (K:AV->St->Prop)=>LF.lenV (K:=K) st;repeat'(first|apply jb<;>intro _|simp(disch:=first|exact dzG|fail) only[jnv,jmM,eL,r11,δ,ε,ζ,η,θ])
 rw[<-hs2];clear hs2 LF C1;generalize s1.nx=q at *;refine jX F.length (λk L s=>LL 1 q s v F/\Mq s q (F.take k)/\Cl s 0 (mdE m)/\q+1<=s.nx/\Has L 24 v/\Has L 6 v/\Has L 8 (.map q)/\Has L 2 (.ptr 0 0)/\Has L 1 (.int .i64 300)) ?_ (λk L s hk hI hi hn=>?_) (λL s hI=>?_)
 ·refine⟨L2,M2,C2,om,?_,?_,?_,?_,?_⟩<;>exact hsX
 ·obtain⟨LS,MS,CS,n3,i24,i6,i8,i2,i1⟩:=hI;obtain⟨b,cs,ex,rfl,hlen,gx,X⟩:=LS.row hk;have hbd:=vF V (hgd _ (Qac hk));have hS:=yz hk;have hnm:F[k]∉F.take k:=by
   have:=hnd.sublist (List.take_sublist (k+1) F);rw[hS,Qcr] at this;exact λh=>this.2.2 _ h _ (by simp) rfl
  generalize cs.getD k .bad=x at gx X;generalize F[k]=t at *;have e44:=hkp.xb X.v1 (by rw[hbd.1];exact hm) hbd.2;have eW:wq ((k:Int)+1)=(k:Int)+1:=jfP _ om om;have eU:=λ(K:AV->St->Prop)=>jni (K:=K) (n:=(k:Int)+1) MS hnm (by rw[Qap,Qbr om];omega);repeat'(first|apply jb<;>intro _|simp(disch:=first|exact dzG|fail) only[ja i24,ja i6,ja i8,ja i2,ja i1,ja hi,ja hn,gx,hlen,e44,jaM,eW,jbl,eU,r11,δ,ε,ζ,η,θ])
  rw[hS];refine⟨⟨LS.cls λ_ _ C=>MS.cl C _,MS.put _,MS.cl CS _,n3,?_,?_,?_,?_,?_⟩,?_,?_⟩<;>exact hsX
 ·obtain⟨L3,M3,C3,n3,i24,i6,i8,i2,i1⟩:=hI;rw[Qaf] at M3;repeat'(first|apply jb<;>intro _|simp(disch:=first|exact dzG|fail) only[ja i6,ja i8,ja i2,ja i1,r11,δ,ε,ζ,η,θ])
  refine zb (λmm L s=>∃ (i:Nat) (out:List SvT) (h:Nat) (w:AV),mm+i=301/\i<=out.length/\out.length<=300/\Z2 (yg m) 300 mm i out=some o/\(∀ x∈out,qy m.vars x=true)/\LL 1 h s w out/\h<=s.nx/\1<=s.nx/\Mq s q out/\Cl s 0 (mdE m)/\Has L 6 w/\Has L 8 (.map q)/\Has L 2 (.ptr 0 0)/\Has L 1 (.int .i64 300)/\Has L 11 (.int .i64 (i:Int))) ?_ 301 ?_
  ·rintro mm L s ⟨i,out,h,w,q1,q2,q3,q4,q5,LW,hh,n5,MW,CW,z6,z8,z2,z1,z11⟩;unfold KB;obtain⟨n,rfl⟩:∃ n,mm=n+1:=⟨mm - 1,om⟩;have eL:=λ(st:St) (K:AV->St->Prop)=>LW.lenV (K:=K) st;by_cases hlt:i<out.length
   ·obtain⟨b,cs,ex,rfl,hlen,gx,X⟩:=LW.row hlt;rw[Z2,Qag hlt] at q4;dsimp only at q4;have hr:=q5 _ (Qac hlt);have hnx:∀ t∈yg m out[i],qy m.vars t=true:=λt ht=>gv hr ht;generalize cs.getD i .bad=x at gx X;generalize out[i]=si at *;cases ha:u6 300 (yg m si) out with
    |none=>rw[ha] at q4;cases q4
    |some o1=>
     rw[ha] at q4;dsimp only at q4
     (have zz:=@CW.r;(repeat'(first|apply jb<;>intro _|simp(disch:=first|exact jZ|fail) only[ja z6,ja z8,ja z2,ja z1,ja z11,gx,hlen,hlt,eL,CW.q,CW.r,r11,δ,ε,ζ,η,θ]));all_goals clear zz)
     refine jdS hb hC m B si (by rw[(vF V hr).1];omega) (X.v1.up hh) λs2 a=>?_;have n6:=a.nx;have LN:=LW.keep (ApX.of a) (.inl hh);have MN:=MW.keep a.nx (a.hp q MW.1 MW.1);have CN:=a.cl 0 _ om CW;have hin:i<out.length:=hlt;clear X gx hlen eL;have hts:(yg m si).length<=1000001:=Qab V7 (by have:=B.moves;omega);generalize yg m si=ts at *;repeat'(first|apply jb<;>intro _|simp(disch:=first|exact dzG|fail) only[ja z6,ja z8,ja z2,ja z1,ja z11,r11,δ,ε,ζ,η,θ])
     refine jX ts.length (λk2 L s=>(∃ out2 h2 w2,u6 300 (ts.drop k2) out2=some o1/\i<out2.length/\out2.length<=300/\(∀ x∈out2,qy m.vars x=true)/\LL 1 h2 s w2 out2/\h2<=s.nx/\Mq s q out2/\Has L 6 w2)/\1<=s.nx/\Cl s 0 (mdE m)/\Has L 48 (.lst ts.length (fl svE ts))/\Has L 8 (.map q)/\Has L 2 (.ptr 0 0)/\Has L 1 (.int .i64 300)/\Has L 11 (.int .i64 (i:Int))) ?_ (λky Ly sy hky hIy hiy hny=>?_) (λLy sy hIy=>?_)
     ·refine⟨⟨out,h,_,ha,hin,q3,q5,LN,om,MN,?_⟩,om,CN,?_,?_,?_,?_,?_⟩;all_goals exact hsX
     ·obtain⟨⟨out2,h2,w2,a1,a2,a3,a4,LY,hh2,MY,j6⟩,n7,CY,j48,j8,j2,j1,j11⟩:=hIy;have hrt:=hnx _ (Qac hky);rw[Qcf hky,u6] at a1;have eT:=λ(st:St) (K:AV->St->Prop)=>UK (st:=st) (K:=K) hky;generalize ts[ky]=t at *;have e44:=hkp.xb (st:=sy) (p:=0) (.inl rfl:V1 0 sy (svV t) t) (by rw[(vF V hrt).1];exact hm) (vF V hrt).2;have tp:(svV t).plain=true:=rfl;have tcl:(svV t).cells.length=1:=rfl;have tc:(svV t).cells=[svV t]:=rfl;have tl:lall AV.cell [svV t]=true:=rfl;have tl':lall AV.cell (svV t).cells=true:=rfl;by_cases ht:t∈out2
      ·rw[if_pos ht] at a1;obtain⟨n,hn1,eK⟩:=joD MY ht;have hgt:(0:Int)<(n:Int):=om
       repeat'(first|apply jb<;>intro _|simp(disch:=first|exact dzG|fail) only[ja j6,ja j8,ja j2,ja j1,ja j11,ja j48,ja hiy,ja hny,eT,e44,gV,eK,hgt,tc,r11,δ,ε,ζ,η,θ])
       refine⟨⟨⟨out2,h2,w2,a1,a2,a3,a4,LY,hh2,MY,?_⟩,n7,CY,?_,?_,?_,?_,?_⟩,?_,?_⟩<;>exact hsX
      ·rw[if_neg ht] at a1;by_cases hge:(300:Int)<=(out2.length:Int)
       ·rw[if_pos hge] at a1;cases a1
       rw[if_neg hge] at a1;have eK:=λK=>joE (K:=K) MY ht;have eY:=λ(st:St) (K:AV->St->Prop)=>LY.lenV (K:=K) st;have n0:(Go.Sy.nw sy [svV t]).nx=sy.nx+1:=rfl;have LY':LL 1 h2 (Go.Sy.nw sy [svV t]) w2 out2:=LY.keep (ApX.nw sy _) (.inl hh2);have MY':Mq (Go.Sy.nw sy [svV t]) q out2:=MY.keep om (q6 (Qbh MY.1));obtain⟨w6,s6,e6,L6,A6,M6⟩:=LY'.appM (bytes:=24) (xc:=1) (xx:=true) (Cl.new sy [svV t]) (.inl rfl) om om om om;have n6:=A6.nx;have MZ:Mq s6 q out2:=MY'.keep n6 (M6 q _ MY'.1 MY'.2);have CZ:Cl s6 0 (mdE m):=A6.cl 0 _ (.inl om) (CY.nw _);have eZ:=λ(st:St) (K:AV->St->Prop)=>L6.lenV (K:=K) st;have eU:=λ(K:AV->St->Prop)=>jni (K:=K) (n:=((out2 ++ [t]).length:Int)) MZ ht (by rw[υ];rfl);have hgt:¬ (0:Int)<0:=dc
       repeat'(first|apply jb<;>intro _|simp(disch:=first|exact dzG|fail) only[ja j6,ja j8,ja j2,ja j1,ja j11,ja j48,ja hiy,ja hny,eT,e44,gV,jbl,eK,eY,eZ,hge,hgt,tc,e6,eU,r11,δ,ε,ζ,η,θ])
       refine⟨⟨⟨out2 ++ [t],s6.nx,w6,a1,by rw[υ];omega,by rw[υ,Qbk];omega,λx hx=>?_,L6.cls λ_ _ C=>MZ.cl C _,τ _,MZ.put _,?_⟩,by show 1<=s6.nx;omega,MZ.cl CZ _,?_,?_,?_,?_,?_⟩,?_,?_⟩
       ·rcases Qau.1 hx with h|h
        ·exact a4 x h
        ·rw[QaK.1 h];exact hrt
       all_goals exact hsX
     ·obtain⟨⟨out2,h2,w2,a1,a2,a3,a4,LY,hh2,MY,j6⟩,n7,CY,j48,j8,j2,j1,j11⟩:=hIy;rw[QbG,u6] at a1;have a1:=Option.some.inj a1;subst a1;have eW:wq ((i:Int)+1)=((i+1:Nat):Int):=jfP _ om om;repeat'(first|apply jb<;>intro _|simp(disch:=first|exact dzG|fail) only[ja j6,ja j8,ja j2,ja j1,ja j11,jaM,eW,r11,δ,ε,ζ,η,θ])
      refine⟨n,om,i+1,out2,h2,w2,om,om,a3,q4,a4,LY,hh2,n7,MY,CY,?_,?_,?_,?_,?_⟩;all_goals exact hsX
   ·have hio:i=out.length:=om
    rw[Z2,List.getElem?_eq_none om] at q4;cases q4;repeat'(first|apply jb<;>intro _|simp(disch:=first|exact dzG|fail) only[ja z6,ja z8,ja z2,ja z1,ja z11,eL,hlt,r11,δ,ε,ζ,η,θ])
    exact FzD.tup (.cons (LW.fzd (d:=5) (Qae _)) (.cons (.pc rfl) .nil))
  ·refine⟨0,F,q,_,rfl,Qae _,hfl,ho,hgd,L3,om,om,M3,C3,?_,?_,?_,?_,?_⟩;all_goals first
    |(show Has _ 11 (.int .i64 0);simp(disch:=decide) only[ju];done)
    |(simp(disch:=decide) only[ji,ju];done)
    |(simp(disch:=decide) only[ji];assumption)
def jmx (v:VarT):Prop:=v.beg=true->v.lo<=v.first/\v.first<=v.hi
theorem jdC {vars:List VarT}{enums:List EnumT}:∀ {xs:List Ex} {v u:VarT},jmx v->Jb vars enums v xs=.ok u->jmx u
 |[],v,u,hv,h=>by rw[Jb] at h;cases h;exact hv
 |x :: xs,v,u,hv,h=>by
  rw[Jb] at h;split at h
  ·cases h
  ·split at h
   ·cases h
   ·split at h
    ·cases h
    ·exact jdC (by intro _;dsimp only;omega) h
theorem jiO {enums:List EnumT}{d:DeclT}{v:VarT}(h:ZU enums d=.ok v):jmx v:=by
 unfold ZU at h;split at h
 ·cases h;intro h;cases h
 ·split at h
  ·cases h;intro h;cases h
  ·split at h
   ·cases h
   ·split at h
    ·cases h
    ·split at h
     ·cases h
     ·cases h;intro h;cases h
theorem jjy {m:ModT}{ts:List (List Nat)}{d:DeclT}{b:MT}(hm:QV m.vars)(h:QO m ts d=.ok b):QV b.1.vars:=by
 unfold QO at h;split at h
 ·cases h
 ·split at h
  ·cases h
  ·rename_i v hk;unfold ZZ at h;split at h
   ·cases h
   ·rename_i u hu;unfold VZ at h;split at h
    ·cases h
    ·cases h;intro w hw;rcases Qau.1 hw with hw|hw
     ·exact hm w hw
     ·simp only[QaK] at hw;rw[hw];exact jdC (jiO hk) hu
theorem jry {src:SrcT}{m:MT}(h:zh src=.ok m):QV m.1.vars:=by
 unfold zh at h;split at h
 ·cases h
 ·rename_i b h1;have hb:QV b.1.vars:=Ji (n:=0) (P:=λ_ (c:MT)=>QV c.1.vars) (λk c x c' _ hc hr=>by rw[vS hr];exact hc) (λv hv=>by cases hv) h1;split at h
  ·cases h
  ·rename_i c h2;have hc:QV c.1.vars:=Ji (n:=0) (P:=λ_ (c:MT)=>QV c.1.vars) (λk c x c' _ hc hr=>jjy hc hr) hb h2;exact Ji (n:=0) (P:=λ_ (c:MT)=>QV c.1.vars) (λk c x c' _ hc hr=>by rw[(Kd hr).1];exact hc) hc h
theorem jic {l f:List Nat}(h:(zn l f).c=0):QV (zn l f).m.vars:=by
 unfold zn at h ⊢;by_cases h1:(yB l).2.1≠0
 ·rw[if_pos h1] at h;exact absurd (show((yB l).2.1:Int)=0 from h) om
 ·rw[if_neg h1] at h ⊢;cases hm:zh (yB l).1 with
  |er a b c=>
   rw[hm] at h;exact absurd h (wG hm)
  |ok m=>
   rw[hm] at h;dsimp only at h ⊢;by_cases h2:(yn f).2.1≠0
   ·rw[if_pos h2] at h;exact absurd (show((yn f).2.1:Int)=0 from h) om
   ·rw[if_neg h2] at h ⊢;cases hr:yy m.1.vars m.1.enums true (yn f).1 2 [] with
    |er a b c=>
     rw[hr] at h;exact absurd h (QG hr)
    |ok y=>exact jry hm
theorem jib {src:SrcT}(h:(Qh src).2=true):QV (Qh src).1.vars:=by
 unfold Qh at h ⊢;cases hs:Qc src with
 |none=>rw[hs] at h;cases h
 |some t=>
  rw[hs] at h;dsimp only at h ⊢;split at h
  ·cases h
  ·rename_i h5;rw[if_neg h5];simp only[Qaa,decide_eq_true_eq] at h;exact jic h.1.1
set_option maxHeartbeats 4000000 in
theorem jmq (hb:NB base)(m:ModT)(hm:m.vars.length<=1000000)(sv:SvT)(hs:sv.length<=1099511627776):PL γ base 26 [.agg (mdE m),svV sv] (.ok (.bool (Ya m sv))):=by
 have E:=λst K Kp=>(Kc hb m sv hm hs).pa (by unfold svV;simp[pa,pc,J2,zW]) (λst=>hb.no 25 dc _ _) st K Kp;unfold svV at *;refine zg jt5 (by rfl) (hb.pur 26 5 dc) rfl ?_;simp only[jpG,jr,κ,μ,ν,ξ];rw[(by unfold jke;simp only[qq];rfl:jke=_)];cases h1:qy m.vars sv with
 |false=>
  rw[h1] at E;repeat'(first|apply jb<;>intro _|simp(disch:=first|exact dzG|fail) only[E,XP,r11,δ,ε,ζ,η,θ])
  all_goals exact G0.v (by unfold Ya;rw[h1];rfl) rfl
 |true=>
  rw[h1] at E;have hl:=(qW.1 h1).1;repeat'(first|apply jb<;>intro _|simp(disch:=first|exact dzG|fail) only[E,XP,r11,δ,ε,ζ,η,θ])
  refine jX m.vars.length (λk L st=>(∀ j (h1:j<m.vars.length) (h2:j<sv.length),j<k->m.vars[j].beg=true->sv[j]=m.vars[j].first)/\1<=st.nx/\Has L 1 (.lst sv.length (sv.map (.int .i64)))/\Has L 12 (.lst m.vars.length (fl vaE m.vars))) ?_ (λk L s hk hI hi hn=>?_) (λL s hI=>?_)
  ·refine⟨λj h1 h2 hj=>absurd hj (Qay _),by(first|omega|(simp only[jg,jj,jt,jq,jp];first|done|omega)),?_,?_⟩<;>exact hsX
  ·obtain⟨h0,n1,i1,i12⟩:=hI;have hks:k<sv.length:=om
   cases hbg:m.vars[k].beg with
   |false=>
    repeat'(first|apply jb<;>intro _|simp(disch:=first|exact dzG|fail) only[ja i1,ja i12,ja hi,ja hn,Xh,hbg,r11,δ,ε,ζ,η,θ])
    refine⟨⟨λj h1 h2 hj hb2=>?_,om,?_,?_⟩,?_,?_⟩
    ·by_cases e:j=k
     ·subst e;rw[hbg] at hb2;cases hb2
     ·exact h0 j h1 h2 om hb2
    all_goals exact hsX
   |true=>
    by_cases hq:sv[k]=m.vars[k].first
    ·have hq2:=hq;repeat'(first|apply jb<;>intro _|simp(disch:=first|exact dzG|fail) only[ja i1,ja i12,ja hi,ja hn,Xh,hbg,hq,r11,δ,ε,ζ,η,θ])
     refine⟨⟨λj h1 h2 hj hb2=>?_,om,?_,?_⟩,?_,?_⟩
     ·by_cases e:j=k
      ·subst e;exact hq
      ·exact h0 j h1 h2 om hb2
     all_goals exact hsX
    ·have hq':¬ m.vars[k].first=sv[k]:=λe=>hq e.symm
     repeat'(first|apply jb<;>intro _|simp(disch:=first|exact dzG|fail) only[ja i1,ja i12,ja hi,ja hn,Xh,hbg,hq,hq',r11,δ,ε,ζ,η,θ])
     exact G0.v (congrArg AV.bool (jhW h1 hk hks hbg hq).symm) rfl
  ·obtain⟨h0,n1,i1,i12⟩:=hI;repeat'(first|apply jb<;>intro _|simp(disch:=first|exact dzG|fail) only[r11,δ,ε,ζ,η,θ])
   exact G0.v (congrArg AV.bool ((wA h1).2 λi h1 h2=>h0 i h1 h2 h1).symm) rfl
end Go.Sy
end
noncomputable section
set_option maxRecDepth 100000
namespace Go.Sy
open Go.Ev Go.Proofs
variable {base:Bs}
theorem bNe (a b:Bool)(st:St)(K:AV->St->Prop):jh (Xu γ .neq 4 false (.bool a) (.bool b) st) K=K (.bool (a != b)) st:=by
 have h:Xu γ .neq 4 false (.bool a) (.bool b) st=.ok (.bool (a != b)) st:=by cases a<;>cases b<;>kernel_rfl
 rw[h];rfl
set_option maxHeartbeats 32000000 in
theorem law8_ok (hb:NB base)(h9:∀ st,base.run 9 [] st=.ok (.bool true) st)(hP:PI base)(hC:CloneP base)(hkp:KeyP base)(src:SrcT)(hm:szS src<=1048576):XB γ base 8 [.agg (srE src)] st0 (λv _=>v=.bool true) λ_ _=>False:=by
 have E9:=λ(st:St) (K Kp:AV->St->Prop)=>Wa (P:=γ) (base:=base) (h9 st) K Kp;have E10:=jri hb hP src (jqE hm);refine zH xs8 (by rfl) (hb.at0 8 dc dc _ _) ?_;simp only[ys8,jr,κ,μ,ν,ξ];rw[(by unfold zs8;simp only[qq];rfl:zs8=_)];cases h1:(Qh src).2 with
 |false=>
  rw[h1] at E10;repeat'(first|apply jb<;>intro _|simp(disch:=first|exact dzG|fail) only[E9,E10,r11,δ,ε,ζ,η,θ])
 |true=>
  have hfew:=jia h1;have hF:=jib h1;rw[h1] at E10;obtain⟨MK,V⟩:=jco h1;generalize (Qh src).1=m at E10 MK V hfew hF;have B:ModB m:=⟨V.len,by have:=MK.len;omega,λv hv=>⟨(MK.moves v hv).len,(MK.moves v hv).when.sz,λa ha=>((MK.moves v hv).acts a ha).2.2.sz⟩⟩;have hml:=MK.len;obtain⟨o,ho,RI,hol⟩:=jid hF hfew;have E23:=jpl hb hC hkp m B V.ends MK.sb hF hfew ho;have hst:=λx=>@H0 m hF x;have hlen:∀ x∈o,x.length<=1000000:=λx hx=>by rw[(vF V.ends (RI.good x hx)).1];exact V.len
  obtain⟨w0,hw0⟩:∃ w0,w0=Go.Sy.wr (Go.Sy.nw (Go.Sy.nw st0.bare (srE src)) [AV.nils,AV.nils,AV.nils]) 1 0 (mdE m):=⟨_,rfl⟩;have n0:w0.nx=2:=by rw[hw0];rfl
  have f1:(Go.Sy.nw st0.bare (srE src)).nx=1:=rfl;have C0:Cl w0 1 (mdE m):=by rw[hw0];exact(f1▸Cl.new (Go.Sy.nw st0.bare (srE src)) [AV.nils,AV.nils,AV.nils]).wr0 rfl
  repeat'(first|apply jb<;>intro _|simp(disch:=first|exact dzG|fail) only[E9,E10,r11,δ,ε,ζ,η,θ])
  rw[<-hw0];refine jfu hb m V.ends V.len MK.sb hF hfew λv s1 LF AF=>?_;have n1:=AF.nx;rw[n0] at n1 AF;have C1:Cl s1 1 (mdE m):=AF.cl 1 _ om C0;have eL:=λ(st:St) (K:AV->St->Prop)=>LF.lenV (K:=K) st;clear hw0 AF C0 LF ho;obtain⟨r,hpre⟩:=RI.pre;have hfo:(yJ m.vars).length<=o.length:=by rw[hpre,υ];exact Nat.le_add_right _ _
  have hlt:¬ (o.length:Int)<((yJ m.vars).length:Int):=om
  have hsf:∀ k (h:k<o.length),Ya m o[k]=decide (k<(yJ m.vars).length):=λk h=>by
   by_cases hk:k<(yJ m.vars).length
   ·rw[decide_eq_true hk];refine(hst _).1 ?_;have:o[k]=(yJ m.vars)[k]:=by simp only[hpre];exact QbF hk
    rw[this];exact Qac hk
   ·rw[decide_eq_false hk,Qch];intro e;obtain⟨j,hj,e⟩:=Qbd.1 ((hst _).2 e);have:o[j]=(yJ m.vars)[j]:=by simp only[hpre];exact QbF hj
    rw[<-this] at e;have:=(List.getElem_inj (h₀:=by omega) (h₁:=h) RI.nd).1 e;omega
  generalize hf:(yJ m.vars).length=f at *;unfold mdE at E23
  (have zz:=C1.r;(repeat'(first|apply jb<;>intro _|simp(disch:=first|exact jZ|fail) only[E23,eL,hlt,C1.q,C1.r,r11,δ,ε,ζ,η,θ]));all_goals clear zz)
  refine jX o.length (λk L s=>Cl s 1 (mdE m)/\2<=s.nx/\Has L 48 (.lst o.length (fl svE o))/\Has L 7 (.lst o.length (fl svE o))/\Has L 5 v/\Has L 3 (.ptr 1 0)) ?_ (λk L s hk hI hi hn=>?_) (λL s hI=>?_)
  ·refine⟨C1,n1,?_,?_,?_,?_⟩<;>exact hsX
  ·obtain⟨CS,n2,i48,i7,i5,i3⟩:=hI;have hg:=RI.good _ (Qac hk);have hle:=hlen _ (Qac hk);have E26:Tot base 26 [.agg (mdE m),svV o[k]] (.bool (Ya m o[k])):=λst K Kp=>(jmq hb m V.len o[k] om).pa (by unfold svV;simp[pa,pc,J2,zW]) (λst=>hb.no 26 dc _ _) st K Kp;rw[hsf k hk] at E26;have E30:=λ(t:SvT) (ht:t.length<=1000000)=>jj0 hb hC m B t o[k] om om;have hcl:=RI.cl k o[k] hk (Qag hk);have hcm:=RI.come k o[k] (Qag hk);have hnl:∀ x∈yg m o[k],x.length=m.vars.length:=λx hx=>HV hx;have hnf:=@V7 m o[k];have eT:=λ(st:St) (K:AV->St->Prop)=>UK (st:=st) (K:=K) hk;have eS:∀ (st:St) (K:AV->St->Prop),jh (vE 1 (.lst o.length (fl svE o)) none (some (.int .i64 (k:Int))) st) K=K (.lst k (fl svE (o.take k))) st:=λst K=>jmJ ub om;generalize hsk:o[k]=sk at *;obtain⟨c,hc⟩:∃ c,c=decide (k<f):=⟨_,rfl⟩;have hlss:∀ (st:St) (K:AV->St->Prop),jh (Jm .lss (.int .i64 (k:Int)) (.int .i64 (f:Int)) st) K=K (.bool c) st:=λst K=>by
    rw[hc];by_cases h:k<f
    ·rw[decide_eq_true h];have:((k:Int)<(f:Int)):=om
     simp[KO,this]
    ·rw[decide_eq_false h];have:¬ ((k:Int)<(f:Int)):=om
     simp[KO,this]
   rw[<-hc] at E26;have hne:(c != c)=false:=by cases c<;>rfl
   unfold mdE at E26
   (have zz:=@CS.r;(repeat'(first|apply jb<;>intro _|simp(disch:=first|exact jZ|fail) only[ja i48,ja i7,ja i5,ja i3,ja hi,ja hn,eT,eS,E26,hlss,eL,bNe,hne,CS.q,CS.r,r11,δ,ε,ζ,η,θ]));all_goals clear zz)
   refine jX k (λj L s=>(∃ c,c=(decide (k<f) ||(o.take j).any λt=>decide (sk∈yg m t))/\Has L 11 (.bool c))/\Cl s 1 (mdE m)/\2<=s.nx/\Has L 69 (.lst k (fl svE (o.take k)))/\Has L 10 (svV sk)/\Has L 48 (.lst o.length (fl svE o))/\Has L 7 (.lst o.length (fl svE o))/\Has L 5 v/\Has L 3 (.ptr 1 0)/\Has L 50 (.int .i64 (k:Int))/\Has L 49 (.int .i64 (o.length:Int))) ?_ (λky Ly sy hky hIy hiy hny=>?_) (λLy sy hIy=>?_)
   ·refine⟨⟨c,by rw[hc];simp,?_⟩,CS,n2,?_,?_,?_,?_,?_,?_,?_,?_⟩;all_goals exact hsX
   ·obtain⟨⟨c2,hc2,j11⟩,CY,n3,j69,j10,j48,j7,j5,j3,j50,j49⟩:=hIy;have hyo:ky<o.length:=om
    have eTy:∀ (st:St) (K:AV->St->Prop),jh (yb (.lptr (fl svE (o.take k)) ky) st) K=K (svV o[ky]) st:=λst K=>by
     rw[UK (ls:=o.take k) (k:=ky) (by rw[Qap];omega),List.getElem_take]
    have E:=E30 o[ky] (hlen _ (Qac hyo));have hS:(o.take (ky+1)).any (λt=>decide (sk∈yg m t))=((o.take ky).any (λt=>decide (sk∈yg m t)) ||decide (sk∈yg m o[ky])):=by
     rw[yz hyo,List.any_append,QbL,List.any_nil,Bool.or_false]
    generalize decide (sk∈yg m o[ky])=d at E hS;generalize o[ky]=t at *;unfold mdE at E;cases hcc:c2 with
    |true=>
     rw[hcc] at j11 hc2
     (have zz:=@CY.r;(repeat'(first|apply jb<;>intro _|simp(disch:=first|exact jZ|fail) only[ja j11,ja j69,ja j10,ja j48,ja j7,ja j5,ja j3,ja hiy,ja hny,eTy,CY.q,CY.r,r11,δ,ε,ζ,η,θ]));all_goals clear zz)
     refine⟨⟨⟨true,by rw[hS,<-Bool.or_assoc,<-hc2];rfl,?_⟩,CY,n3,?_,?_,?_,?_,?_,?_,?_,?_⟩,?_,?_⟩;all_goals first
      |(simp(disch:=decide) only[ji,ju];done)
      |(simp(disch:=decide) only[ji];assumption)
    |false=>
     rw[hcc] at j11 hc2
     (have zz:=@CY.r;(repeat'(first|apply jb<;>intro _|simp(disch:=first|exact jZ|fail) only[ja j11,ja j69,ja j10,ja j48,ja j7,ja j5,ja j3,ja hiy,ja hny,eTy,E,CY.q,CY.r,r11,δ,ε,ζ,η,θ]));all_goals clear zz)
     refine⟨⟨⟨d,by rw[hS,<-Bool.or_assoc,<-hc2];rfl,?_⟩,CY,n3,?_,?_,?_,?_,?_,?_,?_,?_⟩,?_,?_⟩;all_goals exact hsX
   ·obtain⟨⟨c2,hc2,j11⟩,CY,n3,j69,j10,j48,j7,j5,j3,j50,j49⟩:=hIy;have hct:c2=true:=by
     rw[hc2,QaC];rcases hcm with h|⟨k',t,h,e,ht⟩
     ·exact .inl (decide_eq_true (hf▸h))
     ·refine .inr (List.any_eq_true.2 ⟨t,?_,decide_eq_true ht⟩);exact List.mem_of_getElem? (i:=k') (by rw[List.getElem?_take_of_lt h];exact e)
    rw[hct] at j11
    (have zz:=@CY.r;(repeat'(first|apply jb<;>intro _|simp(disch:=first|exact jZ|fail) only[ja j11,ja j10,ja j48,ja j7,ja j5,ja j3,CY.q,CY.r,r11,δ,ε,ζ,η,θ]));all_goals clear zz)
    refine jdS hb hC m B sk om (.inl rfl) λs2 a=>?_;have n4:=a.nx;have CN:=a.cl 1 _ CY.lt CY;generalize yg m sk=ts at *;repeat'(first|apply jb<;>intro _|simp(disch:=first|exact dzG|fail) only[ja j10,ja j48,ja j7,ja j5,ja j3,r11,δ,ε,ζ,η,θ])
    refine jX ts.length (λj L s=>Cl s 1 (mdE m)/\2<=s.nx/\Has L 87 (.lst ts.length (fl svE ts))/\Has L 48 (.lst o.length (fl svE o))/\Has L 7 (.lst o.length (fl svE o))/\Has L 5 v/\Has L 3 (.ptr 1 0)/\Has L 50 (.int .i64 (k:Int))/\Has L 49 (.int .i64 (o.length:Int))) ?_ (λkz Lz sz hkz hIz hiz hnz=>?_) (λLz sz hIz=>?_)
    ·refine⟨CN,om,?_,?_,?_,?_,?_,?_,?_⟩;all_goals exact hsX
    ·obtain⟨CZ,n5,l87,l48,l7,l5,l3,l50,l49⟩:=hIz;have eTz:=λ(st:St) (K:AV->St->Prop)=>UK (st:=st) (K:=K) hkz;have E32:=jpq hb o (by unfold BIG;omega) ts[kz] (by rw[hnl _ (Qac hkz)];have:=V.len;omega) (λx hx=>by have:=hlen x hx;omega);rw[decide_eq_true (hcl _ (Qac hkz))] at E32;repeat'(first|apply jb<;>intro _|simp(disch:=first|exact dzG|fail) only[ja l87,ja l48,ja l7,ja l5,ja l3,ja hiz,ja hnz,eTz,E32,r11,δ,ε,ζ,η,θ])
     refine⟨⟨CZ,n5,?_,?_,?_,?_,?_,?_,?_⟩,?_,?_⟩;all_goals exact hsX
    ·obtain⟨CZ,n5,l87,l48,l7,l5,l3,l50,l49⟩:=hIz;refine⟨⟨CZ,n5,?_,?_,?_,?_⟩,?_,?_⟩;all_goals exact hsX
  ·repeat'(first|apply jb<;>intro _|simp(disch:=first|exact dzG|fail) only[r11,δ,ε,ζ,η,θ])
end Go.Sy
end
noncomputable section
namespace Go.Proofs
open Go.Shelf
def Tryz.laysC174_ren:Go.Shelf.Ren:=⟨λ|174=>117|247=>140|245=>141|287=>159|279=>160|280=>161|281=>162|282=>163|321=>171|322=>172|316=>173|171=>175|205=>174|243=>176|246=>177|283=>135|284=>136|285=>137|286=>138|129=>155|317=>154|318=>156|319=>157|320=>158|337=>169|338=>170|n=>n,λ|9=>9|3=>3|2=>2|75=>191|85=>192|4=>4|167=>227|5=>5|53=>122|175=>228|46=>225|168=>230|37=>125|0=>0|210=>241|21=>21|127=>245|145=>248|143=>246|171=>209|173=>212|212=>222|51=>223|20=>20|213=>224|232=>243|233=>244|80=>250|n=>n,λ|15=>1|16=>2|17=>0|18=>3|19=>4|n=>n⟩
theorem Tryz.laysC174:Go.Proofs.LaysC.n174 γ Tryz.laysC174_ren:={
 mixed:=by kernel_rfl
 f129:=Tryz.func155.trans (congrArg some (by kernel_rfl))
 f171:=Tryz.func175.trans (congrArg some (by kernel_rfl))
 f174:=Tryz.func117.trans (congrArg some (by kernel_rfl))
 f205:=Tryz.func174.trans (congrArg some (by kernel_rfl))
 f243:=Tryz.func176.trans (congrArg some (by kernel_rfl))
 f245:=Tryz.func141.trans (congrArg some (by kernel_rfl))
 f246:=Tryz.func177.trans (congrArg some (by kernel_rfl))
 f247:=Tryz.func140.trans (congrArg some (by kernel_rfl))
 f279:=Tryz.func160.trans (congrArg some (by kernel_rfl))
 f280:=Tryz.func161.trans (congrArg some (by kernel_rfl))
 f281:=Tryz.func162.trans (congrArg some (by kernel_rfl))
 f282:=Tryz.func163.trans (congrArg some (by kernel_rfl))
 f283:=Tryz.func135.trans (congrArg some (by kernel_rfl))
 f284:=Tryz.func136.trans (congrArg some (by kernel_rfl))
 f285:=Tryz.func137.trans (congrArg some (by kernel_rfl))
 f286:=Tryz.func138.trans (congrArg some (by kernel_rfl))
 f287:=Tryz.func159.trans (congrArg some (by kernel_rfl))
 f316:=Tryz.func173.trans (congrArg some (by kernel_rfl))
 f317:=Tryz.func154.trans (congrArg some (by kernel_rfl))
 f318:=Tryz.func156.trans (congrArg some (by kernel_rfl))
 f319:=Tryz.func157.trans (congrArg some (by kernel_rfl))
 f320:=Tryz.func158.trans (congrArg some (by kernel_rfl))
 f321:=Tryz.func171.trans (congrArg some (by kernel_rfl))
 f322:=Tryz.func172.trans (congrArg some (by kernel_rfl))
 f337:=Tryz.func169.trans (congrArg some (by kernel_rfl))
 f338:=Tryz.func170.trans (congrArg some (by kernel_rfl))
 t0:=Tryz.underlying0
 a0:=Tryz.isAgg0
 z0:=Tryz.sizeOf0
 v0:=Tryz.zeroValue0
 t2:=Tryz.underlying2
 a2:=Tryz.isAgg2
 z2:=Tryz.sizeOf2
 v2:=Tryz.zeroValue2
 t3:=Tryz.underlying3
 a3:=Tryz.isAgg3
 z3:=Tryz.sizeOf3
 v3:=Tryz.zeroValue3
 t4:=Tryz.underlying4
 a4:=Tryz.isAgg4
 z4:=Tryz.sizeOf4
 v4:=Tryz.zeroValue4
 t5:=Tryz.underlying5
 a5:=Tryz.isAgg5
 z5:=Tryz.sizeOf5
 v5:=Tryz.zeroValue5
 t9:=Tryz.underlying9
 a9:=Tryz.isAgg9
 z9:=Tryz.sizeOf9
 v9:=Tryz.zeroValue9
 t20:=Tryz.underlying20
 a20:=Tryz.isAgg20
 z20:=Tryz.sizeOf20
 v20:=Tryz.zeroValue20
 t21:=Tryz.underlying21
 a21:=Tryz.isAgg21
 z21:=Tryz.sizeOf21
 v21:=Tryz.zeroValue21
 t37:=Tryz.underlying125
 a37:=Tryz.isAgg125
 z37:=Tryz.sizeOf125
 v37:=Tryz.zeroValue125
 t46:=Tryz.underlying225
 a46:=Tryz.isAgg225
 z46:=Tryz.sizeOf225
 v46:=Tryz.zeroValue225
 t51:=Tryz.underlying223
 a51:=Tryz.isAgg223
 z51:=Tryz.sizeOf223
 v51:=Tryz.zeroValue223
 t53:=Tryz.underlying122
 a53:=Tryz.isAgg122
 z53:=Tryz.sizeOf122
 v53:=Tryz.zeroValue122
 t75:=Tryz.underlying191
 a75:=Tryz.isAgg191
 z75:=Tryz.sizeOf191
 v75:=Tryz.zeroValue191
 t85:=Tryz.underlying192
 a85:=Tryz.isAgg192
 z85:=Tryz.sizeOf192
 v85:=Tryz.zeroValue192
 t127:=Tryz.underlying245
 a127:=Tryz.isAgg245
 z127:=Tryz.sizeOf245
 v127:=Tryz.zeroValue245
 t143:=Tryz.underlying246
 a143:=Tryz.isAgg246
 z143:=Tryz.sizeOf246
 v143:=Tryz.zeroValue246
 t145:=Tryz.underlying248
 a145:=Tryz.isAgg248
 z145:=Tryz.sizeOf248
 v145:=Tryz.zeroValue248
 t167:=Tryz.underlying227
 a167:=Tryz.isAgg227
 z167:=Tryz.sizeOf227
 v167:=Tryz.zeroValue227
 t168:=Tryz.underlying230
 a168:=Tryz.isAgg230
 z168:=Tryz.sizeOf230
 v168:=Tryz.zeroValue230
 t171:=Tryz.underlying209
 a171:=Tryz.isAgg209
 z171:=Tryz.sizeOf209
 v171:=Tryz.zeroValue209
 t173:=Tryz.underlying212
 a173:=Tryz.isAgg212
 z173:=Tryz.sizeOf212
 v173:=Tryz.zeroValue212
 t175:=Tryz.underlying228
 a175:=Tryz.isAgg228
 z175:=Tryz.sizeOf228
 v175:=Tryz.zeroValue228
 t210:=Tryz.underlying241
 a210:=Tryz.isAgg241
 z210:=Tryz.sizeOf241
 v210:=Tryz.zeroValue241
 t212:=Tryz.underlying222
 a212:=Tryz.isAgg222
 z212:=Tryz.sizeOf222
 v212:=Tryz.zeroValue222
 t213:=Tryz.underlying224
 a213:=Tryz.isAgg224
 z213:=Tryz.sizeOf224
 t232:=Tryz.underlying243
 a232:=Tryz.isAgg243
 z232:=Tryz.sizeOf243
 v232:=Tryz.zeroValue243
 t233:=Tryz.underlying244
 a233:=Tryz.isAgg244
 z233:=Tryz.sizeOf244
 v233:=Tryz.zeroValue244
 g15:=by kernel_rfl
 g16:=by kernel_rfl
 g17:=by kernel_rfl
 g18:=by kernel_rfl
 g19:=by kernel_rfl
 t80:=Tryz.underlying250
 a80:=Tryz.isAgg250
 z80:=Tryz.sizeOf250
 v80:=Tryz.zeroValue250
 i0:=by kernel_rfl
 i2:=by kernel_rfl
 i3:=by kernel_rfl
 i4:=by kernel_rfl
 i5:=by kernel_rfl
 i9:=by kernel_rfl
 i20:=by kernel_rfl
 i21:=by kernel_rfl
 i37:=by kernel_rfl
 i46:=by kernel_rfl
 i51:=by kernel_rfl
 i53:=by kernel_rfl
 i75:=by kernel_rfl
 i80:=by kernel_rfl
 i85:=by kernel_rfl
 i127:=by kernel_rfl
 i143:=by kernel_rfl
 i145:=by kernel_rfl
 i167:=by kernel_rfl
 i168:=by kernel_rfl
 i171:=by kernel_rfl
 i173:=by kernel_rfl
 i175:=by kernel_rfl
 i210:=by kernel_rfl
 i212:=by kernel_rfl
 i232:=by kernel_rfl
 i233:=by kernel_rfl
 m15:=by kernel_rfl
 m16:=by kernel_rfl
 m17:=by kernel_rfl
 m18:=by kernel_rfl
 m19:=by kernel_rfl
 c0:=by kernel_rfl
 c2:=by kernel_rfl
 c3:=by kernel_rfl
 c4:=by kernel_rfl
 c5:=by kernel_rfl
 c9:=by kernel_rfl
 c20:=by kernel_rfl
 c21:=by kernel_rfl
 c37:=by kernel_rfl
 c46:=by kernel_rfl
 c51:=by kernel_rfl
 c53:=by kernel_rfl
 c75:=by kernel_rfl
 c80:=by kernel_rfl
 c85:=by kernel_rfl
 c127:=by kernel_rfl
 c143:=by kernel_rfl
 c145:=by kernel_rfl
 c167:=by kernel_rfl
 c168:=by kernel_rfl
 c171:=by kernel_rfl
 c173:=by kernel_rfl
 c175:=by kernel_rfl
 c210:=by kernel_rfl
 c212:=by kernel_rfl
 c213:=by kernel_rfl
 c232:=by kernel_rfl
 c233:=by kernel_rfl }
open Go.RowKit in
theorem Tryz.strconv_ParseInt_10_at64_ok (s:ByteArray)(hmax:s.size<=9223372036854775806)(v:Int)(h:Lib.parseIntB 64 s.data.toList=.ok v)(w:World) :
 Calls γ 117 #[.string s,.int .i64 10,.int .i64 64] w λe w'=>e=.returned (.tuple #[.int .i64 v,.nilIface])/\(w'=w\/∃ t,w'=Lib.bytesWorld w 5 t):=Any.strconv_ParseInt_10_at64_ok Tryz.laysC174 s hmax v h w
open Go.RowKit in
theorem Tryz.strconv_ParseInt_10_at64_range (s:ByteArray)(hlim:s.size<=281474976710656)(h:Lib.parseIntB 64 s.data.toList=.range)(ev:Value)(w:World)(hv:w.cell? ⟨2,0,none⟩=some ev)(hev:ev=.nilIface\/∃ te pe,ev=.iface te pe) :
 Calls γ 117 #[.string s,.int .i64 10,.int .i64 64] w λe w'=>∃ N,e=.returned (.tuple #[.int .i64 (Lib.intSat 64 s.data.toList),.iface 230 (.pointer (some ⟨N,0,none⟩))])/\w.heap.size<=N/\w'.heap[N]? = some (.cells #[.string ⟨#[80,97,114,115,101,73,110,116]⟩,.string s,ev] 241 (0,0))/\Below w.heap.size w w':=Any.strconv_ParseInt_10_at64_range Tryz.laysC174 s hlim h ev w hv hev
end Go.Proofs
end
noncomputable section
namespace Go.Proofs
open Go.Shelf Go.RowKit Go.Lib
set_option maxHeartbeats 1000000 in
theorem Tryz.clone_nil (n c:Nat)(w:World):Calls γ 49 #[.slice none n c] w λe w'=>e=.returned (.slice none 0 0)/\w'=w:=by
 have mixed:Tryz.prog.follows .mixedOrders=true:=by kernel_rfl
 have t3:=Tryz.underlying2;have a3:=Tryz.isAgg2;have z3:=Tryz.sizeOf2;have v3:=Tryz.zeroValue2;have t4:=Tryz.underlying4;have a4:=Tryz.isAgg4;have z4:=Tryz.sizeOf4;have v4:=Tryz.zeroValue4;have t22:=Tryz.underlying30;have a22:=Tryz.isAgg30;have z22:=Tryz.sizeOf30;have v22:=Tryz.zeroValue30;have q22:∀ (w:World) (a:Option Addr) (n c n' c':Nat),(binOp .eql 30 (.slice a n c) (.slice none n' c')).run γ w=.ok (.bool a.isNone) w:=λw a n c n' c'=>Lib.run_eql_slice_nil w _ _ a n c n' c' Tryz.underlying30
 go_enter Tryz.func49,Tryz.ntmps49
 go_wp2
 go_ret
 exact⟨rfl,rfl⟩
set_option maxHeartbeats 2000000 in
set_option maxRecDepth 100000 in
theorem Tryz.clone_zero (a:Addr)(c:Nat)(w:World):Calls γ 49 #[.slice (some a) 0 c] w λe w'=>∃ v',e=.returned v'/\w'.ownsRow w.heap.size 2 1 v' 0 []/\Below w.heap.size w w':=by
 have mixed:Tryz.prog.follows .mixedOrders=true:=by kernel_rfl
 have t3:=Tryz.underlying2;have a3:=Tryz.isAgg2;have z3:=Tryz.sizeOf2;have v3:=Tryz.zeroValue2;have t4:=Tryz.underlying4;have a4:=Tryz.isAgg4;have z4:=Tryz.sizeOf4;have v4:=Tryz.zeroValue4;have t22:=Tryz.underlying30;have a22:=Tryz.isAgg30;have z22:=Tryz.sizeOf30;have v22:=Tryz.zeroValue30;have i3:(Tryz.prog.info? 2).map (λi=>(i.zero,i.size,i.bytes))=some (some (Value.int IntKind.i64 0),1,8):=by kernel_rfl
 obtain⟨i0,hi,hz0,hz1,hz2⟩:=info_parts i3;have q22:∀ (w:World) (a:Option Addr) (n c n' c':Nat),(binOp .eql 30 (.slice a n c) (.slice none n' c')).run γ w=.ok (.bool a.isNone) w:=λw a n c n' c'=>Lib.run_eql_slice_nil w _ _ a n c n' c' Tryz.underlying30;have u22:∀ w,Sem.run γ (underlying 30) w=.ok (TypeDesc.slice 2) w:=run_underlying t22
 go_enter Tryz.func49,Tryz.ntmps49
 go_wp2_with (at_builtin;refine wpList_append_own _ rfl _ _ 30 rfl w.heap.size 2 i0 (.int .i64 0) 1 8 t22 hi hz0 hz1 hz2 rfl dc _ _ _ rfl (World.ownsRow_made w #[] 0 (τ _) (Qae _) rfl) a 0 c [] rfl rfl (by intro j u hj;simp at hj) (by intro u hu;cases hu) (by unfold maxLen;omega) om (by simp) ?_)
 intro v' w1 hown hgrow hnil
 go_wp2
 go_ret
 refine⟨v',rfl,by simpa using hown,?_⟩;exact((Below.refl _ w).alloc (τ _) _).grown hgrow (by simp) (by intro k hk;simp[Value.ownBlock] at hk;omega)
end Go.Proofs
end
noncomputable section
set_option maxRecDepth 100000
namespace Go.Sy
open Go.Ev Go.Proofs
open Go.RowKit (Below)
theorem Zt:okP γ=true:=by kernel_rfl
theorem KQ:Tryz.prog.follows .mixedOrders=true:=by kernel_rfl
theorem jts:jiR (Gd γ 10000000 400 9 [] st0)=true:=by kernel_rfl
def Hm (l:List UInt8):Prop:=∀ c∈l,48<=c.toNat/\c.toNat<=57
theorem HN:∀ (l:List UInt8) (acc:Nat),Hm l->(acc+1) * 10 ^ l.length<=100000000->Lib.parseUintM 18446744073709551615 acc l=.ok ((l.map UInt8.toNat).foldl (λv c=>10 * v+(c - 48)) acc)
 |[],acc,_,_=>rfl
 |c :: r,acc,hd,h=>by
  have hc:=hd c (by simp);rw[φ,Nat.pow_succ] at h;have hp:1<=10 ^ r.length:=Nat.one_le_pow _ _ dc;have hacc:(acc+1) * 10<=100000000:=by
   have:(acc+1) * 10 * 1<=(acc+1) * 10 * 10 ^ r.length:=Nat.mul_le_mul_left _ hp;have e:(acc+1) * 10 * 10 ^ r.length=(acc+1) * (10 ^ r.length * 10):=by rw[Nat.mul_assoc,Nat.mul_comm 10]
   omega
  unfold Lib.parseUintM;rw[if_pos hc,if_neg om,if_neg om,HN r _ (λd hd'=>hd d (by simp[hd']))]
  ·show _=Lib.NumEnd.ok ((r.map UInt8.toNat).foldl _ (10 * acc+(c.toNat - 48)));rw[Nat.mul_comm acc 10]
  ·refine Qab ?_ h;have e:(acc+1) * (10 ^ r.length * 10)=((acc+1) * 10) * 10 ^ r.length:=by rw[Nat.mul_comm (10 ^ r.length),Nat.mul_assoc]
   rw[e];exact Qax _ om
theorem Vv:∀ (l:List UInt8) (acc:Nat),Hm l->(∃ u,Lib.parseUintM 18446744073709551615 acc l=.ok u)\/Lib.parseUintM 18446744073709551615 acc l=.range
 |[],acc,_=>.inl ⟨acc,rfl⟩
 |c :: r,acc,hd=>by
  have hc:=hd c (by simp);unfold Lib.parseUintM;rw[if_pos hc];by_cases h1:1844674407370955162<=acc
  ·rw[if_pos h1];exact .inr rfl
  ·rw[if_neg h1];by_cases h2:18446744073709551615<acc * 10+(c.toNat - 48)
   ·rw[if_pos h2];exact .inr rfl
   ·rw[if_neg h2];exact Vv r _ λd hd'=>hd d (by simp[hd'])
theorem HO {l:List UInt8}(hne:l≠[])(hd:Hm l):Lib.parseIntB 64 l=Lib.signlessC (2 ^ 63) (Lib.parseUintM 18446744073709551615 0 l):=by
 obtain⟨c,r,rfl⟩:=List.exists_cons_of_ne_nil hne;have hc:=hd c (by simp);rw[Lib.parseIntB_plain 64 c r om om];unfold Lib.parseUintB;rw[if_neg (by simp)]
theorem jis {l:List UInt8}(hne:l≠[])(hd:Hm l)(h7:l.length<=7):Lib.parseIntB 64 l=.ok (vw (l.map UInt8.toNat):Int):=by
 have hle:10 ^ l.length<=10 ^ 7:=Nat.pow_le_pow_right dc h7;have e7:10 ^ 7=10000000:=dc
 rw[HO hne hd,HN l 0 hd om];have hv:=job (s:=l.map UInt8.toNat) (n:=l.length) (by simp) h7 (λc hc=>by
  obtain⟨b,hb,rfl⟩:=QaH.1 hc;have:=hd b hb;unfold qk;simp;omega)
 show Lib.signlessC _ (.ok (vw (l.map UInt8.toNat)))=_;generalize vw (l.map UInt8.toNat)=v at hv;unfold Lib.signlessC;simp;omega
end Go.Sy
end
noncomputable section
namespace Go.Proofs
open Go.Shelf
def Tryz.laysM176_ren:Go.Shelf.Ren:=⟨λ|176=>62|249=>83|288=>107|283=>135|284=>136|285=>137|286=>138|129=>155|317=>154|318=>156|319=>157|320=>158|337=>169|338=>170|n=>n,λ|37=>125|2=>2|3=>3|53=>122|4=>4|9=>9|171=>209|0=>0|173=>212|212=>222|51=>223|5=>5|20=>20|213=>224|46=>225|232=>243|233=>244|n=>n,λ|17=>0|18=>3|19=>4|n=>n⟩
theorem Tryz.laysM176:Go.Proofs.LaysM.n176 γ Tryz.laysM176_ren:={
 mixed:=by kernel_rfl
 f129:=Tryz.func155.trans (congrArg some (by kernel_rfl))
 f176:=Tryz.func62.trans (congrArg some (by kernel_rfl))
 f249:=Tryz.func83.trans (congrArg some (by kernel_rfl))
 f283:=Tryz.func135.trans (congrArg some (by kernel_rfl))
 f284:=Tryz.func136.trans (congrArg some (by kernel_rfl))
 f285:=Tryz.func137.trans (congrArg some (by kernel_rfl))
 f286:=Tryz.func138.trans (congrArg some (by kernel_rfl))
 f288:=Tryz.func107.trans (congrArg some (by kernel_rfl))
 f317:=Tryz.func154.trans (congrArg some (by kernel_rfl))
 f318:=Tryz.func156.trans (congrArg some (by kernel_rfl))
 f319:=Tryz.func157.trans (congrArg some (by kernel_rfl))
 f320:=Tryz.func158.trans (congrArg some (by kernel_rfl))
 f337:=Tryz.func169.trans (congrArg some (by kernel_rfl))
 f338:=Tryz.func170.trans (congrArg some (by kernel_rfl))
 t0:=Tryz.underlying0
 a0:=Tryz.isAgg0
 z0:=Tryz.sizeOf0
 v0:=Tryz.zeroValue0
 t2:=Tryz.underlying2
 a2:=Tryz.isAgg2
 z2:=Tryz.sizeOf2
 v2:=Tryz.zeroValue2
 t3:=Tryz.underlying3
 a3:=Tryz.isAgg3
 z3:=Tryz.sizeOf3
 v3:=Tryz.zeroValue3
 t4:=Tryz.underlying4
 a4:=Tryz.isAgg4
 z4:=Tryz.sizeOf4
 v4:=Tryz.zeroValue4
 t5:=Tryz.underlying5
 a5:=Tryz.isAgg5
 z5:=Tryz.sizeOf5
 v5:=Tryz.zeroValue5
 t9:=Tryz.underlying9
 a9:=Tryz.isAgg9
 z9:=Tryz.sizeOf9
 v9:=Tryz.zeroValue9
 t20:=Tryz.underlying20
 a20:=Tryz.isAgg20
 z20:=Tryz.sizeOf20
 v20:=Tryz.zeroValue20
 t37:=Tryz.underlying125
 a37:=Tryz.isAgg125
 z37:=Tryz.sizeOf125
 v37:=Tryz.zeroValue125
 t46:=Tryz.underlying225
 a46:=Tryz.isAgg225
 z46:=Tryz.sizeOf225
 v46:=Tryz.zeroValue225
 t51:=Tryz.underlying223
 a51:=Tryz.isAgg223
 z51:=Tryz.sizeOf223
 v51:=Tryz.zeroValue223
 t53:=Tryz.underlying122
 a53:=Tryz.isAgg122
 z53:=Tryz.sizeOf122
 v53:=Tryz.zeroValue122
 t171:=Tryz.underlying209
 a171:=Tryz.isAgg209
 z171:=Tryz.sizeOf209
 v171:=Tryz.zeroValue209
 t173:=Tryz.underlying212
 a173:=Tryz.isAgg212
 z173:=Tryz.sizeOf212
 v173:=Tryz.zeroValue212
 t212:=Tryz.underlying222
 a212:=Tryz.isAgg222
 z212:=Tryz.sizeOf222
 v212:=Tryz.zeroValue222
 t213:=Tryz.underlying224
 a213:=Tryz.isAgg224
 z213:=Tryz.sizeOf224
 t232:=Tryz.underlying243
 a232:=Tryz.isAgg243
 z232:=Tryz.sizeOf243
 v232:=Tryz.zeroValue243
 t233:=Tryz.underlying244
 a233:=Tryz.isAgg244
 z233:=Tryz.sizeOf244
 v233:=Tryz.zeroValue244
 g17:=by kernel_rfl
 g18:=by kernel_rfl
 g19:=by kernel_rfl
 i0:=by kernel_rfl
 i2:=by kernel_rfl
 i3:=by kernel_rfl
 i4:=by kernel_rfl
 i5:=by kernel_rfl
 i9:=by kernel_rfl
 i20:=by kernel_rfl
 i37:=by kernel_rfl
 i46:=by kernel_rfl
 i51:=by kernel_rfl
 i53:=by kernel_rfl
 i171:=by kernel_rfl
 i173:=by kernel_rfl
 i212:=by kernel_rfl
 i232:=by kernel_rfl
 i233:=by kernel_rfl
 m17:=by kernel_rfl
 m18:=by kernel_rfl
 m19:=by kernel_rfl }
open Go.RowKit Go.Sort Go.Lib in
theorem Tryz.strconv_AppendInt_10 (B n : Nat) (i : Int) (h0 : -9223372036854775808 ≤ i) (h1 : i ≤ 9223372036854775807) (sv : Value) (xs : List Value) (w : World) (hown : w.ownsRow B 5 1 sv n xs) (hBw : B ≤ w.heap.size) (hlim : n + 21 ≤ 140737488355328) (htab : Lib.TabBelow γ B w "internal/strconv.uint64pow10" .u64 Lib.pow10Tab) :
 Calls γ 62 #[sv,.int .i64 i,.int .i64 10] w λe w'=>∃ v',e=.returned v'/\w'.ownsRow B 5 1 v' (n+(Lib.itoa i).length) (xs ++ Lib.byteCells (Lib.itoa i))/\Below B w w'/\Lib.OthersKept 5 none w w':=Any.strconv_AppendInt_10 Tryz.laysM176 B n i h0 h1 sv xs w hown hBw hlim htab
end Go.Proofs
end
noncomputable section
namespace Go.Proofs
open Go.Shelf Go.RowKit Go.Sy
def jsJ (w:World)(p:Option Addr)(s:List Int):Prop:=0<s.length->∃ b o,p=some ⟨b,o,none⟩/\∀ j (h:j<s.length),w.cell? ⟨b,o+j,none⟩=some (.int .i64 s[j])
theorem jd2:(Tryz.prog.info? 5).map (λi=>(i.zero,i.size,i.bytes))=some (some (.int .u8 0),1,1):=by kernel_rfl
theorem jiQ {s:List Int}{k:Nat}(h:k<s.length):JV (s.take (k+1))=JV (s.take k) ++ [32] ++ Lib.itoa s[k]:=by
 have e:s.take (k+1)=s.take k ++ [s[k]]:=by rw[QbO,Qag h];rfl
 unfold JV;rw[e,List.flatMap_append];simp
theorem Kl {s:List Int}(hr:∀ l∈s,-9223372036854775808<=l/\l<=9223372036854775807):∀ k,(JV (s.take k)).length<=22 * k
 |0=>by simp[JV]
 |k+1=>by
  by_cases h:k<s.length
  ·have:=Kl hr k;have h2:=hr _ (Qac h);have h3:=Lib.itoa_length_le s[k] h2.1 h2.2;rw[jiQ h];simp only[υ,Qbk];omega
  ·have:=Kl hr k;rw[Qcg om] at this ⊢;omega
theorem jjH (w:World):(convert 125 9 (.slice none 0 0)).run γ w=.ok (.string ByteArray.empty) w:=by
 simp[convert,run_underlying Tryz.underlying125,run_underlying Tryz.underlying9,run_underlying Tryz.underlying5,Conv.bytesToString]
set_option maxHeartbeats 6400000 in
set_option maxRecDepth 100000 in
theorem Tryz.key_walk (s:List Int)(p:Option Addr)(C:Nat)(w:World)(hn:s.length<=1000000)(hs:jsJ w p s)(hr:∀ l∈s,-9223372036854775808<=l/\l<=9223372036854775807)
  (htab : Lib.TabIs γ w "internal/strconv.uint64pow10" .u64 Lib.pow10Tab) :
  Calls γ 44 #[.slice p s.length C] w λe w'=>e=.returned (.string ⟨(JV s).toArray⟩)/\Below w.heap.size w w':=by
 obtain⟨i0,hi,hz0,hz1,hz2⟩:=info_parts jd2;have hT:=Lib.tabBelow_of_tabIs htab
 go_enter Tryz.func44,Tryz.ntmps44
 go_wp2_with fail
 go_loopg [3,8] s.length (λg s3 s8 wx=>∃ k,g=s.length - k/\k<=s.length/\s8=.int .i64 k/\wx.ownsRow w.heap.size 5 1 s3 (JV (s.take k)).length (Lib.byteCells (JV (s.take k)))/\Below w.heap.size w wx)
 case atStart=>exact⟨0,rfl,Qae _,rfl,World.ownsRow_nil _ _ _ _,Below.refl _ _⟩
 case round=>
  obtain⟨k,rfl,hk,rfl,hown,hnx⟩:=hrel;by_cases hlt:k<s.length
  ·obtain⟨b,o,rfl,hall⟩:=hs om;have hx:=hall k hlt;have hb:b<w.heap.size:=World.block_lt_of_cell? _ _ hx;have hx':=(hnx.cell (p:=⟨b,o+k,none⟩) hb).trans hx;have hlt':(k:Int)<(s.length:Int):=om
   have hk1:IntKind.i64.wrap ((k:Int)+1)=(k:Int)+1:=IntWalk.i64_in _ om;have r2:=hr _ (Qac hlt);have r3:=r2.1;have r4:=r2.2;have lK:=Kl hr k;have hS:=jiQ hlt;have LK:=Lib.hid lK;have HS:=Lib.hid hS;clear lK hS r2
   go_wp2_with (at_builtin;refine wpList_append_own _ rfl _ _ 125 rfl w.heap.size 5 i0 (.int .u8 0) 1 1 Tryz.underlying125 hi hz0 hz1 hz2 rfl dc _ _ _ rfl (hown.alloc _) ⟨wr.heap.size,0,none⟩ 1 1 [Value.int .u8 32] rfl rfl (by intro j u' hj;match j,hj with|0,hj=>simp at hj;subst hj;simp[Addr.add]) (by intro u' hu';simp at hu';subst hu';rfl) (by have:=LK.out;unfold maxLen;omega) (by have:=LK.out;omega) (by have:=hnx.size;simp;omega) ?_)
   intro v2 w2 hown2 hgrow _;have hnx2:Below w.heap.size w w2:=(hnx.alloc (by have:=hnx.size;omega) _).grown hgrow (by have:=hnx.size;simp;omega) (λk hk=>(hown.lt k hk).1)
   go_wp2_with (go_at_call 62;refine(Tryz.strconv_AppendInt_10 w.heap.size _ s[k] r3 r4 v2 _ w2 hown2 (by have:=hnx2.size;omega) (by have:=LK.out;simp;omega) (hT.on hnx2)).mono ?_;rintro e w3 ⟨v3,rfl,hown3,hnx3,-⟩)
   go_roundg (s.length - (k+1))
   case measure=>omega
   case rel=>
    have hS:=HS.out;have eL:Lib.byteCells (JV (s.take k)) ++ [Value.int .u8 32] ++ Lib.byteCells (Lib.itoa s[k])=Lib.byteCells (JV (s.take (k+1))):=by
     rw[hS,Lib.byteCells_append,Lib.byteCells_append];rfl
    have eN:(JV (s.take k)).length+1+(Lib.itoa s[k]).length=(JV (s.take (k+1))).length:=by rw[hS];simp;omega
    exact⟨k+1,rfl,hlt,by simp,by rw[<-eL,<-eN];exact hown3,hnx2.trans hnx3⟩
  ·obtain rfl:k=s.length:=om
   rw[Qaf] at hown;obtain⟨l,hl⟩:∃ l,l=JV s:=⟨_,rfl⟩;rw[<-hl] at hown;have HL:=Lib.hid hl;clear hl;rcases hown.2 with ⟨e0,h0⟩|⟨g,cap,cur,rfl,-,-,-,-,-,-⟩
   ·subst e0;have hcv:(convert 125 9 (.slice none 0 0)).run γ wr=.ok (.string ByteArray.empty) wr:=jjH wr
    go_wp2_with fail
    go_ret
    have hl:=HL.out;have h1:JV s=[]:=by rw[<-hl];exact QbH.1 h0
    exact⟨by rw[h1];rfl,hnx⟩
   ·have hcv:=run_convert_bytes_back (P:=γ) wr 125 9 5 ⟨g,0,none⟩ cap l Tryz.underlying125 Tryz.underlying5 Tryz.underlying9 (λj hj=>hown.cells (g:=g) rfl j _ (by simp[Lib.byteCells,hj]))
    go_wp2_with fail
    go_ret
    have hl:=HL.out;subst hl;exact⟨rfl,hnx⟩
end Go.Proofs
end
noncomputable section
set_option maxRecDepth 100000
namespace Go.Sy
open Go.Ev Go.Proofs
open Go.RowKit (Below)
theorem jf9 {l:List UInt8}(hne:l≠[])(hd:Hm l):(∃ v,Lib.parseIntB 64 l=.ok v)\/Lib.parseIntB 64 l=.range:=by
 rw[HO hne hd];rcases Vv l 0 hd with ⟨u,h⟩|h
 ·rw[h];unfold Lib.signlessC;by_cases hu:2 ^ 63<=u
  ·right;simp only[if_pos hu]
  ·left;exact⟨u,by simp only[if_neg hu]⟩
 ·rw[h];exact .inr rfl
def jdm (s:List Nat):Bool:=decide (s≠[]) && s.all qk
theorem jdl (s:List Nat):jdm s=true↔Wu s:=by
 unfold jdm Wu;simp
def wZ:qF:=λf args st=>match args with
 |[]=>if f=9 then .ok (.bool true) st else .no
 |[.str s,.int .i64 a,.int .i64 b]=>if f=117/\a=10/\b=64/\jdm s=true/\s.length<=281474976710656 then(if s.length<=7 then .ok (.tup [.int .i64 (vw s:Int),.nilif]) st else .ok (.tup [.bad,.bad]) st) else .no
 |[.lst n cs]=>if f=49/\n=0/\cs=[] then .ok (.lst 0 []) st else .no
 |_=>.no
theorem jpa (st:St):wZ 9 [] st=.ok (.bool true) st:=rfl
def wO:List AV->Option (List Int)
 |[]=>some []
 |.int .i64 n :: r=>(wO r).map (n :: ·)
 |_=>none
theorem jai:∀ l:List Int,wO (l.map (.int .i64))=some l
 |[]=>rfl
 |n :: r=>by
  have:=jai r;rw[κ,wO,this];rfl
theorem jc0:∀ {cs:List AV} {l:List Int},wO cs=some l->cs=l.map (.int .i64)
 |[],l,h=>by rw[wO] at h;cases h;rfl
 |x :: r,l,h=>by
  unfold wO at h;split at h
  ·rename_i e;cases e
  ·rename_i n r' e;cases e;cases hr:wO r with
   |none=>rw[hr] at h;cases h
   |some l'=>
    rw[hr] at h;cases h;rw[jc0 hr];rfl
  ·cases h
def Zd:List AV->St->ER
 |[.lst n cs],st=>match wO cs with
  |some l=>if n=l.length/\n<=1000000/\∀ x∈l,-100000000<=x/\x<=100000000 then .ok (.str (zU l)) st else .no
  |none=>.no
 |_,_=>.no
def jtN:qF:=λf args st=>if f=44 then ut Zd args st else wZ f args st
def Zl:Bs:=⟨jtN,jf7⟩
theorem uN {f:FuncId}(h:f≠44)(args:List AV)(st:St):Zl.run f args st=wZ f args st:=if_neg h
theorem jtJ {f:FuncId}(h:f=44)(args:List AV)(st:St):Zl.run f args st=ut Zd args st:=if_pos h
theorem jnR (args:List AV)(st:St):Zl.run 44 args st=ut Zd args st:=jtJ rfl args st
theorem baseK_Key:KeyP Zl:=⟨λv sv st h1 h2 h3=>by
 have e:Zd [svV sv] st0=.ok (.str (zU sv)) st0:=by
  unfold Zd svV;simp only[jai];exact if_pos ⟨trivial,h2,h3⟩
 have h:Qi st.h [v]=some [svV sv]:=q8 h1 JE;rw[jnR];unfold ut;rw[h];simp only[e];rfl⟩
theorem jdF:PI Zl:=λs st hd hl=>by
 have e:wZ 117 [.str s,.int .i64 10,.int .i64 64] st=if(117=117/\(10:Int)=10/\(64:Int)=64/\jdm s=true/\s.length<=281474976710656) then(if s.length<=7 then .ok (.tup [.int .i64 (vw s:Int),.nilif]) st else .ok (.tup [.bad,.bad]) st) else .no:=rfl
 rw[uN dc,e,if_pos ⟨rfl,rfl,rfl,(jdl s).2 hd,hl⟩];exact⟨λh=>if_pos h,λh=>if_neg om⟩
theorem baseW_Clone:CloneP Zl:=⟨λst=>by rw[uN dc];rfl,λn cs st=>by
 rw[uN dc];show(if 49=49/\n+1=0/\cs=[] then ER.ok (.lst 0 []) st else .no)=.no;exact if_neg λh=>by simp at h,λc n m x st=>by rw[uN dc];rfl⟩
theorem kU (f:FuncId)(args:List AV)(st:St):wZ f args st=.no\/(f=9/\args=[])\/(f=117/\∃ s,args=[.str s,.int .i64 10,.int .i64 64]/\Wu s/\s.length<=281474976710656)\/(f=49/\args=[.lst 0 []]):=by
 unfold wZ;split
 ·by_cases h:f=9
  ·exact .inr (.inl ⟨h,rfl⟩)
  ·exact .inl (if_neg h)
 ·rename_i s a b;by_cases h:f=117/\a=10/\b=64/\jdm s=true/\s.length<=281474976710656
  ·obtain⟨h1,rfl,rfl,h4,h5⟩:=h;exact .inr (.inr (.inl ⟨h1,s,rfl,(jdl s).1 h4,h5⟩))
  ·exact .inl (if_neg h)
 ·rename_i n cs;by_cases h:f=49/\n=0/\cs=[]
  ·obtain⟨h1,rfl,rfl⟩:=h;exact .inr (.inr (.inr ⟨h1,rfl⟩))
  ·exact .inl (if_neg h)
 ·exact .inl rfl
theorem jmj (f:FuncId)(args:List AV)(st:St)(h9:f≠9)(h31:f≠117)(h49:f≠49):wZ f args st=.no:=by
 rcases kU f args st with h|⟨h,_⟩|⟨h,_⟩|⟨h,_⟩
 ·exact h
 ·exact absurd h h9
 ·exact absurd h h31
 ·exact absurd h h49
theorem JD {ι:Inj}{st:St}{w w':World}(hs:Sim ι st.h st.nx w)(b:Below w.heap.size w w'):Sim ι st.h st.nx w'/\Grew ι w ι w':=by
 have gr:Grew ι w ι w':=⟨b.os,b.tape,b.output,b.size,λk hk _=>b.block k hk,λb B S e=>.inl ⟨b,S,e⟩,λB vs h=>.inl h⟩;exact⟨⟨λc B S e=>by
  obtain⟨o,x,h1,h2,h3⟩:=hs.obj c B S e;exact⟨o,x,h1,(b.block B (hs.lt e)).trans h2,h3⟩,hs.gone,hs.inj,hs.born,hs.glob.grew gr⟩,gr⟩
theorem jmi:Jw γ wZ:=by
 intro f args st ι w vs hs hv;rcases kU f args st with h|⟨rfl,rfl⟩|⟨rfl,s,rfl,hd,hl⟩|⟨rfl,rfl⟩
 ·rw[h];trivial
 ·rw[jpa];have hvs:vs = #[]:=by
   have:vs.toList=[]:=by simpa[VRs] using hv
   simpa using this
  subst hvs;have hb:Tryz.f9.body.isSome=true:=by kernel_rfl
  obtain⟨c,hc⟩:=Qcs.1 hb;refine⟨(YH Zt Tryz.func9 hc).2,Calls.mono (jlr Zt (jfa KQ) jts w ⟨⟨hs.glob.1.1,λb S j _ e=>by cases e⟩,λB vs e=>by cases e⟩) λe w' ⟨he,hos,ht,ho,hsz,hk⟩=>⟨_,he,ι,Le.refl ι,?_,?_,?_,Cleanly.refl ι st⟩⟩
  ·simp only[VR]
  ·exact(JD hs ⟨hos,ht,ho,hsz,hk⟩).1
  ·exact(JD hs ⟨hos,ht,ho,hsz,hk⟩).2
 ·simp only[VRs,VR] at hv;obtain⟨v1,l1,e1,⟨bs,rfl,hbs⟩,v2,l2,rfl,rfl,v3,l3,rfl,rfl,rfl⟩:=hv;have hvs:vs = #[.string bs,.int .i64 10,.int .i64 64]:=by
   cases vs;simpa using e1
  subst hvs;have hlen:bs.data.toList.length=s.length:=by rw[<-hbs,Qah]
  have hsz:bs.size=s.length:=by rw[<-hlen,Qar];rfl
  have hne:bs.data.toList≠[]:=λh=>hd.1 (by rw[<-hbs,h];rfl);have hd8:Hm bs.data.toList:=λc hc=>by
   have:=hd.2 c.toNat (by rw[<-hbs];exact QaH.2 ⟨c,hc,rfl⟩);unfold qk at this;simp at this;omega
  have hent:Ev.Enters γ 117:=by
   have hb:Tryz.f117.body.isSome=true:=by kernel_rfl
   obtain⟨c,hc⟩:=Qcs.1 hb;exact(YH Zt Tryz.func117 hc).2
  have okc:∀ v,Lib.parseIntB 64 bs.data.toList=.ok v->Calls γ 117 #[.string bs,.int .i64 10,.int .i64 64] w λe w'=>e=.returned (.tuple #[.int .i64 v,.nilIface])/\Below w.heap.size w w':=λv h=>
   (Tryz.strconv_ParseInt_10_at64_ok bs om v h w).mono λe w' ⟨he,hw⟩=>⟨he,by
    rcases hw with rfl|⟨t,rfl⟩
    ·exact⟨rfl,rfl,rfl,τ _,λ_ _=>rfl⟩
    ·exact Lib.bytesWorld_below w 5 t⟩
  have hP:=jdF s st hd hl;rw[uN dc] at hP;by_cases h7:s.length<=7
  ·rw[hP.1 h7];refine⟨hent,(okc _ (jis hne hd8 om)).mono λe w' ⟨he,hb⟩=>⟨_,he,ι,Le.refl ι,?_,(JD hs hb).1,(JD hs hb).2,Cleanly.refl ι st⟩⟩;rw[hbs];simp only[VR,VRs];exact⟨_,rfl,_,_,rfl,rfl,_,_,rfl,rfl,rfl⟩
  ·rw[hP.2 om];refine⟨hent,?_⟩;have fin:∀ (x y:Value) (w':World),Below w.heap.size w w'->JB ι w st st (.tup [.bad,.bad]) (.tuple #[x,y]) w':=λx y w' hb=>by
    refine⟨ι,Le.refl ι,?_,(JD hs hb).1,(JD hs hb).2,Cleanly.refl ι st⟩;simp only[VR,VRs];exact⟨_,rfl,_,_,rfl,trivial,_,_,rfl,trivial,rfl⟩
   rcases jf9 hne hd8 with ⟨v,h⟩|h
   ·exact(okc v h).mono λe w' ⟨he,hb⟩=>⟨_,he,fin _ _ w' hb⟩
   ·obtain⟨te,pe,hg⟩:=hs.glob.1.1.2;exact(Tryz.strconv_ParseInt_10_at64_range bs om h _ w hg (.inr ⟨te,pe,rfl⟩)).mono λe w' ⟨N,he,_,_,hb⟩=>⟨_,he,fin _ _ w' hb⟩
 ·have e49:wZ 49 [.lst 0 []] st=.ok (.lst 0 []) st:=rfl;rw[e49];simp only[VRs,VR] at hv;obtain⟨v1,l1,e1,⟨p,C,rfl,-,-,-⟩,rfl⟩:=hv;have hvs:vs = #[.slice p 0 C]:=by
   cases vs;simpa using e1
  subst hvs;have hb:Tryz.f49.body.isSome=true:=by kernel_rfl
  obtain⟨c,hc⟩:=Qcs.1 hb;refine⟨(YH Zt Tryz.func49 hc).2,?_⟩;cases p with
  |none=>
   refine(Tryz.clone_nil 0 C w).mono λe w' ⟨he,hw⟩=>⟨_,he,ι,Le.refl ι,?_,?_,?_,Cleanly.refl ι st⟩
   ·simp only[VR];exact⟨none,0,rfl,τ _,rfl,λh=>absurd h (Qbj _)⟩
   ·rw[hw];exact hs
   ·rw[hw];exact Grew.refl ι w
  |some a=>
   refine(Tryz.clone_zero a C w).mono λe w' ⟨v',he,ho,hb⟩=>⟨_,he,ι,Le.refl ι,?_,(JD hs hb).1,(JD hs hb).2,Cleanly.refl ι st⟩;simp only[VR];rcases ho.2 with ⟨rfl,_⟩|⟨g,cap,cur,rfl,_⟩
   ·exact⟨none,0,rfl,τ _,rfl,λh=>absurd h (Qbj _)⟩
   ·exact⟨_,cap,rfl,Qae _,rfl,λh=>absurd h (Qbj _)⟩
theorem jb1 {ι:Inj}:∀ {l:List Int} {ys:List Value},VRs ι (l.map (.int .i64)) ys->ys=l.map (Value.int .i64)
 |[],ys,h=>h
 |n :: r,ys,h=>by
  obtain⟨y,ys',rfl,h1,h2⟩:=h;rw[jb1 h2];show _=Value.int .i64 n :: _;rw[show y=Value.int .i64 n from h1]
theorem jcY (args:List AV)(st:St):Zd args st=.no\/∃ l:List Int,args=[.lst l.length (l.map (.int .i64))]/\l.length<=1000000/\(∀ x∈l,-100000000<=x/\x<=100000000)/\Zd args st=.ok (.str (zU l)) st:=by
 unfold Zd;split
 ·rename_i n cs;cases hl:wO cs with
  |none=>exact .inl rfl
  |some l=>
   dsimp only;by_cases h:n=l.length/\n<=1000000/\∀ x∈l,-100000000<=x/\x<=100000000
   ·obtain⟨h1,h2,h3⟩:=h;subst h1;exact .inr ⟨l,by rw[jc0 hl],h2,h3,if_pos ⟨rfl,h2,h3⟩⟩
   ·exact .inl (if_neg h)
 ·exact .inl rfl
theorem jiP:Xg γ 44 Zd:=by
 intro args st ι w vs hs hv;rcases jcY args st with h|⟨l,rfl,h7,hbd,h⟩
 ·rw[h];trivial
 ·rw[h];simp only[VRs,VR] at hv;obtain⟨v1,l1,e1,⟨p,C,rfl,-,-,hc⟩,rfl⟩:=hv;have hvs:vs = #[.slice p l.length C]:=by
   cases vs;simpa using e1
  subst hvs;have hent:Ev.Enters γ 44:=by
   have hb:Tryz.f44.body.isSome=true:=by kernel_rfl
   obtain⟨c,hc⟩:=Qcs.1 hb;exact(YH Zt Tryz.func44 hc).2
  have htab : Lib.TabIs γ w "internal/strconv.uint64pow10" .u64 Lib.pow10Tab := by
   obtain⟨t,fz,h0⟩:=hs.glob.1.1.1
   have g0 : Tryz.prog.globalNamed "internal/strconv.uint64pow10" = some 0 := by kernel_rfl
   unfold Lib.TabIs World.var?;simp only[g0,QaX,h0];rfl
  have hin:jsJ w p l:=λh0=>by
   obtain⟨B,o,us,rfl,hg,hb,hr⟩:=hc h0;rw[Qah] at hb hr;refine⟨B,o,rfl,λj hj=>?_⟩;have hu:=jb1 hr;have e:us[o+j]? = some (Value.int .i64 l[j]):=by
    have:((us.drop o).take l.length)[j]? = some (Value.int .i64 l[j]):=by rw[hu];simp[hj]
    rw[List.getElem?_take_of_lt hj,QbJ] at this;exact this
   rw[Uh (hs.glob.2 B us hg) om,Qaq,e];rfl
  refine⟨hent,(Tryz.key_walk l p C w h7 hin (λx hx=>by have:=hbd x hx;omega) htab).mono λe w' ⟨he,hb⟩=>⟨_,he,ι,Le.refl ι,?_,(JD hs hb).1,(JD hs hb).2,Cleanly.refl ι st⟩⟩;simp only[VR];exact⟨_,rfl,rfl⟩
theorem jmk:Jw γ Zl.run:=by
 intro f args st ι w vs hs hv;by_cases h:f=44
 ·subst h;rw[jnR];exact jeP jiP args st ι w vs hs hv
 ·rw[uN h];exact jmi f args st ι w vs hs hv
end Go.Sy
end
noncomputable section
set_option maxRecDepth 100000
namespace Go.Sy
open Go.Ev Go.Proofs
theorem jn6 {ι:Inj}:∀ {cs:List AV} {v:Value},VRs ι cs v.cells.toList->2<=cs.length->VR ι (.agg cs) v
 |a :: b :: r,v,h,_=>by
  cases v;case agg c=>exact⟨c,rfl,h⟩
  all_goals
   exfalso;obtain⟨v1,l1,e1,_,v2,l2,e2,_⟩:=h;simp[Value.cells] at e1;rw[e2] at e1;simp at e1
 |[],v,h,h2=>by simp at h2
 |[a],v,h,h2=>by simp at h2
theorem arg_src {w:World}{m:SrcT}{v:Value}(h:VRs (frW w) (srE m) v.cells.toList):VR (frW w) (.agg (srE m)) v:=jn6 h (by rw[wB];decide)
theorem base4_9 (st:St):Zl.run 9 [] st=.ok (.bool true) st:=by rw[uN dc];rfl
theorem base4_PI:PI Zl:=jdF
theorem base4_NB:NB Zl:=⟨λf h args st=>(uN (by rintro rfl;simp[W3] at h) args st).trans <|jmj f args st (by rintro rfl;simp[W3] at h) (by rintro rfl;simp[W3] at h) (by rintro rfl;simp[W3] at h),rfl⟩
theorem law_calls {f:FuncId}{xs:List AV}{vs:Array Value}{w:World}(h:XB γ Zl f xs st0 (λv _=>v=.bool true) λ_ _=>False)(hg:GW w)(hv:VRs (frW w) xs vs.toList) :
  Calls γ f vs w λe w'=>e=.returned (.bool true)/\w'.os=w.os/\w'.tape=w.tape/\w'.output=w.output/\w.heap.size<=w'.heap.size/\∀ k,k<w.heap.size->w'.heap[k]? = w.heap[k]?:=by
 have h2:=CW.calls Zt (jfa KQ) jmk (K:=λv _=>v=.bool true) h.cb (jop hg) hv;refine Calls.mono h2 λe w' ⟨v,x,st',he,hK,ι',_,hv,_,hg,_⟩=>?_;rw[hK] at hv;simp only[VR] at hv;rw[hv] at he;exact⟨he,hg.os,hg.tape,hg.output,hg.size,λk hk=>hg.keep k hk (λb S e=>by cases e)⟩
theorem gw_mk {w : World} (h0 : Lib.TabIs γ w "internal/strconv.uint64pow10" .u64 Lib.pow10Tab) (h2 : ∃ te pe, w.cell? ⟨2, 0, none⟩ = some (.iface te pe)) : GW w := by
 have g0 : Tryz.prog.globalNamed "internal/strconv.uint64pow10" = some 0 := by kernel_rfl
 refine⟨?_,h2⟩;unfold Lib.TabIs World.var? at h0;simp only[g0,QaX] at h0;cases e:w.heap[0]? with
 |none=>simp[e] at h0
 |some o=>
  rw[e] at h0;cases o with
  |cells c t f=>
   simp at h0;exact⟨t,f,by rw[h0];rfl⟩
  |_=>simp at h0
end Go.Sy
end
