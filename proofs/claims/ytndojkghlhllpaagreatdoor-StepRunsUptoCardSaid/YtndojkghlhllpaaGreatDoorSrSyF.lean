/-
  Contracts: the code lowered, what it does told by rules, and the contracts of the functions that the law reaches.
-/
import Derived.Test.YtndojkghlhllpaaGreatDoorSrSyE
import Derived.Shelf.LaysC
import Derived.Shelf.Strconv.ParseIntPublic10
import Derived.Test.YtndojkghlhllpaaGreatDoorProg
import Derived.Shelf.RegionOpenPlain
import Derived.WalkKit
import Derived.Deep.LoopGhost
import Derived.Lib.Walk
import Derived.Lib.SliceRun
import Derived.KernelRfl
set_option linter.unusedVariables false
set_option linter.unusedSimpArgs false
open Nat renaming reduceAdd → γ, reduceSub → δ, reduceMul → ζ, reduceBEq → θ, le_refl → τ, le_trans → Qab, zero_le → Qae, zero_add → Qak, le_max_left → Qar, le_max_right → Qas, lt_or_ge → Qau, not_lt_zero → Qaw, lt_of_lt_of_le → Qax, mul_le_mul_right → Qaz, add_mul → QaH, sub_zero → QaL, zero_mul → QaN, succ_pos → QaR, succ_mul → QaT, le_of_eq → QaU, lt_irrefl → Qbb, mul_one → Qbg, ne_of_lt → Qbk, add_assoc → Qbl, lt_succ_self → Qbo, add_zero → Qbq, mod_eq_of_lt → Qbt, one_mul → Qbv, add_comm → Qbw, succ_lt_succ → QbA, min_eq_left → QbD, le_of_lt → QbK, lt_trichotomy → Qcf, le_succ_of_le → Qcn, beq → Qcr, succ → Qcs, ble → Qct, add → Qcu, mul → Qcv, sub → Qcw
open Go.Proofs.Tryz renaming prog → ε
open Int renaming reduceToNat → η, natCast_zero → φ, zero_add → χ, ofNat → Qay, eq_ofNat_of_zero_le → Qbx, natCast_nonneg → QbS, toNat_natCast → QbZ
open List renaming map_cons → κ, map_nil → μ, getD_cons_zero → ν, getD_cons_succ → ξ, length_cons → υ, length_append → ψ, length_nil → ω, getElem_mem → Qac, getD → Qad, take_length → Qaf, cons_append → Qag, range' → Qah, getElem?_eq_getElem → Qai, all_eq_true → Qaj, nil_append → Qal, getD_eq_getElem?_getD → Qam, range → Qan, length_map → Qap, cons → Qaq, length_take → Qat, mem_append → Qav, length_drop → QaD, all_cons → QaF, take_zero → QaG, append_assoc → QaI, mem_map → QaJ, mem_cons → QaS, eq_nil_of_length_eq_zero → QaV, append_nil → QaW, all_append → QaX, map_congr_left → QaY, drop_zero → Qba, length_set → Qbc, map_map → Qbd, map_append → Qbf, mem_singleton → Qbh, ext_getElem → Qbi, range'_succ → Qbj, foldl_append → Qbm, mem_range → Qbn, take_append_drop → Qbp, drop_drop → Qbr, mem_iff_getElem → Qbs, getElem_cons_zero → Qby, length_pos_iff → QbB, getElem?_take → QbC, getElem?_map → QbH, map_toArray → QbI, getElem_cons_succ → QbL, getElem_cons_drop → QbM, drop_length → QbN, getElem?_drop → QbO, mem_of_mem_take → QbP, take_take → QbQ, foldr_cons → QbT, take_add_one → QbU, mem_cons_of_mem → QbW, any_eq_false → QbX, length_eq_zero_iff → QbY, flatMap_cons → Qcb, getElem?_append_left → Qcc, getElem?_append_right → Qcd, mem_append_left → Qch, countP_singleton → Qci, take_succ_cons → Qcj, drop_eq_getElem_cons → Qck, take_of_length_le → Qcl
open Bool renaming and_eq_true → Qaa, eq_iff_iff → QaA, or_eq_true → QaE, not_eq_true' → QaO, false_eq_true → QaP, true_and → QaQ, true_eq_false → Qbz, or_eq_false_iff → QbF, not_true → QbG, and_eq_false_iff → QbR, eq_false_iff → Qcm
open Array renaming length_toList → Qao, getElem?_eq_some_iff → QaB, replicate → QaK, toList_map → Qbu, getElem?_toList → QbJ, getD_eq_getD_getElem? → QbV, toList_append → Qce, mem_toList_iff → Qcg, getElem?_eq_getElem → Qco, getElem?_setIfInBounds_ne → Qcp
open Option renaming map_some → QaC, getD_some → QaM, bind_some → QaZ, map_none → Qbe, map_eq_some_iff → QbE, isSome_iff_exists → Qcq
open Function renaming comp_def → Qca
noncomputable section
set_option maxRecDepth 100000
namespace Go.Sy
open Go.Ev Go.Proofs
variable {base:Bs}
set_option maxHeartbeats 4000000 in
theorem jlI (hb:NB base)(m:ModT)(hm:m.vars.length<=1000000)(sv:SvT)(hs:sv.length<=1099511627776):PL ε base 26 [.agg (mdE m),svV sv] (.ok (.bool (ZX m sv))):=by
 have E:=λst K Kp=>(Wx hb m sv hm hs).pa (by unfold svV;simp[pa,pc,zC,yb]) (λst=>hb.no 25 dc _ _) st K Kp;unfold svV at *;refine zg jtk (by rfl) (hb.pur 26 5 dc) rfl ?_;simp only[joY,jt,κ,μ,ν,ξ];rw[(by unfold jjB;simp only[qq];rfl:jjB=_)];cases h1:qg m.vars sv with
 |false=>
  rw[h1] at E;repeat'(first|apply jc<;>intro _|simp(disch:=first|exact dzG|fail) only[E,Jl,r11,γ,δ,ζ,η,θ])
  all_goals exact G0.v (by unfold ZX;rw[h1];rfl) rfl
 |true=>
  rw[h1] at E;have hl:=(yu.1 h1).1;repeat'(first|apply jc<;>intro _|simp(disch:=first|exact dzG|fail) only[E,Jl,r11,γ,δ,ζ,η,θ])
  refine jZ m.vars.length (λk L st=>(∀ j (h1:j<m.vars.length) (h2:j<sv.length),j<k->m.vars[j].beg=true->sv[j]=m.vars[j].first)/\1<=st.nx/\Has L 1 (.lst sv.length (sv.map (.int .i64)))/\Has L 12 (.lst m.vars.length (fl vaE m.vars))) (by first|assumption|omega) dc (by simp(disch:=decide) only[jf,jb]) (by simp(disch:=decide) only[jf,jb]) ?_ (λk L s v h=>(by obtain⟨a1,a2,a3,a4⟩:=h;refine⟨a1,a2,?_,?_⟩<;>simp(disch:=decide) only[jb]<;>assumption)) (λk L s v h=>(by obtain⟨a1,a2,a3,a4⟩:=h;refine⟨a1,a2,?_,?_⟩<;>simp(disch:=decide) only[jb]<;>assumption)) (λk L s hk hI hi hn=>?_) (λL s hI=>?_)
  ·refine⟨λj h1 h2 hj=>absurd hj (Qaw _),by(first|omega|(simp only[ji,jo,ju,jr,jq];first|done|omega)),?_,?_⟩<;>simp(disch:=decide) only[jb,jf]
  ·obtain⟨h0,n1,i1,i12⟩:=hI;have hks:k<sv.length:=om
   cases hbg:m.vars[k].beg with
   |false=>
    repeat'(first|apply jc<;>intro _|simp(disch:=first|exact dzG|fail) only[ja i1,ja i12,ja hi,ja hn,Jt,hbg,r11,γ,δ,ζ,η,θ])
    refine⟨⟨λj h1 h2 hj hb2=>?_,om,?_,?_⟩,?_,?_⟩
    ·by_cases e:j=k
     ·subst e;rw[hbg] at hb2;cases hb2
     ·exact h0 j h1 h2 om hb2
    all_goals(simp(disch:=decide) only[jb];assumption)
   |true=>
    by_cases hq:sv[k]=m.vars[k].first
    ·have hq2:=hq;repeat'(first|apply jc<;>intro _|simp(disch:=first|exact dzG|fail) only[ja i1,ja i12,ja hi,ja hn,Jt,hbg,hq,r11,γ,δ,ζ,η,θ])
     refine⟨⟨λj h1 h2 hj hb2=>?_,om,?_,?_⟩,?_,?_⟩
     ·by_cases e:j=k
      ·subst e;exact hq
      ·exact h0 j h1 h2 om hb2
     all_goals(simp(disch:=decide) only[jb];assumption)
    ·have hq':¬ m.vars[k].first=sv[k]:=λe=>hq e.symm
     repeat'(first|apply jc<;>intro _|simp(disch:=first|exact dzG|fail) only[ja i1,ja i12,ja hi,ja hn,Jt,hbg,hq,hq',r11,γ,δ,ζ,η,θ])
     exact G0.v (congrArg AV.bool (G3 h1 hk hks hbg hq).symm) rfl
  ·obtain⟨h0,n1,i1,i12⟩:=hI;repeat'(first|apply jc<;>intro _|simp(disch:=first|exact dzG|fail) only[r11,γ,δ,ζ,η,θ])
   exact G0.v (congrArg AV.bool ((Wv h1).2 λi h1 h2=>h0 i h1 h2 h1).symm) rfl
set_option maxHeartbeats 4000000 in
theorem jgx (hb:NB base)(m:ModT)(hm:m.vars.length<=1000000)(sv:SvT)(hs:sv.length<=1099511627776):Tot base 20 [.agg (mdE m),svV sv] (.bool (ZX m sv)):=by
 refine hb.tot ?_ (by unfold svV;simp[pa,pc,zC,yb]) rfl;have E:=Xt hb m sv hm hs;unfold svV at *;refine jE jtn (by rfl) (hb.pur 20 1 dc) ?_;simp only[jo1,jt,κ,μ,ν,ξ];rw[(by unfold jjE;simp only[qq];rfl:jjE=_)];cases h1:qg m.vars sv with
 |false=>
  rw[h1] at E;repeat'(first|apply jc<;>intro _|simp(disch:=first|exact dzG|fail) only[E,Jl,r11,γ,δ,ζ,η,θ])
  all_goals exact G0.v (by unfold ZX;rw[h1];rfl) rfl
 |true=>
  rw[h1] at E;have hl:=(yu.1 h1).1;repeat'(first|apply jc<;>intro _|simp(disch:=first|exact dzG|fail) only[E,Jl,r11,γ,δ,ζ,η,θ])
  refine jZ m.vars.length (λk L st=>(∀ j (h1:j<m.vars.length) (h2:j<sv.length),j<k->m.vars[j].beg=true->sv[j]=m.vars[j].first)/\1<=st.nx/\Has L 1 (.lst sv.length (sv.map (.int .i64)))/\Has L 12 (.lst m.vars.length (fl vaE m.vars))) (by first|assumption|omega) dc (by simp(disch:=decide) only[jf,jb]) (by simp(disch:=decide) only[jf,jb]) ?_ (λk L s v h=>(by obtain⟨a1,a2,a3,a4⟩:=h;refine⟨a1,a2,?_,?_⟩<;>simp(disch:=decide) only[jb]<;>assumption)) (λk L s v h=>(by obtain⟨a1,a2,a3,a4⟩:=h;refine⟨a1,a2,?_,?_⟩<;>simp(disch:=decide) only[jb]<;>assumption)) (λk L s hk hI hi hn=>?_) (λL s hI=>?_)
  ·refine⟨λj h1 h2 hj=>absurd hj (Qaw _),by(first|omega|(simp only[ji,jo,ju,jr,jq];first|done|omega)),?_,?_⟩<;>simp(disch:=decide) only[jb,jf]
  ·obtain⟨h0,n1,i1,i12⟩:=hI;have hks:k<sv.length:=om
   cases hbg:m.vars[k].beg with
   |false=>
    repeat'(first|apply jc<;>intro _|simp(disch:=first|exact dzG|fail) only[ja i1,ja i12,ja hi,ja hn,Jt,hbg,r11,γ,δ,ζ,η,θ])
    refine⟨⟨λj h1 h2 hj hb2=>?_,om,?_,?_⟩,?_,?_⟩
    ·by_cases e:j=k
     ·subst e;rw[hbg] at hb2;cases hb2
     ·exact h0 j h1 h2 om hb2
    all_goals(simp(disch:=decide) only[jb];assumption)
   |true=>
    by_cases hq:sv[k]=m.vars[k].first
    ·have hq2:=hq;repeat'(first|apply jc<;>intro _|simp(disch:=first|exact dzG|fail) only[ja i1,ja i12,ja hi,ja hn,Jt,hbg,hq,r11,γ,δ,ζ,η,θ])
     refine⟨⟨λj h1 h2 hj hb2=>?_,om,?_,?_⟩,?_,?_⟩
     ·by_cases e:j=k
      ·subst e;exact hq
      ·exact h0 j h1 h2 om hb2
     all_goals(simp(disch:=decide) only[jb];assumption)
    ·have hq':¬ m.vars[k].first=sv[k]:=λe=>hq e.symm
     repeat'(first|apply jc<;>intro _|simp(disch:=first|exact dzG|fail) only[ja i1,ja i12,ja hi,ja hn,Jt,hbg,hq,hq',r11,γ,δ,ζ,η,θ])
     exact G0.v (congrArg AV.bool (G3 h1 hk hks hbg hq).symm) rfl
  ·obtain⟨h0,n1,i1,i12⟩:=hI;repeat'(first|apply jc<;>intro _|simp(disch:=first|exact dzG|fail) only[r11,γ,δ,ζ,η,θ])
   exact G0.v (congrArg AV.bool ((Wv h1).2 λi h1 h2=>h0 i h1 h2 h1).symm) rfl
end Go.Sy
end
noncomputable section
set_option maxRecDepth 100000
namespace Go.Sy
open Go.Ev Go.Proofs
variable {base:Bs}
set_option maxHeartbeats 8000000 in
theorem jnh (hb:NB base)(m:ModT){enums:List EnumT}(hm:m.vars.length<=1000000)(mv:MoveT)(K:MoveK m.vars enums mv)(sv:SvT)(hs:sv.length<=1000000000000) :
  Tot base 50 [.agg (mdE m),.agg (moE mv),svV sv] (.bool (Jz m.vars mv sv)):=by
 refine hb.tot ?_ (by unfold svV;simp[pa,pc,zC,Za,yb]) rfl;have E1:=Xt hb m sv hm om;have fW:=jbW (Cl.new (nw st0 (mdE m)) (moE mv));have f1:(nw st0 (mdE m)).nx=1:=rfl;rw[f1] at fW;have hd:Jz m.vars mv sv=(qg m.vars sv && decide (yT sv mv.when=1) && mv.acts.all (inB m.vars sv)):=rfl;have hal:=K.len;unfold svV at *;refine jE js6 (by rfl) (hb.pur 50 1 dc) ?_;simp only[joK,jt,κ,μ,ν,ξ];rw[(by unfold jjn;simp only[qq];rfl:jjn=_)];cases h1:qg m.vars sv with
 |false=>
  rw[h1] at E1 hd;repeat'(first|apply jc<;>intro _|simp(disch:=first|exact dzG|fail) only[fW,E1,r11,γ,δ,ζ,η,θ])
  all_goals exact G0.v (by rw[hd];rfl) rfl
 |true=>
  have hl:=(yu.1 h1).1;rw[h1] at E1 hd;have E3:=vq hb sv om mv.when K.when.sz (by rw[hl];exact K.when.numb);unfold svV at E3;by_cases h3:yT sv mv.when=1
  ·rw[h3] at E3;rw[decide_eq_true h3,QaQ,QaQ] at hd;repeat'(first|apply jc<;>intro _|simp(disch:=first|exact dzG|fail) only[fW,E1,E3,r11,γ,δ,ζ,η,θ])
   refine jZ mv.acts.length (λk L s=>(mv.acts.take k).all (inB m.vars sv)=true/\2<=s.nx/\Cl s 0 (mdE m)/\Has L 2 (.lst sv.length (sv.map (.int .i64)))/\Has L 3 (.ptr 0 0)/\Has L 22 (.lst mv.acts.length (fl seE mv.acts))) (by first|assumption|omega) dc (by simp(disch:=decide) only[jf,jb]) (by simp(disch:=decide) only[jf,jb]) ?_ (λk L s v h=>(by obtain⟨a1,a2,a3,a4,a5,a6⟩:=h;refine⟨a1,a2,a3,?_,?_,?_⟩<;>simp(disch:=decide) only[jb]<;>assumption)) (λk L s v h=>(by obtain⟨a1,a2,a3,a4,a5,a6⟩:=h;refine⟨a1,a2,a3,?_,?_,?_⟩<;>simp(disch:=decide) only[jb]<;>assumption)) (λk L s hk hI hi hn=>?_) (λL s hI=>?_)
   ·refine⟨rfl,by(first|omega|(simp only[ji,jo,ju,jr,jq];first|done|omega)),by(first|exact cyG|fail),?_,?_,?_⟩<;>simp(disch:=decide) only[jb,jf]
   ·obtain⟨a0,n2,C0,i2,i3,i22⟩:=hI;have ka:=K.acts _ (Qac hk);have E18:=vq hb sv om mv.acts[k].to ka.2.2.sz (by rw[hl];exact ka.2.2.numb);unfold svV at E18;have hS:=jbc (p:=inB m.vars sv) hk;rw[a0,QaQ] at hS;have gv0:=ka.1;have gv1:=ka.2.1;have hz:mv.acts[k].var.toNat<m.vars.length:=om
    have hin:inB m.vars sv mv.acts[k]=(decide (m.vars[mv.acts[k].var.toNat].lo<=yT sv mv.acts[k].to) && decide (yT sv mv.acts[k].to<=m.vars[mv.acts[k].var.toNat].hi)):=by
     unfold inB;rw[Qam,Qai hz];rfl
    have hno:inB m.vars sv mv.acts[k]=false->mv.acts.all (inB m.vars sv)=false:=λh=>List.all_eq_false.2 ⟨_,Qac hk,by rw[h];decide⟩;generalize yT sv mv.acts[k].to=n at E18 hin
    (have zz:=C0.r;(repeat'(first|apply jc<;>intro _|simp(disch:=first|exact jY|fail) only[ja i2,ja i3,ja i22,ja hi,ja hn,uW,E18,C0.q,C0.r,r11,γ,δ,ζ,η,θ]));all_goals clear zz)
    all_goals first
     |(refine G0.v ?_ rfl;rw[hd,hno (by rw[hin,QbR,decide_eq_false_iff_not,decide_eq_false_iff_not];omega)];done)
     |(refine⟨⟨by rw[hS,hin,Qaa,decide_eq_true_eq,decide_eq_true_eq];omega,om,(C0.nw _).wrO om _ _,?_,?_,?_⟩,?_,?_⟩<;>simp(disch:=decide) only[jb]<;>assumption)
   ·obtain⟨a0,n2,C0,i2,i3,i22⟩:=hI;rw[Qaf] at a0;repeat'(first|apply jc<;>intro _|simp(disch:=first|exact dzG|fail) only[r11,γ,δ,ζ,η,θ])
    exact G0.v (by rw[hd,a0]) rfl
  ·rw[decide_eq_false h3] at hd;repeat'(first|apply jc<;>intro _|simp(disch:=first|exact dzG|fail) only[fW,E1,E3,h3,r11,γ,δ,ζ,η,θ])
   all_goals first|exact G0.v (by rw[hd];simp) rfl
theorem joF (hb:NB base)(m:ModT)(M:ModK m)(hm:m.vars.length<=1000000)(sv t:SvT)(hs:sv.length<=1000000000000)(ht:t.length<=1000000000000) :
  Tot base 31 [.agg (mdE m),svV sv,svV t] (.bool (decide (t∈zo m sv))):=by
 rw[jlj M];refine hb.tot ?_ (by unfold svV;simp[pa,pc,zC,yb]) rfl;have E1:=Xt hb m sv hm om;have EC:=λ(mv:MoveT) (hv:mv∈m.moves)=>jnh hb m hm mv (M.moves mv hv) sv hs;have EB:=λ(mv:MoveT) (hv:mv∈m.moves)=>jup hb m hm mv (M.moves mv hv) (M.moves mv hv).when.sz (λa ha=>((M.moves mv hv).acts a ha).2.2.sz) sv t hs ht;have EE:=jf6 hb sv t om om;have hml:=M.len;obtain⟨vs,hvs⟩:∃ vs,vs=svV sv:=⟨_,rfl⟩;obtain⟨vt,hvt⟩:∃ vt,vt=svV t:=⟨_,rfl⟩;rw[<-hvs] at E1;rw[<-hvs,<-hvt] at EE;simp only[<-hvs,<-hvt] at EC EB;rw[<-hvs,<-hvt];have hd:jlk m sv t=(qg m.vars sv && ((m.moves.any λmv=>Jz m.vars mv sv && byM m.vars mv sv t) ||(!(m.moves.any λmv=>Jz m.vars mv sv) && decide (sv=t)))):=rfl;refine jE jtf (by rfl) (hb.pur 31 1 dc) ?_;simp only[joT,jt,κ,μ,ν,ξ];rw[(by unfold jjw;simp only[qq];rfl:jjw=_)];cases h1:qg m.vars sv with
 |false=>
  rw[h1] at E1 hd;repeat'(first|apply jc<;>intro _|simp(disch:=first|exact dzG|fail) only[E1,r11,γ,δ,ζ,η,θ])
  all_goals exact G0.v (by rw[hd];rfl) rfl
 |true=>
  rw[h1] at E1 hd;rw[QaQ] at hd;repeat'(first|apply jc<;>intro _|simp(disch:=first|exact dzG|fail) only[E1,r11,γ,δ,ζ,η,θ])
  unfold mdE at EC EB;refine jZ m.moves.length (λk L s=>(((m.moves.take k).any λmv=>Jz m.vars mv sv && byM m.vars mv sv t)=false/\Has L 7 (.bool (!((m.moves.take k).any λmv=>Jz m.vars mv sv))))/\1<=s.nx/\Cl s 0 (mdE m)/\Has L 1 vs/\Has L 2 vt/\Has L 3 (.ptr 0 0)/\Has L 15 (.lst m.moves.length (fl moE m.moves))) (by first|assumption|omega) dc (by simp(disch:=decide) only[jf,jb]) (by simp(disch:=decide) only[jf,jb]) ?_ (λk L s v h=>(by obtain⟨⟨a0,a1⟩,a2,a3,a4,a5,a6,a7⟩:=h;refine⟨⟨a0,?_⟩,a2,a3,?_,?_,?_,?_⟩<;>simp(disch:=decide) only[jb]<;>assumption)) (λk L s v h=>(by obtain⟨⟨a0,a1⟩,a2,a3,a4,a5,a6,a7⟩:=h;refine⟨⟨a0,?_⟩,a2,a3,?_,?_,?_,?_⟩<;>simp(disch:=decide) only[jb]<;>assumption)) (λk L s hk hI hi hn=>?_) (λL s hI=>?_)
  ·refine⟨⟨rfl,?_⟩,by(first|omega|(simp only[ji,jo,ju,jr,jq];first|done|omega)),by(first|exact cyG|fail),?_,?_,?_,?_⟩;all_goals(simp(disch:=decide) only[jb,jf,QaG,List.any_nil,Bool.not_false])
  ·obtain⟨⟨a0,i7⟩,n1,C0,i1,i2,i3,i15⟩:=hI;have EC:=EC _ (Qac hk);have EB:=EB _ (Qac hk);have s1:=jnb (p:=λmv=>Jz m.vars mv sv) hk;have s2:=jnb (p:=λmv=>Jz m.vars mv sv && byM m.vars mv sv t) hk;rw[a0,Bool.false_or] at s2;have hyes:(Jz m.vars m.moves[k] sv && byM m.vars m.moves[k] sv t)=true->(m.moves.any λmv=>Jz m.vars mv sv && byM m.vars mv sv t)=true:=λh=>List.any_eq_true.2 ⟨_,Qac hk,h⟩;rw[s1,s2];cases hc:Jz m.vars m.moves[k] sv with
   |false=>
    rw[hc] at EC
    (have zz:=C0.r;(repeat'(first|apply jc<;>intro _|simp(disch:=first|exact jY|fail) only[ja i1,ja i2,ja i3,ja i7,ja i15,ja hi,ja hn,EC,C0.q,C0.r,r11,γ,δ,ζ,η,θ]));all_goals clear zz)
    refine⟨⟨⟨rfl,?_⟩,om,(C0.nw _).wrO om _ _,?_,?_,?_,?_⟩,?_,?_⟩
    ·rw[Bool.or_false];simp(disch:=decide) only[jb];assumption
    all_goals(simp(disch:=decide) only[jb];assumption)
   |true=>
    rw[hc] at EC hyes;rw[QaQ] at hyes;cases hq:byM m.vars m.moves[k] sv t with
    |false=>
     rw[hq] at EB
     (have zz:=C0.r;(repeat'(first|apply jc<;>intro _|simp(disch:=first|exact jY|fail) only[ja i1,ja i2,ja i3,ja i7,ja i15,ja hi,ja hn,EC,EB,C0.q,C0.r,r11,γ,δ,ζ,η,θ]));all_goals clear zz)
     refine⟨⟨⟨rfl,?_⟩,om,(C0.nw _).wrO om _ _,?_,?_,?_,?_⟩,?_,?_⟩
     ·rw[Bool.or_true];simp(disch:=decide) only[jb,jf,QbG]
     all_goals(simp(disch:=decide) only[jb];assumption)
    |true=>
     rw[hq] at EB
     (have zz:=C0.r;(repeat'(first|apply jc<;>intro _|simp(disch:=first|exact jY|fail) only[ja i1,ja i2,ja i3,ja i7,ja i15,ja hi,ja hn,EC,EB,C0.q,C0.r,r11,γ,δ,ζ,η,θ]));all_goals clear zz)
     exact G0.v (by rw[hd,hyes hq];rfl) rfl
  ·obtain⟨⟨a0,i7⟩,n1,C0,i1,i2,i3,i15⟩:=hI;rw[Qaf] at a0 i7;rw[a0,Bool.false_or] at hd;generalize (m.moves.any λmv=>Jz m.vars mv sv)=q at i7 hd;cases q
   ·repeat'(first|apply jc<;>intro _|simp(disch:=first|exact dzG|fail) only[ja i1,ja i2,ja i7,EE,r11,γ,δ,ζ,η,θ])
    exact G0.v (by rw[hd];rfl) rfl
   ·repeat'(first|apply jc<;>intro _|simp(disch:=first|exact dzG|fail) only[ja i1,ja i2,ja i7,EE,r11,γ,δ,ζ,η,θ])
    exact G0.v (by rw[hd];rfl) rfl
end Go.Sy
end
noncomputable section
set_option maxRecDepth 100000
namespace Go.Sy
open Go.Ev Go.Proofs
variable {base:Bs}
def In1 (s:St)(lo hi b0:Nat)(x:AV)(l:SvT):Prop:=x=svV l\/∃ c ex,x=.slice c 0 l.length l.length 1 ex/\Cl s c (l.map (.int .i64))/\lo<=c/\c<hi/\c≠b0
def InL (s:St)(lo hi b0:Nat):List AV->List SvT->Prop
 |[],[]=>True
 |x :: xs,l :: ls=>In1 s lo hi b0 x l/\InL s lo hi b0 xs ls
 |_,_=>False
structure ApX (lo hi:Nat)(s s':St):Prop where
 nx:s.nx<=s'.nx
 fr:s'.fr=s.fr
 cl:∀ c ds,(c<lo\/hi<=c)->Cl s c ds->Cl s' c ds
section
variable {lo hi b0:Nat} {s s':St}
theorem InL.mono {lo' hi' b1:Nat}:∀ {xs:List AV} {ls:List SvT},InL s lo hi b0 xs ls->(∀ x l,In1 s lo hi b0 x l->In1 s' lo' hi' b1 x l)->InL s' lo' hi' b1 xs ls
 |[],[],h,f=>trivial
 |x :: xs,l :: ls,h,f=>⟨f _ _ h.1,InL.mono h.2 f⟩
 |[],_ :: _,h,f=>h.elim
 |_ :: _,[],h,f=>h.elim
theorem InL.len:∀ {xs:List AV} {ls:List SvT},InL s lo hi b0 xs ls->xs.length=ls.length
 |[],[],_=>rfl
 |x :: xs,l :: ls,h=>by rw[υ,υ,InL.len h.2]
 |[],_ :: _,h=>h.elim
 |_ :: _,[],h=>h.elim
theorem InL.app {x:AV}{l:SvT}(h1:In1 s lo hi b0 x l):∀ {xs:List AV} {ls:List SvT},InL s lo hi b0 xs ls->InL s lo hi b0 (xs ++ [x]) (ls ++ [l])
 |[],[],_=>⟨h1,trivial⟩
 |y :: xs,k :: ls,h=>⟨h.1,InL.app h1 h.2⟩
 |[],_ :: _,h=>h.elim
 |_ :: _,[],h=>h.elim
theorem InL.get:∀ {xs:List AV} {ls:List SvT} {k:Nat} (hk:k<ls.length) (h:InL s lo hi b0 xs ls),In1 s lo hi b0 (xs.getD k .bad) ls[k]
 |x :: xs,l :: ls,0,_,h=>h.1
 |x :: xs,l :: ls,k+1,hk,h=>InL.get (xs:=xs) (ls:=ls) (k:=k) (by simpa using hk) h.2
 |[],_ :: _,_,_,h=>h.elim
 |_ :: _,[],k,hk,_=>absurd hk (Qaw k)
 |[],[],k,hk,_=>absurd hk (Qaw k)
theorem In1.fz {m d:Nat}{x:AV}{l:SvT}(h:In1 s lo hi b0 x l)(hm:m<=lo):FzD m (d+2) s x (svV l):=by
 rcases h with rfl|⟨c,ex,rfl,C,h1,_⟩
 ·exact FzD.pa (jhj l)
 ·refine FzD.slice C.rw_ (by simp) om ?_;rw[Qcl (by simp)];exact FzsD.pc (yb _)
theorem InL.fz {m d:Nat}(hm:m<=lo):∀ {xs:List AV} {ls:List SvT},InL s lo hi b0 xs ls->FzsD m (d+2) s xs (fl svE ls)
 |[],[],_=>FzsD.nil
 |x :: xs,l :: ls,h=>FzsD.cons (h.1.fz hm) (InL.fz hm h.2)
 |[],_ :: _,h=>h.elim
 |_ :: _,[],h=>h.elim
end
theorem jrW {b n z bytes bv xc:Nat}{s:St}{cs news:List AV}{xx:Bool}{K:AV->St->Prop}(C:Cl s b cs)(hl:cs.length=n * z)(hz:0<z)(hby:(n+1) * bytes<=140737488355328)(h63:n+1<=9223372036854775807)(hv:z<=qv s.h bv)(hr:rats s.h bv 0 z=news) :
  jp (J7 z bytes (.slice b 0 n n z true) (.slice bv 0 1 xc z xx) s) K=K (.slice s.nx 0 (n+1) (n+1) z false) (nw s (cs ++ news)):=by
 obtain⟨m,zl,zz,ks,hg⟩:=QB (h:=s.h) (b:=bv) om;rw[zb hg] at hv;have e0:Qcv 1 z=z:=Qbv z;have e1:Qct (Qcu 0 z) m=true:=qG (by show 0+z<=m;omega);have er:jQ zl zz ks z 0=news:=by
  rw[<-hr,QZ,qu];exact QaY λi _=>by rw[Qm hg]
 have el:news.length=z:=by rw[<-hr];exact J5 _ _ _ _
 have e3:Qcr (jP news) z=true:=Zk (by rw[jN,el]);obtain⟨m',zl',zz',ks',hg'⟩:=C.row;have h4l:=C.len;rw[zb hg'] at h4l;have f4:Qct (Qcu n 1) n=false:=ja9 (by show n<n+1;omega);have f5:Qct (Qcv (Qcu n 1) bytes) 140737488355328=true:=qG hby;have f6:Qct (Qcu n 1) 9223372036854775807=true:=qG h63;have e7:Qct (Qcu 0 (Qcv n z)) m'=true:=qG (by show 0+n * z<=m';omega);have e8:jQ zl' zz' ks' (Qcv n z) 0=cs:=by
  have h:=C.rats0 hl;rw[QZ] at h;rw[qu,<-h];exact QaY λi _=>by rw[Qm hg']
 have e9:yV cs news=cs ++ news:=by rw[yz]
 have e10:Qcv (Qcu n 1) z=(cs ++ news).length:=by rw[ψ,hl,el];exact QaT n z
 simp only[J7,Jk,firstCells,hg,hg',yo,jG,e0,e1,cond_true,er,q7,e3,f4,f5,f6,cond_false,e7,e8,e9,e10,St.alloc_eq,jp];rfl
def LL (lo hi:Nat)(s:St)(v:AV)(ls:List SvT):Prop:=(ls=[]/\(v=.nils\/∃ b,v=.slice b 0 0 0 1 true/\Cl s b []/\lo<=b/\b<hi))\/∃ b cs ex,v=.slice b 0 ls.length ls.length 1 ex/\ls≠[]/\Cl s b cs/\lo<=b/\b<hi/\InL s lo hi b cs ls
section
variable {lo hi:Nat} {s s':St} {v:AV} {ls:List SvT}
theorem LL.len {b:Nat}{n m:Nat}{x:Bool}(h:LL lo hi s (.slice b 0 n m 1 x) ls):n=ls.length:=by
 rcases h with ⟨rfl,h|⟨c,h,_⟩⟩|⟨c,cs,ex,h,_⟩
 ·cases h
 ·cases h;rfl
 ·cases h;rfl
theorem LL.lenV {K:AV->St->Prop}(h:LL lo hi s v ls)(st:St):jp (lenV v st) K=K (.int .i64 (ls.length:Int)) st:=by
 rcases h with ⟨rfl,rfl|⟨c,rfl,_⟩⟩|⟨c,cs,ex,rfl,_⟩<;>rfl
theorem LL.keep (h:LL lo hi s v ls){lo2 hi2:Nat}(a:ApX lo2 hi2 s s')(hh:hi<=lo2\/hi2<=lo):LL lo hi s' v ls:=by
 rcases h with ⟨rfl,rfl|⟨b,rfl,C,h1,h2⟩⟩|⟨b,cs,ex,rfl,hn,C,h1,h2,I⟩
 ·exact .inl ⟨rfl,.inl rfl⟩
 ·exact .inl ⟨rfl,.inr ⟨b,rfl,a.cl _ _ om C,h1,h2⟩⟩
 ·refine .inr ⟨b,cs,ex,rfl,hn,a.cl _ _ om C,h1,h2,I.mono λx l k=>?_⟩;rcases k with rfl|⟨c,ex,rfl,D,k1,k2,k3⟩
  ·exact .inl rfl
  ·exact .inr ⟨c,ex,rfl,a.cl _ _ om D,k1,k2,k3⟩
theorem LL.up {hi':Nat}(h:LL lo hi s v ls)(hh:hi<=hi'):LL lo hi' s v ls:=by
 rcases h with ⟨rfl,rfl|⟨b,rfl,C,h1,h2⟩⟩|⟨b,cs,ex,rfl,hn,C,h1,h2,I⟩
 ·exact .inl ⟨rfl,.inl rfl⟩
 ·exact .inl ⟨rfl,.inr ⟨b,rfl,C,h1,om⟩⟩
 ·refine .inr ⟨b,cs,ex,rfl,hn,C,h1,om,I.mono λx l k=>?_⟩;rcases k with rfl|⟨c,ex,rfl,D,k1,k2,k3⟩
  ·exact .inl rfl
  ·exact .inr ⟨c,ex,rfl,D,k1,om,k3⟩
theorem LL.down {lo':Nat}(h:LL lo hi s v ls)(hh:lo'<=lo):LL lo' hi s v ls:=by
 rcases h with ⟨rfl,rfl|⟨b,rfl,C,h1,h2⟩⟩|⟨b,cs,ex,rfl,hn,C,h1,h2,I⟩
 ·exact .inl ⟨rfl,.inl rfl⟩
 ·exact .inl ⟨rfl,.inr ⟨b,rfl,C,om,h2⟩⟩
 ·refine .inr ⟨b,cs,ex,rfl,hn,C,om,h2,I.mono λx l k=>?_⟩;rcases k with rfl|⟨c,ex,rfl,D,k1,k2,k3⟩
  ·exact .inl rfl
  ·exact .inr ⟨c,ex,rfl,D,om,k2,k3⟩
theorem ApX.nw (s:St)(ds:List AV):ApX s.nx (s.nx+1) s (nw s ds):=⟨by rw[ji];omega,WX _ _,λc cs hc C=>C.nw ds⟩
theorem ApX.wr (s:St)(b o:Nat)(vs:List AV):ApX b (b+1) s (wr s b o vs):=⟨τ _,rfl,λc cs hc C=>C.wrO om o vs⟩
theorem ApX.of {lo2:Nat}(a:ApL lo2 s s'):ApX lo2 s'.nx s s':=⟨a.nx,a.fr,λc ds hc C=>by
 rcases hc with hc|hc
 ·exact a.cl c ds hc C
 ·exact absurd C.lt (by have:=a.nx;omega)⟩
theorem LL.fzd {m d:Nat}(h:LL lo hi s v ls)(hm:m<=lo):FzD m (d+3) s v (.lst ls.length (fl svE ls)):=by
 rcases h with ⟨rfl,rfl|⟨b,rfl,C,h1,h2⟩⟩|⟨b,cs,ex,rfl,hn,C,h1,h2,I⟩
 ·exact FzD.nils
 ·exact FzD.slice C.rw_ (by simp) om FzsD.nil
 ·refine FzD.slice C.rw_ (by rw[I.len];omega) om ?_;rw[Qcl (by rw[I.len];omega)];exact I.fz hm
theorem LL.lend (h:LL lo hi s v ls):lend s.h v=some (.lst ls.length (fl svE ls)):=by
 obtain⟨ks,h1,_⟩:=h.fzd (m:=0) (d:=6) (Qae _);rcases h with ⟨rfl,rfl|⟨b,rfl,_⟩⟩|⟨b,cs,ex,rfl,_⟩
 ·rfl
 ·show(fz 9 s.h _).map (·.1)=_;rw[h1];rfl
 ·show(fz 9 s.h _).map (·.1)=_;rw[h1];rfl
theorem LL.app {bytes bv xc:Nat}{xx:Bool}{x:AV}{l:SvT}(h:LL lo hi s v ls)(C:Cl s bv [x])(hx:x=svV l\/∃ c ex,x=.slice c 0 l.length l.length 1 ex/\Cl s c (l.map (.int .i64))/\lo<=c/\hi<=c)(hl:lo<=s.nx)(hhi:hi<=s.nx)(hby:(ls.length+1) * bytes<=140737488355328)(h63:ls.length+1<=9223372036854775807) :
  ∃ v' s',(∀ K:AV->St->Prop,jp (J7 1 bytes v (.slice bv 0 1 xc 1 xx) s) K=K v' s')/\LL lo s'.nx s' v' (ls ++ [l])/\ApX lo hi s s':=by
 have hr:rats s.h bv 0 1=[x]:=by have:=C.ratsP 1 0 (by simp);simpa using this
 have hv1:1<=qv s.h bv:=by rw[C.len];exact τ 1
 have new1:∀ {s'':St},(∀ c ds,hi<=c->Cl s c ds->Cl s'' c ds)->s''.nx=s.nx+1->In1 s'' lo s''.nx s.nx x l:=λ{s''} hk hn=>by
  rcases hx with rfl|⟨c,ex,rfl,D,k0,k1⟩
  ·exact .inl rfl
  ·exact .inr ⟨c,ex,rfl,hk _ _ k1 D,by have:=D.lt;omega,by have:=D.lt;omega,Qbk D.lt⟩
 have start:∀ w,(w=v\/w=.nils)->LL lo hi s v ls->ls=[]->Lx lo hi s v .nils 0 [] 1->∃ v' s',(∀ K:AV->St->Prop,jp (J7 1 bytes v (.slice bv 0 1 xc 1 xx) s) K=K v' s')/\LL lo s'.nx s' v' (ls ++ [l])/\ApX lo hi s s':=λw _ _ e X=>by
  subst e;refine⟨apv 1 .nils s,aps .nils s (rats s.h bv 0 1),λK=>jrV X dc hby h63 hv1,?_,?_⟩
  ·rw[hr];exact .inr ⟨s.nx,[x],false,rfl,by simp,Cl.new s _,hl,by rw[jr];omega,⟨new1 (λc ds _ D=>D.nw _) (jr _ _ _),trivial⟩⟩
  ·exact⟨by rw[jr];omega,by rw[Zc],λc ds _ D=>D.nw _⟩
 have h0:=h;rcases h with ⟨e,rfl|⟨b,rfl,D,h1,h2⟩⟩|⟨b,cs,ex,rfl,hn,D,h1,h2,I⟩
 ·exact start .nils (.inl rfl) h0 e ⟨Lv.nil,.inl rfl⟩
 ·exact start _ (.inl rfl) h0 e ⟨Lv.nil,.inr ⟨rfl,b,rfl,D,h1,h2⟩⟩
 ·have fin:∀ s':St,s'.nx=s.nx+1->s'.fr=s.fr->(∀ c ds,c≠b->Cl s c ds->Cl s' c ds)->Cl s' s.nx (cs ++ [x])->LL lo s'.nx s' (.slice s.nx 0 (ls.length+1) (ls.length+1) 1 false) (ls ++ [l])/\ApX lo hi s s':=λs' en ef ek eC=>by
   refine⟨.inr ⟨s.nx,cs ++ [x],false,by simp,by simp,eC,hl,om,InL.app (new1 (λc ds hc E=>ek _ _ om E) en) (I.mono λy k q=>?_)⟩,⟨om,ef,λc ds hc E=>ek _ _ om E⟩⟩;rcases q with rfl|⟨c,ex,rfl,E,k1,k2,k3⟩
   ·exact .inl rfl
   ·exact .inr ⟨c,ex,rfl,ek _ _ k3 E,k1,by have:=E.lt;omega,Qbk E.lt⟩
  cases ex with
  |false=>
   have V:Lv lo hi s (.slice b 0 ls.length ls.length 1 false) ls.length cs 1:=.inr ⟨b,rfl,QbB.2 hn,by rw[I.len];omega,D,h1,h2⟩;refine⟨apv 1 (.slice b 0 ls.length ls.length 1 false) s,aps (.slice b 0 ls.length ls.length 1 false) s (rats s.h bv 0 1),λK=>JS V dc hby h63 hv1,?_⟩;rw[hr];exact fin _ (jr _ _ _) (Zc _ _ _) (λc ds hc E=>E.apO hc) (D.ap [x])
  |true=>
   refine⟨.slice s.nx 0 (ls.length+1) (ls.length+1) 1 false,Go.Sy.nw s (cs ++ [x]),λK=>jrW (cs:=cs) D (by rw[I.len];omega) dc hby h63 hv1 hr,?_⟩;exact fin _ rfl rfl (λc ds hc E=>E.nw _) (Cl.new s _)
end
theorem jiz:∀ {a b:List SvT},a=b↔a.length=b.length/\∀ k (h1:k<a.length) (h2:k<b.length),a[k]=b[k]:=λ{a b}=>
 ⟨λh=>by subst h;exact⟨rfl,λ_ _ _=>rfl⟩,λh=>Qbi h.1 λk h1 h2=>h.2 k h1 h2⟩
set_option maxHeartbeats 4000000 in
theorem jlK (hb:NB base)(a b:List SvT)(ha:a.length<=BIG)(hb2:b.length<=BIG)(hx:∀ x∈a,x.length<=1099511627776)(hy:∀ x∈b,x.length<=1099511627776):Tot base 24 [.lst a.length (fl svE a),.lst b.length (fl svE b)] (.bool (decide (a=b))):=by
 refine hb.tot ?_ (by simp[pa,pc,yZ Ku]) rfl;have hl:((a.length:Int)=(b.length:Int))=(a.length=b.length):=by rw[eq_iff_iff];omega
 unfold BIG at ha hb2;refine jE jtm (by rfl) (hb.pur 24 1 dc) ?_;simp only[jo0,jt,κ,μ,ν,ξ];rw[(by unfold jjD;simp only[qq];rfl:jjD=_)];repeat'(first|apply jc<;>intro _|simp(disch:=first|exact dzG|fail) only[hl,r11,γ,δ,ζ,η,θ])
 ·rename_i h;exact G0.v (congrArg AV.bool (decide_eq_false λk=>h (by rw[k])).symm) rfl
 ·rename_i h;have h:a.length=b.length:=by simpa using h
  refine jZ a.length (λk L st=>(∀ j (h1:j<a.length) (h2:j<b.length),j<k->a[j]=b[j])/\Has L 0 (.lst a.length (fl svE a))/\Has L 1 (.lst b.length (fl svE b))) (by first|assumption|omega) dc (by simp(disch:=decide) only[jf,jb]) (by simp(disch:=decide) only[jf,jb]) ?_ (λk L s v h=>by simp(disch:=decide) only[jb];exact h) (λk L s v h=>by simp(disch:=decide) only[jb];exact h) (λk L s hk hI hi hn=>?_) (λL s hI=>?_)
  ·refine⟨λj h1 h2 hj=>absurd hj (Qaw _),?_,?_⟩<;>simp(disch:=decide) only[jb,jf]
  ·obtain⟨h0,i0,i1⟩:=hI;have hks:k<b.length:=om
   have e:=jf6 hb a[k] b[k] (hx _ (Qac hk)) (hy _ (Qac hks));by_cases hq:a[k]=b[k]
   ·rw[decide_eq_true hq] at e;repeat'(first|apply jc<;>intro _|simp(disch:=first|exact dzG|fail) only[ja i0,ja i1,ja hi,ja hn,jam,e,r11,γ,δ,ζ,η,θ])
    refine⟨⟨λj h1 h2 hj=>?_,?_,?_⟩,?_,?_⟩
    ·by_cases e:j=k
     ·subst e;exact hq
     ·exact h0 j h1 h2 om
    all_goals(simp(disch:=decide) only[jb];assumption)
   ·rw[decide_eq_false hq] at e;repeat'(first|apply jc<;>intro _|simp(disch:=first|exact dzG|fail) only[ja i0,ja i1,ja hi,ja hn,jam,e,r11,γ,δ,ζ,η,θ])
    exact G0.v (congrArg AV.bool (decide_eq_false λw=>hq (by subst w;rfl)).symm) rfl
  ·obtain⟨h0,i0,i1⟩:=hI;repeat'(first|apply jc<;>intro _|simp(disch:=first|exact dzG|fail) only[r11,γ,δ,ζ,η,θ])
   exact G0.v (congrArg AV.bool (decide_eq_true (jiz.2 ⟨h,λi h1 h2=>h0 i h1 h2 h1⟩)).symm) rfl
set_option maxHeartbeats 16000000 in
theorem jlN (hb:NB base)(m:ModT)(M:ModK m)(hm:m.vars.length<=1000000)(sv:SvT)(hs:sv.length<=1000000000000):Tot base 28 [.agg (mdE m),svV sv] (.lst (zo m sv).length (fl svE (zo m sv))):=by
 refine hb.tot ?_ (by unfold svV;simp[pa,pc,zC,yb]) rfl;have E1:=Xt hb m sv hm om;have EC:=λ(mv:MoveT) (hv:mv∈m.moves)=>jnh hb m hm mv (M.moves mv hv) sv hs;have hml:=M.len;have hd:zo m sv=if qg m.vars sv=true then(if(yB m.vars sv m.moves []).length=0 then [sv] else yB m.vars sv m.moves []) else []:=rfl
 have f1:(nw st0 (mdE m)).nx=1:=rfl;have C1:Cl (nw (nw st0 (mdE m)) []) 1 []:=f1▸Cl.new (nw st0 (mdE m)) [];have L0:LL 1 2 (nw (nw st0 (mdE m)) []) (.slice 1 0 0 0 1 true) []:=.inl ⟨rfl,.inr ⟨1,rfl,C1,τ _,Qbo _⟩⟩;unfold svV at *;refine jE jti (by rfl) (hb.pur 28 1 dc) ?_;simp only[joW,jt,κ,μ,ν,ξ];rw[(by unfold jjz;simp only[qq];rfl:jjz=_)];cases h1:qg m.vars sv with
 |false=>
  rw[h1] at E1 hd;rw[if_neg dc] at hd;repeat'(first|apply jc<;>intro _|simp(disch:=first|exact dzG|fail) only[E1,r11,γ,δ,ζ,η,θ])
  all_goals
   rw[hd];exact L0.fzd (d:=6) (Qae _)
 |true=>
  have hl:=(yu.1 h1).1;rw[h1] at E1 hd;rw[if_pos rfl] at hd;repeat'(first|apply jc<;>intro _|simp(disch:=first|exact dzG|fail) only[E1,r11,γ,δ,ζ,η,θ])
  unfold mdE at EC;refine jZ m.moves.length (λk L s=>(∃ hi v ls,yB m.vars sv (m.moves.take k) []=ls/\LL 1 hi s v ls/\hi<=s.nx/\Has L 5 v)/\Cl s 0 (mdE m)/\Has L 1 (.lst sv.length (sv.map (.int .i64)))/\Has L 2 (.ptr 0 0)/\Has L 18 (.lst m.moves.length (fl moE m.moves))) (by first|assumption|omega) dc (by simp(disch:=decide) only[jf,jb]) (by simp(disch:=decide) only[jf,jb]) ?_ (λk L s v h=>(by obtain⟨⟨hi,v,ls,a1,a2,a3,a4⟩,a5,a6,a7,a8⟩:=h;refine⟨⟨hi,v,ls,a1,a2,a3,?_⟩,a5,?_,?_,?_⟩<;>simp(disch:=decide) only[jb]<;>assumption)) (λk L s v h=>(by obtain⟨⟨hi,v,ls,a1,a2,a3,a4⟩,a5,a6,a7,a8⟩:=h;refine⟨⟨hi,v,ls,a1,a2,a3,?_⟩,a5,?_,?_,?_⟩<;>simp(disch:=decide) only[jb]<;>assumption)) (λk L s hk hI hi hn=>?_) (λL s hI=>?_)
  ·refine⟨⟨2,_,[],rfl,L0,by(first|omega|(simp only[ji,jo,ju,jr,jq];first|done|omega)),?_⟩,by(first|exact cyG|fail),?_,?_,?_⟩<;>simp(disch:=decide) only[jb,jf]
  ·obtain⟨⟨h,v,ls,a1,LS,hn1,i5⟩,C0,i1,i2,i18⟩:=hI;have n0:=C0.lt;have EC:=EC _ (Qac hk);have dcn:=jcN M.vars (M.moves _ (Qac hk)) h1;have hS:=jea hk a1;have hll:ls.length<=1000000:=by
    have:=@VE m.vars sv (m.moves.take k) [];rw[a1,Qat] at this;simp at this;omega
   have hlx:∀ x∈ls,x.length=m.vars.length:=λx hx=>by
    rw[<-a1] at hx;rcases YM hx with h|⟨w,_,e⟩
    ·cases h
    ·exact(yu.1 (wM e)).1
   have K1:=M.moves _ (Qac hk);generalize hmv:m.moves[k]=mv at *;have hal:=K1.len;obtain⟨u,hu⟩:∃ u,u=Go.Sy.wr (Go.Sy.nw s [AV.int IntKind.i64 0,AV.int IntKind.i64 0,AV.str [],AV.nils,AV.int IntKind.i64 0,AV.int IntKind.i64 0,AV.nils]) s.nx 0 (moE mv):=⟨_,rfl⟩;have un:u.nx=s.nx+1:=by rw[hu];rfl
   have LU:LL 1 h u v ls:=by rw[hu];exact(LS.keep (ApX.nw s _) (.inl hn1)).keep (ApX.wr _ _ _ _) (.inl hn1)
   have CU0:Cl u 0 (mdE m):=by rw[hu];exact(C0.nw _).wrO om _ _
   have CU7:Cl u s.nx (moE mv):=by rw[hu];exact(Cl.new s _).wr0 (by rw[wB];rfl)
   cases hc:Jz m.vars mv sv with
   |false=>
    rw[hc] at EC;rw[dcn.1,hc,if_neg (λh=>by cases h.1)] at hS
    (have zz:=C0.r;(repeat'(first|apply jc<;>intro _|simp(disch:=first|exact jY|fail) only[ja i1,ja i2,ja i5,ja i18,ja hi,ja hn,hmv,EC,C0.q,C0.r,r11,γ,δ,ζ,η,θ]));all_goals clear zz)
    rw[<-hu];refine⟨⟨⟨h,v,ls,hS,LU,om,?_⟩,CU0,?_,?_,?_⟩,?_,?_⟩<;>simp(disch:=decide) only[jb]<;>assumption
   |true=>
    rw[hc] at EC;rw[dcn.1,hc,dcn.2 hc] at hS;obtain⟨v',s',e,w,q⟩:=jgs (s:=Go.Sy.nw u []) (lo:=u.nx) (hi:=u.nx+1) (bytes:=8) (z:=1) (n:=0) (cs:=[]) (cs2:=sv.map (.int .i64)) (n2:=sv.length) (v:=.slice u.nx 0 0 0 1 true) (Lw.new (s:=u) (z:=1) (τ _) (Qbo _)) (τ _) (by simp) dc om om;obtain⟨b0,ex0,rfl,_,_,C,hb0,hb1⟩:=w;rw[Qal] at C;rw[Qak] at e;have n1:=q.nx;rw[ji] at n1;have LW:LL 1 h s' v ls:=(LU.keep (ApX.nw u _) (.inl om)).keep (ApX.of q) (.inl om);have CW0:Cl s' 0 (mdE m):=q.cl 0 _ om (CU0.nw _);have CW7:Cl s' s.nx (moE mv):=q.cl _ _ om (CU7.nw _);rw[un] at e;rw[hu] at e
    (have zz:=aI C0.r @CW7.r;(repeat'(first|apply jc<;>intro _|simp(disch:=first|exact jY|fail) only[ja i1,ja i2,ja i5,ja i18,ja hi,ja hn,hmv,EC,e,C0.q,CW7.q,C0.r,CW7.r,r11,γ,δ,ζ,η,θ]));all_goals clear zz)
    refine jZ mv.acts.length (λk2 L s2=>(∃ out b ex,yN sv (mv.acts.take k2) sv=out/\out.length=sv.length/\Cl s2 b (out.map (.int .i64))/\u.nx<=b/\Has L 8 (.slice b 0 out.length out.length 1 ex))/\u.nx<=s2.nx/\LL 1 h s2 v ls/\Cl s2 0 (mdE m)/\Has L 1 (.lst sv.length (sv.map (.int .i64)))/\Has L 2 (.ptr 0 0)/\Has L 5 v/\Has L 18 (.lst m.moves.length (fl moE m.moves))/\Has L 20 (.int .i64 (k:Int))/\Has L 19 (.int .i64 (m.moves.length:Int))/\Has L 32 (.lst mv.acts.length (fl seE mv.acts))) (by first|assumption|omega) dc (by simp(disch:=decide) only[jf,jb]) (by simp(disch:=decide) only[jf,jb]) ?_ (λk L s v h=>(by obtain⟨⟨out,b,ex,a1,a2,a3,a4,a5⟩,b1,b2,b3,b4,b5,b6,b7,b8,b9,b10⟩:=h;refine⟨⟨out,b,ex,a1,a2,a3,a4,?_⟩,b1,b2,b3,?_,?_,?_,?_,?_,?_,?_⟩<;>simp(disch:=decide) only[jb]<;>assumption)) (λk L s v h=>(by obtain⟨⟨out,b,ex,a1,a2,a3,a4,a5⟩,b1,b2,b3,b4,b5,b6,b7,b8,b9,b10⟩:=h;refine⟨⟨out,b,ex,a1,a2,a3,a4,?_⟩,b1,b2,b3,?_,?_,?_,?_,?_,?_,?_⟩<;>simp(disch:=decide) only[jb]<;>assumption)) (λky Ly sy hky hIy hiy hny=>?_) (λLy sy hIy=>?_)
    ·refine⟨⟨sv,b0,ex0,rfl,rfl,C,hb0,?_⟩,om,LW,CW0,?_,?_,?_,?_,?_,?_,?_⟩;all_goals first
      |(simp(disch:=decide) only[jb,jf];done)
      |(simp(disch:=decide) only[jb];assumption)
    ·obtain⟨⟨out,b,ex,o1,o2,C2,hb2,j8⟩,m2,LY,CY0,j1,j2,j5,j18,j20,j19,j32⟩:=hIy;have ka:=K1.acts _ (Qac hky);have E18:=vq hb sv om mv.acts[ky].to ka.2.2.sz (by rw[hl];exact ka.2.2.numb);unfold svV at E18;have hS2:=jdV hky o1;have CA:Cl (Go.Sy.wr (Go.Sy.nw sy [AV.int IntKind.i64 0,AV.int IntKind.i64 0,AV.int IntKind.i64 0,AV.str [],AV.nils,AV.int IntKind.i64 0,AV.int IntKind.i64 0]) sy.nx 0 (seE mv.acts[ky])) sy.nx (seE mv.acts[ky]):=(Cl.new sy _).wr0 (by rw[Qb];rfl);have sm:=sq3 (h:=(Go.Sy.wr (Go.Sy.nw sy [AV.int IntKind.i64 0,AV.int IntKind.i64 0,AV.int IntKind.i64 0,AV.str [],AV.nils,AV.int IntKind.i64 0,AV.int IntKind.i64 0]) sy.nx 0 (seE mv.acts[ky])).h) (b:=sy.nx) (o:=0) (v:=.int .i64 mv.acts[ky].var) (by rw[CA.len,Qb];decide) ((CA.cell 0 (by rw[Qb];decide)).trans rfl) rfl;have hbn:=C2.lt;have hlen:qv sy.h b=out.length:=by rw[C2.len,Qap]
     have gv0:=ka.1;have gv1:mv.acts[ky].var<(out.length:Int):=om
     have hz:mv.acts[ky].var.toNat+1<=out.length:=om
     have LY2:LL 1 h (Go.Sy.wr (Go.Sy.wr (Go.Sy.nw sy [AV.int IntKind.i64 0,AV.int IntKind.i64 0,AV.int IntKind.i64 0,AV.str [],AV.nils,AV.int IntKind.i64 0,AV.int IntKind.i64 0]) sy.nx 0 (seE mv.acts[ky])) b mv.acts[ky].var.toNat [AV.int IntKind.i64 (yT sv mv.acts[ky].to)]) v ls:=((LY.keep (ApX.nw sy _) (.inl om)).keep (ApX.wr _ _ _ _) (.inl om)).keep (ApX.wr _ _ _ _) (.inl om);generalize yT sv mv.acts[ky].to=n at E18 hS2 LY2;repeat'(first|apply jc<;>intro _|simp(disch:=first|exact dzG|fail) only[ja j1,ja j8,ja j32,ja hiy,ja hny,uW,E18,sm,r11,γ,δ,ζ,η,θ])
     have hC2:Cl (Go.Sy.wr (Go.Sy.wr (Go.Sy.nw sy [AV.int IntKind.i64 0,AV.int IntKind.i64 0,AV.int IntKind.i64 0,AV.str [],AV.nils,AV.int IntKind.i64 0,AV.int IntKind.i64 0]) sy.nx 0 (seE mv.acts[ky])) b mv.acts[ky].var.toNat [AV.int IntKind.i64 n]) b ((out.set mv.acts[ky].var.toNat n).map (.int .i64)):=by
      rw[<-Uv _ _ _ om];exact((C2.nw _).wrO om _ _).wr _ _
     refine⟨⟨⟨_,b,ex,hS2,by rw[Qbc];exact o2,hC2,hb2,?_⟩,om,LY2,((CY0.nw _).wrO om _ _).wrO om _ _,?_,?_,?_,?_,?_,?_,?_⟩,?_,?_⟩;all_goals first
      |(simp(disch:=decide) only[jb,jf,Qbc];done)
      |(simp(disch:=decide) only[jb,Qbc];assumption)
    ·obtain⟨⟨out,b,ex,o1,o2,C2,hb2,j8⟩,m2,LY,CY0,j1,j2,j5,j18,j20,j19,j32⟩:=hIy;rw[Qaf] at o1;rw[o1] at hS;have E32:=λK Kp=>(joE hb ls (by unfold BIG;omega) out om (λx hx=>by rw[hlx x hx];omega)).xb (aZ':=[v,.slice b 0 out.length out.length 1 ex]) (st:=sy) (qK LY.lend (qK (WQ C2 (by simp) (yb _)) zJ)) (λst=>hb.no 32 dc _ _) K Kp;by_cases hin:out∈ls
     ·rw[if_neg (λh=>h.2 hin)] at hS;rw[decide_eq_true hin] at E32;repeat'(first|apply jc<;>intro _|simp(disch:=first|exact dzG|fail) only[ja j1,ja j2,ja j5,ja j8,ja j18,E32,Jl,r11,γ,δ,ζ,η,θ])
      refine⟨⟨⟨h,v,ls,hS,LY,om,?_⟩,CY0,?_,?_,?_⟩,?_,?_⟩<;>simp(disch:=decide) only[jb]<;>assumption
     ·rw[if_pos ⟨rfl,hin⟩] at hS;rw[decide_eq_false hin] at E32;obtain⟨v2,s2,e2,LN,AN⟩:=(LY.keep (ApX.nw sy [.slice b 0 out.length out.length 1 ex]) (.inl om)).app (bytes:=24) (xc:=1) (xx:=true) (Cl.new sy [.slice b 0 out.length out.length 1 ex]) (.inr ⟨b,ex,rfl,C2.nw _,om,om⟩) (by rw[ji];omega) (by rw[ji];omega) om om;repeat'(first|apply jc<;>intro _|simp(disch:=first|exact dzG|fail) only[ja j1,ja j2,ja j5,ja j8,ja j18,E32,Jl,e2,r11,γ,δ,ζ,η,θ])
      refine⟨⟨⟨s2.nx,v2,_,hS,LN,τ _,?_⟩,AN.cl 0 _ (.inl dc) (CY0.nw _),?_,?_,?_⟩,?_,?_⟩;all_goals first
       |(simp(disch:=decide) only[jb,jf];done)
       |(simp(disch:=decide) only[jb];assumption)
  ·obtain⟨⟨h,v,ls,a1,LS,hn1,i5⟩,C0,i1,i2,i18⟩:=hI;rw[Qaf] at a1;rw[a1] at hd;have eL:=λ(st:St) (K:AV->St->Prop)=>LS.lenV (K:=K) st;by_cases h0:ls.length=0
   ·have h0':(ls.length:Int)=0:=om
    rw[if_pos h0] at hd;have e0:ls=[]:=QbY.1 h0;subst e0;have n0:=C0.lt;obtain⟨v2,s2,e2,LN,AN⟩:=(LS.keep (ApX.nw s [.lst sv.length (sv.map (.int .i64))]) (.inl hn1)).app (l:=sv) (bytes:=24) (xc:=1) (xx:=true) (Cl.new s [.lst sv.length (sv.map (.int .i64))]) (.inl rfl) (by rw[ji];omega) (by rw[ji];omega) dc dc;repeat'(first|apply jc<;>intro _|simp(disch:=first|exact dzG|fail) only[ja i1,ja i2,ja i5,eL,h0',e2,r11,γ,δ,ζ,η,θ])
    rw[hd];exact LN.fzd (d:=6) (Qae _)
   ·have h0':¬ (ls.length:Int)=0:=om
    rw[if_neg h0] at hd;repeat'(first|apply jc<;>intro _|simp(disch:=first|exact dzG|fail) only[ja i1,ja i2,ja i5,eL,h0',r11,γ,δ,ζ,η,θ])
    rw[hd];exact LS.fzd (d:=6) (Qae _)
end Go.Sy
end
noncomputable section
set_option maxRecDepth 100000
namespace Go.Sy
open Go.Ev Go.Proofs
variable {base:Bs}
theorem bEq (a b:Bool)(st:St)(K:AV->St->Prop):jp (QO ε .eql 4 false (.bool a) (.bool b) st) K=K (.bool (a == b)) st:=by
 have h:QO ε .eql 4 false (.bool a) (.bool b) st=.ok (.bool (a == b)) st:=by cases a<;>cases b<;>kernel_rfl
 rw[h];rfl
theorem bNe (a b:Bool)(st:St)(K:AV->St->Prop):jp (QO ε .neq 4 false (.bool a) (.bool b) st) K=K (.bool (a != b)) st:=by
 have h:QO ε .neq 4 false (.bool a) (.bool b) st=.ok (.bool (a != b)) st:=by cases a<;>cases b<;>kernel_rfl
 rw[h];rfl
set_option maxHeartbeats 32000000 in
theorem law6_ok (hb:NB base)(h9:∀ st,base.run 9 [] st=.ok (.bool true) st)(hP:PI base)(hC:CloneP base)(src:SrcT)(sv t:SvT)(hm:szS src<=1048576)(hs:sv.length<=1048576)(ht:t.length<=1048576):XB ε base 6 [.agg (srE src),svV sv,svV t] st0 (λv _=>v=.bool true) λ_ _=>False:=by
 have E9:=λ(st:St) (K Kp:AV->St->Prop)=>Ur (P:=ε) (base:=base) (h9 st) K Kp;have E10:=jqB hb hP src (jpX hm);obtain⟨vt,hvt⟩:∃ vt,vt=svV t:=⟨_,rfl⟩;have lt:∀ (st:St) (K:AV->St->Prop),jp (lenV vt st) K=K (.int .i64 (t.length:Int)) st:=λst K=>by rw[hvt];rfl
 rw[<-hvt];unfold svV;refine Jf xs6 (by rfl) (hb.at0 6 dc dc _ _) ?_;simp only[ys6,jt,κ,μ,ν,ξ];rw[(by unfold zs6;simp only[qq];rfl:zs6=_)];cases h1:(ZN src).2 with
 |false=>
  rw[h1] at E10;repeat'(first|apply jc<;>intro _|simp(disch:=first|exact dzG|fail) only[E9,E10,r11,γ,δ,ζ,η,θ])
 |true=>
  rw[h1] at E10;obtain⟨MK,V⟩:=jkT h1;generalize (ZN src).1=m at E10 MK V;by_cases g1:40<(sv.length:Int)
  ·repeat'(first|apply jc<;>intro _|simp(disch:=first|exact dzG|fail) only[E9,E10,g1,lt,r11,γ,δ,ζ,η,θ])
  by_cases g2:40<(t.length:Int)
  ·repeat'(first|apply jc<;>intro _|simp(disch:=first|exact dzG|fail) only[E9,E10,g1,g2,lt,r11,γ,δ,ζ,η,θ])
  have B:ModB m:=⟨V.len,by have:=MK.len;omega,λv hv=>⟨(MK.moves v hv).len,(MK.moves v hv).when.sz,λa ha=>((MK.moves v hv).acts a ha).2.2.sz⟩⟩;have hml:=MK.len;obtain⟨w0,hw0⟩:∃ w0,w0=Go.Sy.wr (Go.Sy.nw (Go.Sy.nw st0.bare (srE src)) [AV.nils,AV.nils,AV.nils]) 1 0 (mdE m):=⟨_,rfl⟩;have n0:w0.nx=2:=by rw[hw0];rfl
  have f1:(Go.Sy.nw st0.bare (srE src)).nx=1:=rfl;have C0:Cl w0 1 (mdE m):=by rw[hw0];exact(f1▸Cl.new (Go.Sy.nw st0.bare (srE src)) [AV.nils,AV.nils,AV.nils]).wr0 rfl
  obtain⟨v',s1,e,w,q⟩:=jgs (s:=Go.Sy.nw w0 []) (lo:=2) (hi:=3) (bytes:=8) (z:=1) (n:=0) (cs:=[]) (cs2:=sv.map (.int .i64)) (n2:=sv.length) (v:=.slice w0.nx 0 0 0 1 true) (Lw.new (s:=w0) (z:=1) om om) (by rw[ji];omega) (by simp) dc om om;obtain⟨b0,ex0,rfl,_,_,CO,hb0,hb1⟩:=w;rw[Qal] at CO;rw[Qak,n0,hw0] at e;have C1:Cl s1 1 (mdE m):=q.cl 1 _ dc (C0.nw []);have V1s:V1 s1.nx s1 (.slice b0 0 sv.length sv.length 1 ex0) sv:=.inr ⟨b0,ex0,rfl,CO,CO.lt⟩;have E25:=λK Kp=>(Wx hb m sv V.len om).xb (st:=s1) (aZ':=[.agg (mdE m),.slice b0 0 sv.length sv.length 1 ex0]) (zU (by simp[pa,pc,zC]) (qK V1s.lend zJ)) (λst=>hb.no 25 dc _ _) K Kp;have E26:=λK Kp=>(jlI hb m V.len sv om).xb (st:=s1) (aZ':=[.agg (mdE m),.slice b0 0 sv.length sv.length 1 ex0]) (zU (by simp[pa,pc,zC]) (qK V1s.lend zJ)) (λst=>hb.no 26 dc _ _) K Kp;have E13:=Xt hb m sv V.len om;have E20:=jgx hb m V.len sv om;have E28:=jlN hb m MK V.len sv om;have hf:=@Hs m sv;have E24:=jlK hb (zo m sv) (zo m sv) (by unfold BIG;omega) (by unfold BIG;omega) (λx hx=>by rw[VD hx];have:=V.len;omega) (λx hx=>by rw[VD hx];have:=V.len;omega);rw[decide_eq_true rfl] at E24;have E30:=jjj hb hC m B sv t om om;have E31:=joF hb m MK V.len sv t om om;rw[<-hvt] at E30 E31;unfold svV at E13 E20 E28 E30 E31;unfold mdE at E25 E26 E13 E20 E28 E30 E31;generalize qg m.vars sv=r1 at E25 E13;generalize ZX m sv=r2 at E26 E20;generalize decide (t∈zo m sv)=r3 at E30 E31;have sm1:=jas (m:=m) (h:=s1.h) (b:=1) (by rw[C1.len];exact τ 3) (C1.rats0 rfl);unfold mdE at sm1;have hne:∀ r:Bool,(r != r)=false:=λr=>by cases r<;>rfl
  (have zz:=C1.r;(repeat'(first|apply jc<;>intro _|simp(disch:=first|exact jY|fail) only[E9,E10,g1,g2,lt,e,E25,E13,E26,E20,Jl,bNe,sm1,hne,C1.q,C1.r,r11,γ,δ,ζ,η,θ]));all_goals clear zz)
  refine jjg hb hC m B sv om V1s λs2 a=>?_;have C2:Cl s2 1 (mdE m):=a.cl 1 _ C1.lt C1;have CO2:=a.cl b0 _ CO.lt CO;have F:Fza s2 [.slice b0 0 sv.length sv.length 1 ex0,.lst sv.length (sv.map (.int .i64))] [.lst sv.length (sv.map (.int .i64)),.lst sv.length (sv.map (.int .i64))] [b0]:=Fza.sl CO2 (by simp) (yb _) (Fza.pa (by simp[pa,pc,yb]) .nil);have E29:=λK Kp=>(GJ hb sv sv om om).xf F (λst=>hb.no 29 dc _ _) K Kp;rw[decide_eq_true rfl] at E29;obtain⟨s3,hs3⟩:∃ s3,s3=kills [b0] s2:=⟨_,rfl⟩;rw[<-hs3] at E29;have C3:Cl s3 1 (mdE m):=by
   rw[hs3];show Cl (kl b0 s2) 1 (mdE m);rw[jT om];exact C2
  have sm2:=jas (m:=m) (h:=s2.h) (b:=1) (by rw[C2.len];exact τ 3) (C2.rats0 rfl);have sm3:=jas (m:=m) (h:=s3.h) (b:=1) (by rw[C3.len];exact τ 3) (C3.rats0 rfl);unfold mdE at sm2 sm3;clear hs3
  (have zz:=aI C2.r C3.r;(repeat'(first|apply jc<;>intro _|simp(disch:=first|exact jY|fail) only[E28,E24,E29,E30,E31,Jl,bNe,bEq,sm1,sm2,sm3,hne,C2.q,C3.q,C2.r,C3.r,r11,γ,δ,ζ,η,θ]));all_goals clear zz)
  cases r3<;>rfl
end Go.Sy
end
noncomputable section
namespace Go.Proofs
open Go.Shelf
def Tryz.laysC174_ren:Go.Shelf.Ren:=⟨λ|174=>117|247=>140|245=>141|287=>159|279=>160|280=>161|281=>162|282=>163|321=>171|322=>172|316=>173|171=>175|205=>174|243=>176|246=>177|283=>135|284=>136|285=>137|286=>138|129=>155|317=>154|318=>156|319=>157|320=>158|337=>169|338=>170|n=>n,λ|9=>9|3=>3|2=>2|75=>191|85=>192|4=>4|167=>227|5=>5|53=>122|175=>228|46=>225|168=>230|37=>125|0=>0|210=>241|21=>21|127=>245|145=>248|143=>246|171=>209|173=>212|212=>222|51=>223|20=>20|213=>224|232=>243|233=>244|80=>250|n=>n,λ|15=>1|16=>2|17=>0|18=>3|19=>4|n=>n⟩
theorem Tryz.laysC174:Go.Proofs.LaysC.n174 ε Tryz.laysC174_ren:={
 mixed:=by kernel_rfl
 f129:=Tryz.func155.trans (congrArg some (by kernel_rfl))
 f171:=Tryz.func175.trans (congrArg some (by kernel_rfl))
 f174:=Tryz.func117.trans (congrArg some (by kernel_rfl))
 f205:=Tryz.func174.trans (congrArg some (by kernel_rfl))
 f243:=Tryz.func176.trans (congrArg some (by kernel_rfl))
 f245:=Tryz.func141.trans (congrArg some (by kernel_rfl))
 f246:=Tryz.func177.trans (congrArg some (by kernel_rfl))
 f247:=Tryz.func140.trans (congrArg some (by kernel_rfl))
 f279:=Tryz.func160.trans (congrArg some (by kernel_rfl))
 f280:=Tryz.func161.trans (congrArg some (by kernel_rfl))
 f281:=Tryz.func162.trans (congrArg some (by kernel_rfl))
 f282:=Tryz.func163.trans (congrArg some (by kernel_rfl))
 f283:=Tryz.func135.trans (congrArg some (by kernel_rfl))
 f284:=Tryz.func136.trans (congrArg some (by kernel_rfl))
 f285:=Tryz.func137.trans (congrArg some (by kernel_rfl))
 f286:=Tryz.func138.trans (congrArg some (by kernel_rfl))
 f287:=Tryz.func159.trans (congrArg some (by kernel_rfl))
 f316:=Tryz.func173.trans (congrArg some (by kernel_rfl))
 f317:=Tryz.func154.trans (congrArg some (by kernel_rfl))
 f318:=Tryz.func156.trans (congrArg some (by kernel_rfl))
 f319:=Tryz.func157.trans (congrArg some (by kernel_rfl))
 f320:=Tryz.func158.trans (congrArg some (by kernel_rfl))
 f321:=Tryz.func171.trans (congrArg some (by kernel_rfl))
 f322:=Tryz.func172.trans (congrArg some (by kernel_rfl))
 f337:=Tryz.func169.trans (congrArg some (by kernel_rfl))
 f338:=Tryz.func170.trans (congrArg some (by kernel_rfl))
 t0:=Tryz.underlying0
 a0:=Tryz.isAgg0
 z0:=Tryz.sizeOf0
 v0:=Tryz.zeroValue0
 t2:=Tryz.underlying2
 a2:=Tryz.isAgg2
 z2:=Tryz.sizeOf2
 v2:=Tryz.zeroValue2
 t3:=Tryz.underlying3
 a3:=Tryz.isAgg3
 z3:=Tryz.sizeOf3
 v3:=Tryz.zeroValue3
 t4:=Tryz.underlying4
 a4:=Tryz.isAgg4
 z4:=Tryz.sizeOf4
 v4:=Tryz.zeroValue4
 t5:=Tryz.underlying5
 a5:=Tryz.isAgg5
 z5:=Tryz.sizeOf5
 v5:=Tryz.zeroValue5
 t9:=Tryz.underlying9
 a9:=Tryz.isAgg9
 z9:=Tryz.sizeOf9
 v9:=Tryz.zeroValue9
 t20:=Tryz.underlying20
 a20:=Tryz.isAgg20
 z20:=Tryz.sizeOf20
 v20:=Tryz.zeroValue20
 t21:=Tryz.underlying21
 a21:=Tryz.isAgg21
 z21:=Tryz.sizeOf21
 v21:=Tryz.zeroValue21
 t37:=Tryz.underlying125
 a37:=Tryz.isAgg125
 z37:=Tryz.sizeOf125
 v37:=Tryz.zeroValue125
 t46:=Tryz.underlying225
 a46:=Tryz.isAgg225
 z46:=Tryz.sizeOf225
 v46:=Tryz.zeroValue225
 t51:=Tryz.underlying223
 a51:=Tryz.isAgg223
 z51:=Tryz.sizeOf223
 v51:=Tryz.zeroValue223
 t53:=Tryz.underlying122
 a53:=Tryz.isAgg122
 z53:=Tryz.sizeOf122
 v53:=Tryz.zeroValue122
 t75:=Tryz.underlying191
 a75:=Tryz.isAgg191
 z75:=Tryz.sizeOf191
 v75:=Tryz.zeroValue191
 t85:=Tryz.underlying192
 a85:=Tryz.isAgg192
 z85:=Tryz.sizeOf192
 v85:=Tryz.zeroValue192
 t127:=Tryz.underlying245
 a127:=Tryz.isAgg245
 z127:=Tryz.sizeOf245
 v127:=Tryz.zeroValue245
 t143:=Tryz.underlying246
 a143:=Tryz.isAgg246
 z143:=Tryz.sizeOf246
 v143:=Tryz.zeroValue246
 t145:=Tryz.underlying248
 a145:=Tryz.isAgg248
 z145:=Tryz.sizeOf248
 v145:=Tryz.zeroValue248
 t167:=Tryz.underlying227
 a167:=Tryz.isAgg227
 z167:=Tryz.sizeOf227
 v167:=Tryz.zeroValue227
 t168:=Tryz.underlying230
 a168:=Tryz.isAgg230
 z168:=Tryz.sizeOf230
 v168:=Tryz.zeroValue230
 t171:=Tryz.underlying209
 a171:=Tryz.isAgg209
 z171:=Tryz.sizeOf209
 v171:=Tryz.zeroValue209
 t173:=Tryz.underlying212
 a173:=Tryz.isAgg212
 z173:=Tryz.sizeOf212
 v173:=Tryz.zeroValue212
 t175:=Tryz.underlying228
 a175:=Tryz.isAgg228
 z175:=Tryz.sizeOf228
 v175:=Tryz.zeroValue228
 t210:=Tryz.underlying241
 a210:=Tryz.isAgg241
 z210:=Tryz.sizeOf241
 v210:=Tryz.zeroValue241
 t212:=Tryz.underlying222
 a212:=Tryz.isAgg222
 z212:=Tryz.sizeOf222
 v212:=Tryz.zeroValue222
 t213:=Tryz.underlying224
 a213:=Tryz.isAgg224
 z213:=Tryz.sizeOf224
 t232:=Tryz.underlying243
 a232:=Tryz.isAgg243
 z232:=Tryz.sizeOf243
 v232:=Tryz.zeroValue243
 t233:=Tryz.underlying244
 a233:=Tryz.isAgg244
 z233:=Tryz.sizeOf244
 v233:=Tryz.zeroValue244
 g15:=by kernel_rfl
 g16:=by kernel_rfl
 g17:=by kernel_rfl
 g18:=by kernel_rfl
 g19:=by kernel_rfl
 t80:=Tryz.underlying250
 a80:=Tryz.isAgg250
 z80:=Tryz.sizeOf250
 v80:=Tryz.zeroValue250
 i0:=by kernel_rfl
 i2:=by kernel_rfl
 i3:=by kernel_rfl
 i4:=by kernel_rfl
 i5:=by kernel_rfl
 i9:=by kernel_rfl
 i20:=by kernel_rfl
 i21:=by kernel_rfl
 i37:=by kernel_rfl
 i46:=by kernel_rfl
 i51:=by kernel_rfl
 i53:=by kernel_rfl
 i75:=by kernel_rfl
 i80:=by kernel_rfl
 i85:=by kernel_rfl
 i127:=by kernel_rfl
 i143:=by kernel_rfl
 i145:=by kernel_rfl
 i167:=by kernel_rfl
 i168:=by kernel_rfl
 i171:=by kernel_rfl
 i173:=by kernel_rfl
 i175:=by kernel_rfl
 i210:=by kernel_rfl
 i212:=by kernel_rfl
 i232:=by kernel_rfl
 i233:=by kernel_rfl
 m15:=by kernel_rfl
 m16:=by kernel_rfl
 m17:=by kernel_rfl
 m18:=by kernel_rfl
 m19:=by kernel_rfl
 c0:=by kernel_rfl
 c2:=by kernel_rfl
 c3:=by kernel_rfl
 c4:=by kernel_rfl
 c5:=by kernel_rfl
 c9:=by kernel_rfl
 c20:=by kernel_rfl
 c21:=by kernel_rfl
 c37:=by kernel_rfl
 c46:=by kernel_rfl
 c51:=by kernel_rfl
 c53:=by kernel_rfl
 c75:=by kernel_rfl
 c80:=by kernel_rfl
 c85:=by kernel_rfl
 c127:=by kernel_rfl
 c143:=by kernel_rfl
 c145:=by kernel_rfl
 c167:=by kernel_rfl
 c168:=by kernel_rfl
 c171:=by kernel_rfl
 c173:=by kernel_rfl
 c175:=by kernel_rfl
 c210:=by kernel_rfl
 c212:=by kernel_rfl
 c213:=by kernel_rfl
 c232:=by kernel_rfl
 c233:=by kernel_rfl }
open Go.RowKit in
theorem Tryz.strconv_ParseInt_10_at64_ok (s:ByteArray)(hmax:s.size<=9223372036854775806)(v:Int)(h:Lib.parseIntB 64 s.data.toList=.ok v)(w:World) :
 Calls ε 117 #[.string s,.int .i64 10,.int .i64 64] w λe w'=>e=.returned (.tuple #[.int .i64 v,.nilIface])/\(w'=w\/∃ t,w'=Lib.bytesWorld w 5 t):=Any.strconv_ParseInt_10_at64_ok Tryz.laysC174 s hmax v h w
open Go.RowKit in
theorem Tryz.strconv_ParseInt_10_at64_range (s:ByteArray)(hlim:s.size<=281474976710656)(h:Lib.parseIntB 64 s.data.toList=.range)(ev:Value)(w:World)(hv:w.cell? ⟨2,0,none⟩=some ev)(hev:ev=.nilIface\/∃ te pe,ev=.iface te pe) :
 Calls ε 117 #[.string s,.int .i64 10,.int .i64 64] w λe w'=>∃ N,e=.returned (.tuple #[.int .i64 (Lib.intSat 64 s.data.toList),.iface 230 (.pointer (some ⟨N,0,none⟩))])/\w.heap.size<=N/\w'.heap[N]? = some (.cells #[.string ⟨#[80,97,114,115,101,73,110,116]⟩,.string s,ev] 241 (0,0))/\Below w.heap.size w w':=Any.strconv_ParseInt_10_at64_range Tryz.laysC174 s hlim h ev w hv hev
end Go.Proofs
end
noncomputable section
namespace Go.Proofs
open Go.Shelf Go.RowKit Go.Lib
set_option maxHeartbeats 1000000 in
theorem Tryz.clone_nil (n c:Nat)(w:World):Calls ε 49 #[.slice none n c] w λe w'=>e=.returned (.slice none 0 0)/\w'=w:=by
 have mixed:Tryz.prog.follows .mixedOrders=true:=by kernel_rfl
 have t3:=Tryz.underlying2;have a3:=Tryz.isAgg2;have z3:=Tryz.sizeOf2;have v3:=Tryz.zeroValue2;have t4:=Tryz.underlying4;have a4:=Tryz.isAgg4;have z4:=Tryz.sizeOf4;have v4:=Tryz.zeroValue4;have t22:=Tryz.underlying30;have a22:=Tryz.isAgg30;have z22:=Tryz.sizeOf30;have v22:=Tryz.zeroValue30;have q22:∀ (w:World) (a:Option Addr) (n c n' c':Nat),(binOp .eql 30 (.slice a n c) (.slice none n' c')).run ε w=.ok (.bool a.isNone) w:=λw a n c n' c'=>Lib.run_eql_slice_nil w _ _ a n c n' c' Tryz.underlying30
 go_enter Tryz.func49,Tryz.ntmps49
 go_wp2
 go_ret
 exact⟨rfl,rfl⟩
set_option maxHeartbeats 2000000 in
set_option maxRecDepth 100000 in
theorem Tryz.clone_zero (a:Addr)(c:Nat)(w:World):Calls ε 49 #[.slice (some a) 0 c] w λe w'=>∃ v',e=.returned v'/\w'.ownsRow w.heap.size 2 1 v' 0 []/\Below w.heap.size w w':=by
 have mixed:Tryz.prog.follows .mixedOrders=true:=by kernel_rfl
 have t3:=Tryz.underlying2;have a3:=Tryz.isAgg2;have z3:=Tryz.sizeOf2;have v3:=Tryz.zeroValue2;have t4:=Tryz.underlying4;have a4:=Tryz.isAgg4;have z4:=Tryz.sizeOf4;have v4:=Tryz.zeroValue4;have t22:=Tryz.underlying30;have a22:=Tryz.isAgg30;have z22:=Tryz.sizeOf30;have v22:=Tryz.zeroValue30;have i3:(Tryz.prog.info? 2).map (λi=>(i.zero,i.size,i.bytes))=some (some (Value.int IntKind.i64 0),1,8):=by kernel_rfl
 obtain⟨i0,hi,hz0,hz1,hz2⟩:=info_parts i3;have q22:∀ (w:World) (a:Option Addr) (n c n' c':Nat),(binOp .eql 30 (.slice a n c) (.slice none n' c')).run ε w=.ok (.bool a.isNone) w:=λw a n c n' c'=>Lib.run_eql_slice_nil w _ _ a n c n' c' Tryz.underlying30;have u22:∀ w,Sem.run ε (underlying 30) w=.ok (TypeDesc.slice 2) w:=run_underlying t22
 go_enter Tryz.func49,Tryz.ntmps49
 go_wp2_with (at_builtin;refine wpList_append_own _ rfl _ _ 30 rfl w.heap.size 2 i0 (.int .i64 0) 1 8 t22 hi hz0 hz1 hz2 rfl dc _ _ _ rfl (World.ownsRow_made w #[] 0 (τ _) (Qae _) rfl) a 0 c [] rfl rfl (by intro j u hj;simp at hj) (by intro u hu;cases hu) (by unfold maxLen;omega) om (by simp) ?_)
 intro v' w1 hown hgrow hnil
 go_wp2
 go_ret
 refine⟨v',rfl,by simpa using hown,?_⟩;exact((Below.refl _ w).alloc (τ _) _).grown hgrow (by simp) (by intro k hk;simp[Value.ownBlock] at hk;omega)
end Go.Proofs
end
noncomputable section
set_option maxRecDepth 100000
namespace Go.Sy
open Go.Ev Go.Proofs
open Go.RowKit (Below)
theorem vo:okP ε=true:=by kernel_rfl
theorem Kn:Tryz.prog.follows .mixedOrders=true:=by kernel_rfl
theorem jsF:jia (gE ε 10000000 400 9 [] st0)=true:=by kernel_rfl
def GP (l:List UInt8):Prop:=∀ c∈l,48<=c.toNat/\c.toNat<=57
theorem Hl:∀ (l:List UInt8) (acc:Nat),GP l->(acc+1) * 10 ^ l.length<=100000000->Lib.parseUintM 18446744073709551615 acc l=.ok ((l.map UInt8.toNat).foldl (λv c=>10 * v+(c - 48)) acc)
 |[],acc,_,_=>rfl
 |c :: r,acc,hd,h=>by
  have hc:=hd c (by simp);rw[υ,Nat.pow_succ] at h;have hp:1<=10 ^ r.length:=Nat.one_le_pow _ _ dc;have hacc:(acc+1) * 10<=100000000:=by
   have:(acc+1) * 10 * 1<=(acc+1) * 10 * 10 ^ r.length:=Nat.mul_le_mul_left _ hp;have e:(acc+1) * 10 * 10 ^ r.length=(acc+1) * (10 ^ r.length * 10):=by rw[Nat.mul_assoc,Nat.mul_comm 10]
   omega
  unfold Lib.parseUintM;rw[if_pos hc,if_neg om,if_neg om,Hl r _ (λd hd'=>hd d (by simp[hd']))]
  ·show _=Lib.NumEnd.ok ((r.map UInt8.toNat).foldl _ (10 * acc+(c.toNat - 48)));rw[Nat.mul_comm acc 10]
  ·refine Qab ?_ h;have e:(acc+1) * (10 ^ r.length * 10)=((acc+1) * 10) * 10 ^ r.length:=by rw[Nat.mul_comm (10 ^ r.length),Nat.mul_assoc]
   rw[e];exact Qaz _ om
theorem Ve:∀ (l:List UInt8) (acc:Nat),GP l->(∃ u,Lib.parseUintM 18446744073709551615 acc l=.ok u)\/Lib.parseUintM 18446744073709551615 acc l=.range
 |[],acc,_=>.inl ⟨acc,rfl⟩
 |c :: r,acc,hd=>by
  have hc:=hd c (by simp);unfold Lib.parseUintM;rw[if_pos hc];by_cases h1:1844674407370955162<=acc
  ·rw[if_pos h1];exact .inr rfl
  ·rw[if_neg h1];by_cases h2:18446744073709551615<acc * 10+(c.toNat - 48)
   ·rw[if_pos h2];exact .inr rfl
   ·rw[if_neg h2];exact Ve r _ λd hd'=>hd d (by simp[hd'])
theorem Hm {l:List UInt8}(hne:l≠[])(hd:GP l):Lib.parseIntB 64 l=Lib.signlessC (2 ^ 63) (Lib.parseUintM 18446744073709551615 0 l):=by
 obtain⟨c,r,rfl⟩:=List.exists_cons_of_ne_nil hne;have hc:=hd c (by simp);rw[Lib.parseIntB_plain 64 c r om om];unfold Lib.parseUintB;rw[if_neg (by simp)]
theorem jhO {l:List UInt8}(hne:l≠[])(hd:GP l)(h7:l.length<=7):Lib.parseIntB 64 l=.ok (vi (l.map UInt8.toNat):Int):=by
 have hle:10 ^ l.length<=10 ^ 7:=Nat.pow_le_pow_right dc h7;have e7:10 ^ 7=10000000:=dc
 rw[Hm hne hd,Hl l 0 hd om];have hv:=jns (s:=l.map UInt8.toNat) (n:=l.length) (by simp) h7 (λc hc=>by
  obtain⟨b,hb,rfl⟩:=QaJ.1 hc;have:=hd b hb;unfold qj;simp;omega)
 show Lib.signlessC _ (.ok (vi (l.map UInt8.toNat)))=_;generalize vi (l.map UInt8.toNat)=v at hv;unfold Lib.signlessC;simp;omega
theorem jfx {l:List UInt8}(hne:l≠[])(hd:GP l):(∃ v,Lib.parseIntB 64 l=.ok v)\/Lib.parseIntB 64 l=.range:=by
 rw[Hm hne hd];rcases Ve l 0 hd with ⟨u,h⟩|h
 ·rw[h];unfold Lib.signlessC;by_cases hu:2 ^ 63<=u
  ·right;simp only[if_pos hu]
  ·left;exact⟨u,by simp only[if_neg hu]⟩
 ·rw[h];exact .inr rfl
def jcP (s:List Nat):Bool:=decide (s≠[]) && s.all qj
theorem jcO (s:List Nat):jcP s=true↔Wc s:=by
 unfold jcP Wc;simp
def Zl:qH:=λf args st=>match args with
 |[]=>if f=9 then .ok (.bool true) st else .no
 |[.str s,.int .i64 a,.int .i64 b]=>if f=117/\a=10/\b=64/\jcP s=true/\s.length<=281474976710656 then(if s.length<=7 then .ok (.tup [.int .i64 (vi s:Int),.nilif]) st else .ok (.tup [.bad,.bad]) st) else .no
 |[.lst n cs]=>if f=49/\n=0/\cs=[] then .ok (.lst 0 []) st else .no
 |_=>.no
theorem jop (st:St):Zl 9 [] st=.ok (.bool true) st:=rfl
def Zm:Bs:=⟨Zl,jfv⟩
theorem jc7:PI Zm:=λs st hd hl=>by
 have e:Zl 117 [.str s,.int .i64 10,.int .i64 64] st=if(117=117/\(10:Int)=10/\(64:Int)=64/\jcP s=true/\s.length<=281474976710656) then(if s.length<=7 then .ok (.tup [.int .i64 (vi s:Int),.nilif]) st else .ok (.tup [.bad,.bad]) st) else .no:=rfl
 simp only[show Zm.run=Zl from rfl];rw[e,if_pos ⟨rfl,rfl,rfl,(jcO s).2 hd,hl⟩];exact⟨λh=>if_pos h,λh=>if_neg om⟩
theorem baseW_Clone:CloneP Zm:=⟨λst=>rfl,λn cs st=>by
 simp only[show Zm.run=Zl from rfl];show(if 49=49/\n+1=0/\cs=[] then ER.ok (.lst 0 []) st else .no)=.no;exact if_neg λh=>by simp at h,λc n m x st=>rfl⟩
theorem kB (f:FuncId)(args:List AV)(st:St):Zl f args st=.no\/(f=9/\args=[])\/(f=117/\∃ s,args=[.str s,.int .i64 10,.int .i64 64]/\Wc s/\s.length<=281474976710656)\/(f=49/\args=[.lst 0 []]):=by
 unfold Zl;split
 ·by_cases h:f=9
  ·exact .inr (.inl ⟨h,rfl⟩)
  ·exact .inl (if_neg h)
 ·rename_i s a b;by_cases h:f=117/\a=10/\b=64/\jcP s=true/\s.length<=281474976710656
  ·obtain⟨h1,rfl,rfl,h4,h5⟩:=h;exact .inr (.inr (.inl ⟨h1,s,rfl,(jcO s).1 h4,h5⟩))
  ·exact .inl (if_neg h)
 ·rename_i n cs;by_cases h:f=49/\n=0/\cs=[]
  ·obtain⟨h1,rfl,rfl⟩:=h;exact .inr (.inr (.inr ⟨h1,rfl⟩))
  ·exact .inl (if_neg h)
 ·exact .inl rfl
theorem jlD (f:FuncId)(args:List AV)(st:St)(h9:f≠9)(h31:f≠117)(h49:f≠49):Zl f args st=.no:=by
 rcases kB f args st with h|⟨h,_⟩|⟨h,_⟩|⟨h,_⟩
 ·exact h
 ·exact absurd h h9
 ·exact absurd h h31
 ·exact absurd h h49
theorem Qz {ι:Inj}{st:St}{w w':World}(hs:Sim ι st.h st.nx w)(b:Below w.heap.size w w'):Sim ι st.h st.nx w'/\Grew ι w ι w':=by
 have gr:Grew ι w ι w':=⟨b.os,b.tape,b.output,b.size,λk hk _=>b.block k hk,λb B S e=>.inl ⟨b,S,e⟩,λB vs h=>.inl h⟩;exact⟨⟨λc B S e=>by
  obtain⟨o,x,h1,h2,h3⟩:=hs.obj c B S e;exact⟨o,x,h1,(b.block B (hs.lt e)).trans h2,h3⟩,hs.gone,hs.inj,hs.born,hs.glob.grew gr⟩,gr⟩
theorem jlE:JP ε Zm.run:=by
 intro f args st ι w vs hs hv;simp only[show Zm.run=Zl from rfl];rcases kB f args st with h|⟨rfl,rfl⟩|⟨rfl,s,rfl,hd,hl⟩|⟨rfl,rfl⟩
 ·rw[h];trivial
 ·rw[jop];have hvs:vs = #[]:=by
   have:vs.toList=[]:=by simpa[VRs] using hv
   simpa using this
  subst hvs;have hb:Tryz.f9.body.isSome=true:=by kernel_rfl
  obtain⟨c,hc⟩:=Qcq.1 hb;refine⟨(ZB vo Tryz.func9 hc).2,Calls.mono (jkP vo (jez Kn) jsF w ⟨⟨hs.glob.1.1,λb S e=>by cases e⟩,λB vs e=>by cases e⟩) λe w' ⟨he,hos,ht,ho,hsz,hk⟩=>⟨_,he,ι,Le.refl ι,?_,?_,?_,Cleanly.refl ι st⟩⟩
  ·simp only[VR]
  ·exact(Qz hs ⟨hos,ht,ho,hsz,hk⟩).1
  ·exact(Qz hs ⟨hos,ht,ho,hsz,hk⟩).2
 ·simp only[VRs,VR] at hv;obtain⟨v1,l1,e1,⟨bs,rfl,hbs⟩,v2,l2,rfl,rfl,v3,l3,rfl,rfl,rfl⟩:=hv;have hvs:vs = #[.string bs,.int .i64 10,.int .i64 64]:=by
   cases vs;simpa using e1
  subst hvs;have hlen:bs.data.toList.length=s.length:=by rw[<-hbs,Qap]
  have hsz:bs.size=s.length:=by rw[<-hlen,Qao];rfl
  have hne:bs.data.toList≠[]:=λh=>hd.1 (by rw[<-hbs,h];rfl);have hd8:GP bs.data.toList:=λc hc=>by
   have:=hd.2 c.toNat (by rw[<-hbs];exact QaJ.2 ⟨c,hc,rfl⟩);unfold qj at this;simp at this;omega
  have hent:Ev.Enters ε 117:=by
   have hb:Tryz.f117.body.isSome=true:=by kernel_rfl
   obtain⟨c,hc⟩:=Qcq.1 hb;exact(ZB vo Tryz.func117 hc).2
  have okc:∀ v,Lib.parseIntB 64 bs.data.toList=.ok v->Calls ε 117 #[.string bs,.int .i64 10,.int .i64 64] w λe w'=>e=.returned (.tuple #[.int .i64 v,.nilIface])/\Below w.heap.size w w':=λv h=>
   (Tryz.strconv_ParseInt_10_at64_ok bs om v h w).mono λe w' ⟨he,hw⟩=>⟨he,by
    rcases hw with rfl|⟨t,rfl⟩
    ·exact⟨rfl,rfl,rfl,τ _,λ_ _=>rfl⟩
    ·exact Lib.bytesWorld_below w 5 t⟩
  have hP:=jc7 s st hd hl;simp only[show Zm.run=Zl from rfl] at hP;by_cases h7:s.length<=7
  ·rw[hP.1 h7];refine⟨hent,(okc _ (jhO hne hd8 om)).mono λe w' ⟨he,hb⟩=>⟨_,he,ι,Le.refl ι,?_,(Qz hs hb).1,(Qz hs hb).2,Cleanly.refl ι st⟩⟩;rw[hbs];simp only[VR,VRs];exact⟨_,rfl,_,_,rfl,rfl,_,_,rfl,rfl,rfl⟩
  ·rw[hP.2 om];refine⟨hent,?_⟩;have fin:∀ (x y:Value) (w':World),Below w.heap.size w w'->JC ι w st st (.tup [.bad,.bad]) (.tuple #[x,y]) w':=λx y w' hb=>by
    refine⟨ι,Le.refl ι,?_,(Qz hs hb).1,(Qz hs hb).2,Cleanly.refl ι st⟩;simp only[VR,VRs];exact⟨_,rfl,_,_,rfl,trivial,_,_,rfl,trivial,rfl⟩
   rcases jfx hne hd8 with ⟨v,h⟩|h
   ·exact(okc v h).mono λe w' ⟨he,hb⟩=>⟨_,he,fin _ _ w' hb⟩
   ·obtain⟨te,pe,hg⟩:=hs.glob.1.1;exact(Tryz.strconv_ParseInt_10_at64_range bs om h _ w hg (.inr ⟨te,pe,rfl⟩)).mono λe w' ⟨N,he,_,_,hb⟩=>⟨_,he,fin _ _ w' hb⟩
 ·have e49:Zl 49 [.lst 0 []] st=.ok (.lst 0 []) st:=rfl;rw[e49];simp only[VRs,VR] at hv;obtain⟨v1,l1,e1,⟨p,C,rfl,-,-,-⟩,rfl⟩:=hv;have hvs:vs = #[.slice p 0 C]:=by
   cases vs;simpa using e1
  subst hvs;have hb:Tryz.f49.body.isSome=true:=by kernel_rfl
  obtain⟨c,hc⟩:=Qcq.1 hb;refine⟨(ZB vo Tryz.func49 hc).2,?_⟩;cases p with
  |none=>
   refine(Tryz.clone_nil 0 C w).mono λe w' ⟨he,hw⟩=>⟨_,he,ι,Le.refl ι,?_,?_,?_,Cleanly.refl ι st⟩
   ·simp only[VR];exact⟨none,0,rfl,τ _,rfl,λh=>absurd h (Qbb _)⟩
   ·rw[hw];exact hs
   ·rw[hw];exact Grew.refl ι w
  |some a=>
   refine(Tryz.clone_zero a C w).mono λe w' ⟨v',he,ho,hb⟩=>⟨_,he,ι,Le.refl ι,?_,(Qz hs hb).1,(Qz hs hb).2,Cleanly.refl ι st⟩;simp only[VR];rcases ho.2 with ⟨rfl,_⟩|⟨g,cap,cur,rfl,_⟩
   ·exact⟨none,0,rfl,τ _,rfl,λh=>absurd h (Qbb _)⟩
   ·exact⟨_,cap,rfl,Qae _,rfl,λh=>absurd h (Qbb _)⟩
end Go.Sy
end
noncomputable section
set_option maxRecDepth 100000
namespace Go.Sy
open Go.Ev Go.Proofs
theorem jnn {ι:Inj}:∀ {cs:List AV} {v:Value},VRs ι cs v.cells.toList->2<=cs.length->VR ι (.agg cs) v
 |a :: b :: r,v,h,_=>by
  cases v;case agg c=>exact⟨c,rfl,h⟩
  all_goals
   exfalso;obtain⟨v1,l1,e1,_,v2,l2,e2,_⟩:=h;simp[Value.cells] at e1;rw[e2] at e1;simp at e1
 |[],v,h,h2=>by simp at h2
 |[a],v,h,h2=>by simp at h2
theorem arg_src {w:World}{m:SrcT}{v:Value}(h:VRs (frW w) (srE m) v.cells.toList):VR (frW w) (.agg (srE m)) v:=jnn h (by rw[wu];decide)
theorem jes:∀ xs:List {n:Int // (Lit.int .i64 n).wf=true},fl (jcu .i64) xs=(xs.map (·.1)).map (AV.int .i64)
 |[]=>rfl
 |x :: r=>by
  have:=jes r;simp only[fl,Qcb,κ,jcu,List.singleton_append] at this ⊢;rw[this]
theorem rd_sv {H:Type}{w:World}(N:Nat):Reads H ε w (N+1) 30 1 (λs:List {n:Int // (Lit.int .i64 n).wf=true}=>[svV (s.map (·.1))]) (λs=>(s.map λ_=>1).sum+1):=by
 have h:Reads H ε w (N+1) 30 1 (λxs=>[.lst xs.length (fl (jcu .i64) xs)]) (λxs=>(xs.map λ_=>1).sum+1):=QJ dc Tryz.underlying30 (by kernel_rfl) (JL (N:=N) Tryz.underlying2 (by kernel_rfl)) (λx=>τ _);have e:(λxs:List {n:Int // (Lit.int .i64 n).wf=true}=>[AV.lst xs.length (fl (jcu .i64) xs)])=λs=>[svV (s.map (·.1))]:=funext λxs=>by rw[jes];unfold svV;rw[Qap]
 rw[e] at h;exact h
theorem sum_ones {α:Type}:∀ s:List α,(s.map λ_=>1).sum=s.length
 |[]=>rfl
 |_ :: r=>by rw[κ,List.sum_cons,sum_ones r,υ,Qbw]
theorem arg_sv {w:World}{s:List Int}{a:Option Addr}{len cap:Nat}(h:VRs (frW w) [svV s] (Value.slice a len cap).cells.toList):VR (frW w) (svV s) (.slice a len cap):=by
 obtain⟨v,l,e,h1,rfl⟩:=h;rw[show(Value.slice a len cap).cells.toList=[.slice a len cap] from rfl] at e;cases e;exact h1
theorem base4_9 (st:St):Zm.run 9 [] st=.ok (.bool true) st:=rfl
theorem base4_PI:PI Zm:=jc7
theorem base4_NB:NB Zm:=⟨λf h args st=>jlD f args st (by rintro rfl;simp[VA] at h) (by rintro rfl;simp[VA] at h) (by rintro rfl;simp[VA] at h),rfl⟩
theorem law_calls {f:FuncId}{xs:List AV}{vs:Array Value}{w:World}(h:XB ε Zm f xs st0 (λv _=>v=.bool true) λ_ _=>False)(hg:∃ te pe,w.cell? ⟨2,0,none⟩=some (.iface te pe))(hv:VRs (frW w) xs vs.toList) :
  Calls ε f vs w λe w'=>e=.returned (.bool true)/\w'.os=w.os/\w'.tape=w.tape/\w'.output=w.output/\w.heap.size<=w'.heap.size/\∀ k,k<w.heap.size->w'.heap[k]? = w.heap[k]?:=by
 have h2:=CW.calls vo (jez Kn) jlE (K:=λv _=>v=.bool true) h.cb (jnG hg) hv;refine Calls.mono h2 λe w' ⟨v,x,st',he,hK,ι',_,hv,_,hg,_⟩=>?_;rw[hK] at hv;simp only[VR] at hv;rw[hv] at he;exact⟨he,hg.os,hg.tape,hg.output,hg.size,λk hk=>hg.keep k hk (λb S e=>by cases e)⟩
end Go.Sy
end
