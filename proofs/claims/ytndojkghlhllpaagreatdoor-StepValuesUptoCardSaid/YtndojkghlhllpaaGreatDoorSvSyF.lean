/-
  Contracts: the code lowered, what it does told by rules, and the contracts of the functions that the law reaches.
-/
import Derived.Test.YtndojkghlhllpaaGreatDoorSvSyE
import Derived.Shelf.LaysC
import Derived.Shelf.Strconv.ParseIntPublic10
import Derived.Test.YtndojkghlhllpaaGreatDoorProg
import Derived.Shelf.RegionOpenPlain
import Derived.WalkKit
import Derived.Deep.LoopGhost
import Derived.Lib.Walk
import Derived.Lib.SliceRun
import Derived.KernelRfl
set_option linter.unusedVariables false
set_option linter.unusedSimpArgs false
open Int renaming reduceToNat → Qaa, natCast_zero → Qam, zero_add → Qar, ofNat → Qbi, eq_ofNat_of_zero_le → Qbv, natCast_nonneg → Qcg, toNat_natCast → Qcw
open Nat renaming reduceAdd → Qab, reduceSub → Qac, reduceMul → Qad, reduceBEq → Qae, le_refl → Qao, ble → Qap, beq → Qat, le_trans → Qav, mul → Qaw, add → QaC, succ → QaE, zero_le → QaG, le_max_right → QaI, le_max_left → QaL, mul_le_mul_right → QaM, zero_add → QaP, lt_of_lt_of_le → QaQ, lt_or_ge → QaT, not_lt_zero → Qbg, sub → Qbh, sub_zero → Qbj, zero_mul → Qbq, succ_pos → Qbt, add_mul → Qbu, succ_mul → Qbw, lt_irrefl → QbB, le_of_eq → QbG, min_eq_left → QbM, mod_eq_of_lt → QbQ, succ_lt_succ → QbS, add_assoc → QbU, add_zero → Qci, add_comm → Qcj, ne_of_lt → Qcl, le_of_lt → Qct, lt_trichotomy → Qcz, le_succ_of_le → QcA
open Go.Proofs.Tryz renaming prog → Qaf
open List renaming getD_cons_zero → Qag, getD_cons_succ → Qah, map_cons → Qai, map_nil → Qaj, length_cons → Qak, length_append → Qal, length_nil → Qan, getElem?_eq_getElem → Qas, getD_eq_getElem?_getD → Qau, getElem_mem → Qax, cons_append → Qay, all_eq_true → Qaz, take_length → QaB, nil_append → QaF, length_take → QaH, getD → QaJ, range' → QaK, range → QaN, length_map → QaR, eq_nil_of_length_eq_zero → QaS, length_drop → QaU, mem_append → QaX, append_assoc → QaY, take_zero → QaZ, cons → Qba, all_cons → Qbb, append_nil → Qbk, all_append → Qbl, take_append_drop → Qbn, mem_map → Qbp, map_congr_left → Qbr, mem_cons → Qbs, getElem_cons_zero → Qbx, getElem_cons_drop → Qby, range'_succ → QbA, drop_zero → QbC, getElem_cons_succ → QbF, mem_range → QbI, mem_singleton → QbJ, map_map → QbL, mem_iff_getElem → QbN, map_append → QbO, length_pos_iff → QbP, getElem?_take → QbT, getElem?_append_right → QbV, getElem?_map → QbW, foldl_append → QbX, mem_of_mem_take → QbY, getElem?_append_left → QbZ, mem_cons_of_mem → Qca, drop_drop → Qcb, ext_getElem → Qcc, map_toArray → Qcd, getElem?_drop → Qcf, take_add_one → Qch, countP_singleton → Qck, drop_length → Qcn, take_succ_cons → Qcp, foldr_cons → Qcr, drop_eq_getElem_cons → Qcs, take_take → Qcv, flatMap_cons → Qcy
open Bool renaming and_eq_true → Qaq, or_eq_true → QaO, eq_iff_iff → QaW, false_eq_true → Qbd, not_eq_true' → Qbf, or_eq_false_iff → Qbo, true_eq_false → QbK
open Array renaming length_toList → QaA, getElem?_eq_some_iff → QaD, replicate → Qbe, getD_eq_getD_getElem? → QbD, getElem?_toList → QbH, toList_map → QbR, getElem?_setIfInBounds_ne → Qce, mem_toList_iff → Qcm, toList_append → Qco, getElem?_eq_getElem → Qcq
open Option renaming map_some → QaV, getD_some → Qbc, bind_some → Qbm, map_none → Qbz, map_eq_some_iff → QbE, isSome_iff_exists → Qcu
open Function renaming comp_def → Qcx
noncomputable section
set_option maxRecDepth 100000
namespace Go.Sy
open Go.Ev Go.Proofs
variable {base:Bs}
theorem bEq (a b:Bool)(st:St)(K:AV->St->Prop):jk (Xh Qaf .eql 4 false (.bool a) (.bool b) st) K=K (.bool (a == b)) st:=by
 have h:Xh Qaf .eql 4 false (.bool a) (.bool b) st=.ok (.bool (a == b)) st:=by cases a<;>cases b<;>kernel_rfl
 rw[h];rfl
theorem jh7 (hb:NB base)(sv:SvT)(hs:sv.length<=1099511627776)(o n:Int)(nm:List Nat)(h:qC sv (.mk o n nm [] 0 0)=none)(hn:nm.length<=1000:=by decide)(st:St)(K Kp:AV->St->Prop):XB Qaf base 16 [.agg [.int .i64 o,.int .i64 n,.str nm,.nils,.int .i64 0,.int .i64 0],svV sv] st K Kp=K (.tup [.int .i64 0,.bool false]) st:=by
 have F:Fza st [.agg [.int .i64 o,.int .i64 n,.str nm,.nils,.int .i64 0,.int .i64 0],svV sv] [.agg (eE (.mk o n nm [] 0 0)),svV sv] []:=by
  unfold Fza;simp only[fzs];rw[show fz 9 st.h (.agg [.int .i64 o,.int .i64 n,.str nm,.nils,.int .i64 0,.int .i64 0])=some (.agg (eE (.mk o n nm [] 0 0)),[]) from rfl,gu (d:=7) (by unfold svV;simp[pa,pc,QO])];rfl
 have:=(jeN hb sv hs (.mk o n nm [] 0 0) (by unfold BIG;rw[zW];simp[Ex.kids,Ex.name,yu];omega)).xf F (λst=>hb.no 16 (by decide) _ _) K Kp;rw[h] at this;exact this
set_option maxHeartbeats 16000000 in
theorem law3_ok (hb:NB base)(h9:∀ st,base.run 9 [] st=.ok (.bool true) st)(hP:PI base)(src:SrcT)(x:Ex)(sv:SvT)(hm:szS src<=1048576)(hx:szE x<=1048576)(hs:sv.length<=1048576):XB Qaf base 3 [.agg (srE src),.agg (eE x),svV sv] st0 (λv _=>v=.bool true) λ_ _=>False:=by
 have E9:=λ(st:St) (K Kp:AV->St->Prop)=>Ga (P:=Qaf) (base:=base) (h9 st) K Kp;have E10:=jpP hb hP src (jo7 hm);have hxB:szE x<=BIG:=by unfold BIG;omega
 have E11:=wN hb x hxB;have E12:=jjh hb x hxB;have E15:=λop=>jmP hb op x hxB;obtain⟨vs,hvs⟩:∃ vs,vs=svV sv:=⟨_,rfl⟩;rw[<-hvs];refine Jv xs3 (by rfl) (hb.at0 3 (by decide) (by decide) _ _) ?_;simp only[ys3,ju,Qai,Qaj,Qag,Qah];rw[(by unfold zs3;simp only[qq];rfl:zs3=_)];cases h1:(Zz src).2 with
 |false=>
  rw[h1] at E10;repeat'(first|apply jc<;>intro _|simp(disch:=first|exact dzG|fail) only[E9,E10,je,jj,ji,jd,jm,jn,jp,jq,jo,rzZ,Qab,Qac,Qad,Qaa,Qae])
 |true=>
  rw[h1] at E10;obtain⟨MK,V⟩:=jkG h1;generalize (Zz src).1=m at E10 MK V;cases hw:zx x with
  |false=>
   rw[hw] at E11;repeat'(first|apply jc<;>intro _|simp(disch:=first|exact dzG|fail) only[E9,E10,E11,je,jj,ji,jd,jm,jn,jp,jq,jo,rzZ,Qab,Qac,Qad,Qaa,Qae])
  |true=>
   rw[hw] at E11;by_cases hd:20<ZG x
   ·repeat'(first|apply jc<;>intro _|simp(disch:=first|exact dzG|fail) only[E9,E10,E11,E12,hd,je,jj,ji,jd,jm,jn,jp,jq,jo,rzZ,Qab,Qac,Qad,Qaa,Qae])
   ·have E13:=jjd hb m sv V.len (by omega);rw[<-hvs] at E13;cases hr:QH m.vars sv with
    |false=>
     rw[hr] at E13;repeat'(first|apply jc<;>intro _|simp(disch:=first|exact dzG|fail) only[E9,E10,E11,E12,E13,hd,je,jj,ji,jd,jm,jn,jp,jq,jo,rzZ,Qab,Qac,Qad,Qaa,Qae])
    |true=>
     rw[hr] at E13;obtain⟨w1,w2⟩:yG 60 x=true/\zu 4 x=false:=by
      unfold zx at hw;simpa using hw
     have E14:=jnZ hb m V.len V.len2 V.vals x (jdy 60 x w1 w2) true;have RV:=λy t (h:Ja m.vars m.enums true x=.ok (y,t))=>jhv MK.vars hr x true y t (kG 60 x w1) h;cases he:Ja m.vars m.enums true x with
     |er a l c=>
      rw[he] at E14;have hz:¬ (a=0/\l=0/\c=0):=λh=>kH he h.1;have E14:Tot base 14 [.agg (mdE m),.agg (eE x),.bool true] (.tup [.agg (eE (.mk 0 0 [] [] 0 0)),.agg (mtE mt0),.agg [.int .i64 a,.int .i64 l,.int .i64 c]]):=E14;repeat'(first|apply jc<;>intro _|simp(disch:=first|exact dzG|fail) only[E9,E10,E11,E12,E13,E14,vS,vR,vQ,fNe,hz,hd,je,jj,ji,jd,jm,jn,jp,jq,jo,rzZ,Qab,Qac,Qad,Qaa,Qae])
     |ok w=>
      obtain⟨y,t⟩:=w;rw[he] at E14;have E14:Tot base 14 [.agg (mdE m),.agg (eE x),.bool true] (.tup [.agg (eE y),.agg (mtE t),.agg [.int .i64 0,.int .i64 0,.int .i64 0]]):=E14;have R:=RV y t he;have hyB:szE y<=BIG:=Qav R.sz hxB;have E16:=jeM hb sv (by omega) y hyB;have E17:=jn3 hb sv (by omega) y hyB;have E18:=jkD hb sv (by omega) y hyB (by rw[(Wz.1 hr).1];exact R.nb);rw[<-hvs] at E16 E17 E18;have hT:=jq5 x;unfold jln at hT;repeat'(first|apply jc<;>intro _|simp(disch:=first|exact dzG|fail) only[E9,E10,E11,E12,E13,E14,vS,vR,vQ,fNe,hd,je,jj,ji,jd,jm,jn,jp,jq,jo,rzZ,Qab,Qac,Qad,Qaa,Qae])
      simp only[qE] at E15 E16 E17 E18;refine jgx (z:=7) 7 (λk L s=>Has L 12 (.bool ((QaN k).any λj=>zu (7+(j:Int)) x))/\Cl s 1 (eE x)/\Cl s 3 (eE y)/\Has L 2 vs/\Has L 4 (.ptr 1 0)/\Has L 9 (.ptr 3 0)) (by decide) (by decide) (by decide) (by simp(disch:=decide) only[jf,jb]) ?_ (λk L s v h=>?_) (λk L s v h=>?_) (λk L s hk hI hi=>?_) (λL s hI=>?_)
      ·refine⟨?_,by(first|exact cyG|fail),by(first|exact cyG|fail),?_,?_,?_⟩
       ·rw[show((QaN 0).any λj=>zu (7+(j:Int)) x)=false from rfl];simp(disch:=decide) only[jf,jb]
       all_goals simp(disch:=decide) only[jf,jb]
      ·obtain⟨a1,a2,a3,a4,a5,a6⟩:=h;refine⟨?_,a2,a3,?_,?_,?_⟩<;>simp(disch:=decide) only[jb]<;>assumption
      ·obtain⟨a1,a2,a3,a4,a5,a6⟩:=h;refine⟨?_,a2,a3,?_,?_,?_⟩<;>simp(disch:=decide) only[jb]<;>assumption
      ·obtain⟨i12,C1,C3,i2,i4,i9⟩:=hI;have hS:((QaN (k+1)).any λj=>zu (7+(j:Int)) x)=(((QaN k).any λj=>zu (7+(j:Int)) x) ||zu (7+(k:Int)) x):=by
        rw[List.range_succ,List.any_append];simp
       rw[hS];generalize ((QaN k).any λj=>zu (7+(j:Int)) x)=q at *;cases q;all_goals
        (have zz:=C1.r;(repeat'(first|apply jc<;>intro _|simp(disch:=first|exact jO|fail) only[ja i12,ja i4,ja hi,E15,C1.q,C1.r,je,jj,ji,jd,jm,jn,jp,jq,jo,rzZ,Qab,Qac,Qad,Qaa,Qae]));all_goals clear zz)
        refine⟨⟨?_,C1,C3,?_,?_,?_⟩,?_⟩;all_goals first
         |(simp(disch:=decide) only[jf,jb,Bool.true_or,Bool.false_or];done)
         |(simp(disch:=decide) only[jb];assumption)
      ·obtain⟨i12,C1,C3,i2,i4,i9⟩:=hI;repeat'(first|apply jc<;>intro _|simp(disch:=first|exact dzG|fail) only[je,jj,ji,jd,jm,jn,jp,jq,jo,rzZ,Qab,Qac,Qad,Qaa,Qae])
       generalize ((QaN 7).any λj=>zu (7+(j:Int)) x)=q7 at *;refine jgx (z:=23) 4 (λk L s=>Has L 12 (.bool (q7 ||(QaN k).any λj=>zu (23+(j:Int)) x))/\Cl s 1 (eE x)/\Cl s 3 (eE y)/\Has L 2 vs/\Has L 4 (.ptr 1 0)/\Has L 9 (.ptr 3 0)) (by decide) (by decide) (by decide) (by simp(disch:=decide) only[jf,jb]) ?_ (λk L s v h=>?_) (λk L s v h=>?_) (λk L s hk hI hi=>?_) (λL s hI=>?_)
       ·refine⟨?_,C1,C3,?_,?_,?_⟩
        ·rw[show(q7 ||(QaN 0).any λj=>zu (23+(j:Int)) x)=q7 from by simp];simp(disch:=decide) only[jb];assumption
        all_goals(simp(disch:=decide) only[jb];assumption)
       ·obtain⟨a1,a2,a3,a4,a5,a6⟩:=h;refine⟨?_,a2,a3,?_,?_,?_⟩<;>simp(disch:=decide) only[jb]<;>assumption
       ·obtain⟨a1,a2,a3,a4,a5,a6⟩:=h;refine⟨?_,a2,a3,?_,?_,?_⟩<;>simp(disch:=decide) only[jb]<;>assumption
       ·obtain⟨i12,C1,C3,i2,i4,i9⟩:=hI;have hS:(q7 ||(QaN (k+1)).any λj=>zu (23+(j:Int)) x)=((q7 ||(QaN k).any λj=>zu (23+(j:Int)) x) ||zu (23+(k:Int)) x):=by
         rw[List.range_succ,List.any_append,Bool.or_assoc];simp
        rw[hS];generalize (q7 ||(QaN k).any λj=>zu (23+(j:Int)) x)=q at *;cases q;all_goals
         (have zz:=C1.r;(repeat'(first|apply jc<;>intro _|simp(disch:=first|exact jO|fail) only[ja i12,ja i4,ja hi,E15,C1.q,C1.r,je,jj,ji,jd,jm,jn,jp,jq,jo,rzZ,Qab,Qac,Qad,Qaa,Qae]));all_goals clear zz)
         refine⟨⟨?_,C1,C3,?_,?_,?_⟩,?_⟩;all_goals first
          |(simp(disch:=decide) only[jf,jb,Bool.true_or,Bool.false_or];done)
          |(simp(disch:=decide) only[jb];assumption)
       ·obtain⟨i12,C1,C3,i2,i4,i9⟩:=hI;rw[hT] at i12;clear hT;cases ht:tmB x with
        |true=>
         rw[ht] at i12;rw[R.non ht] at E16 E17;have E16:Tot base 16 [.agg _,vs] (.tup [.int .i64 0,.bool false]):=E16;have E17:Tot base 17 [.agg _,vs] (.tup [.bool (decide ((none:Option Int)=some 1)),.bool false]):=E17;rw[decide_eq_false (by simp)] at E17
         (have zz:=C3.r;(repeat'(first|apply jc<;>intro _|simp(disch:=first|exact jO|fail) only[ja i12,ja i2,ja i9,E16,E17,C3.q,C3.r,je,jj,ji,jd,jm,jn,jp,jq,jo,rzZ,Qab,Qac,Qad,Qaa,Qae]));all_goals clear zz)
        |false=>
         rw[ht] at i12;obtain⟨n,e1,e2,e3⟩:=R.som ht;rw[e1] at E16 E17;rw[e2] at E18;have E16:Tot base 16 [.agg _,vs] (.tup [.int .i64 n,.bool true]):=E16;have E17:Tot base 17 [.agg _,vs] (.tup [.bool (decide (some n=some 1)),.bool true]):=E17;rw[show decide (some n=some 1)=decide (n=1) by simp] at E17;have eL:∀ (st:St) (K:AV->St->Prop),jk (GB vs st) K=K (.int .i64 (sv.length:Int)) st:=λst K=>by rw[hvs];rfl
         have G1:=jh7 hb sv (by omega) 4 (sv.length:Int) [] (by simp[qC,qu,opV]);have G2:=jh7 hb sv (by omega) 3 0 [120] (by simp[qC,qu,opV]);rw[<-hvs] at G1 G2
         (have zz:=C3.r;(repeat'(first|apply jc<;>intro _|simp(disch:=first|exact jO|fail) only[ja i12,ja i2,ja i9,E16,E17,E18,bEq,eL,G1,G2,C3.q,C3.r,je,jj,ji,jd,jm,jn,jp,jq,jo,rzZ,Qab,Qac,Qad,Qaa,Qae]));all_goals clear zz)
         rename_i h;exact absurd (by simp) h
end Go.Sy
end
noncomputable section
namespace Go.Proofs
open Go.Shelf
def Tryz.laysC174_ren:Go.Shelf.Ren:=⟨λ|174=>117|247=>140|245=>141|287=>159|279=>160|280=>161|281=>162|282=>163|321=>171|322=>172|316=>173|171=>175|205=>174|243=>176|246=>177|283=>135|284=>136|285=>137|286=>138|129=>155|317=>154|318=>156|319=>157|320=>158|337=>169|338=>170|n=>n,λ|9=>9|3=>3|2=>2|75=>191|85=>192|4=>4|167=>227|5=>5|53=>122|175=>228|46=>225|168=>230|37=>125|0=>0|210=>241|21=>21|127=>245|145=>248|143=>246|171=>209|173=>212|212=>222|51=>223|20=>20|213=>224|232=>243|233=>244|80=>250|n=>n,λ|15=>1|16=>2|17=>0|18=>3|19=>4|n=>n⟩
theorem Tryz.laysC174:Go.Proofs.LaysC.n174 Qaf Tryz.laysC174_ren:={
 mixed:=by kernel_rfl
 f129:=Tryz.func155.trans (congrArg some (by kernel_rfl))
 f171:=Tryz.func175.trans (congrArg some (by kernel_rfl))
 f174:=Tryz.func117.trans (congrArg some (by kernel_rfl))
 f205:=Tryz.func174.trans (congrArg some (by kernel_rfl))
 f243:=Tryz.func176.trans (congrArg some (by kernel_rfl))
 f245:=Tryz.func141.trans (congrArg some (by kernel_rfl))
 f246:=Tryz.func177.trans (congrArg some (by kernel_rfl))
 f247:=Tryz.func140.trans (congrArg some (by kernel_rfl))
 f279:=Tryz.func160.trans (congrArg some (by kernel_rfl))
 f280:=Tryz.func161.trans (congrArg some (by kernel_rfl))
 f281:=Tryz.func162.trans (congrArg some (by kernel_rfl))
 f282:=Tryz.func163.trans (congrArg some (by kernel_rfl))
 f283:=Tryz.func135.trans (congrArg some (by kernel_rfl))
 f284:=Tryz.func136.trans (congrArg some (by kernel_rfl))
 f285:=Tryz.func137.trans (congrArg some (by kernel_rfl))
 f286:=Tryz.func138.trans (congrArg some (by kernel_rfl))
 f287:=Tryz.func159.trans (congrArg some (by kernel_rfl))
 f316:=Tryz.func173.trans (congrArg some (by kernel_rfl))
 f317:=Tryz.func154.trans (congrArg some (by kernel_rfl))
 f318:=Tryz.func156.trans (congrArg some (by kernel_rfl))
 f319:=Tryz.func157.trans (congrArg some (by kernel_rfl))
 f320:=Tryz.func158.trans (congrArg some (by kernel_rfl))
 f321:=Tryz.func171.trans (congrArg some (by kernel_rfl))
 f322:=Tryz.func172.trans (congrArg some (by kernel_rfl))
 f337:=Tryz.func169.trans (congrArg some (by kernel_rfl))
 f338:=Tryz.func170.trans (congrArg some (by kernel_rfl))
 t0:=Tryz.underlying0
 a0:=Tryz.isAgg0
 z0:=Tryz.sizeOf0
 v0:=Tryz.zeroValue0
 t2:=Tryz.underlying2
 a2:=Tryz.isAgg2
 z2:=Tryz.sizeOf2
 v2:=Tryz.zeroValue2
 t3:=Tryz.underlying3
 a3:=Tryz.isAgg3
 z3:=Tryz.sizeOf3
 v3:=Tryz.zeroValue3
 t4:=Tryz.underlying4
 a4:=Tryz.isAgg4
 z4:=Tryz.sizeOf4
 v4:=Tryz.zeroValue4
 t5:=Tryz.underlying5
 a5:=Tryz.isAgg5
 z5:=Tryz.sizeOf5
 v5:=Tryz.zeroValue5
 t9:=Tryz.underlying9
 a9:=Tryz.isAgg9
 z9:=Tryz.sizeOf9
 v9:=Tryz.zeroValue9
 t20:=Tryz.underlying20
 a20:=Tryz.isAgg20
 z20:=Tryz.sizeOf20
 v20:=Tryz.zeroValue20
 t21:=Tryz.underlying21
 a21:=Tryz.isAgg21
 z21:=Tryz.sizeOf21
 v21:=Tryz.zeroValue21
 t37:=Tryz.underlying125
 a37:=Tryz.isAgg125
 z37:=Tryz.sizeOf125
 v37:=Tryz.zeroValue125
 t46:=Tryz.underlying225
 a46:=Tryz.isAgg225
 z46:=Tryz.sizeOf225
 v46:=Tryz.zeroValue225
 t51:=Tryz.underlying223
 a51:=Tryz.isAgg223
 z51:=Tryz.sizeOf223
 v51:=Tryz.zeroValue223
 t53:=Tryz.underlying122
 a53:=Tryz.isAgg122
 z53:=Tryz.sizeOf122
 v53:=Tryz.zeroValue122
 t75:=Tryz.underlying191
 a75:=Tryz.isAgg191
 z75:=Tryz.sizeOf191
 v75:=Tryz.zeroValue191
 t85:=Tryz.underlying192
 a85:=Tryz.isAgg192
 z85:=Tryz.sizeOf192
 v85:=Tryz.zeroValue192
 t127:=Tryz.underlying245
 a127:=Tryz.isAgg245
 z127:=Tryz.sizeOf245
 v127:=Tryz.zeroValue245
 t143:=Tryz.underlying246
 a143:=Tryz.isAgg246
 z143:=Tryz.sizeOf246
 v143:=Tryz.zeroValue246
 t145:=Tryz.underlying248
 a145:=Tryz.isAgg248
 z145:=Tryz.sizeOf248
 v145:=Tryz.zeroValue248
 t167:=Tryz.underlying227
 a167:=Tryz.isAgg227
 z167:=Tryz.sizeOf227
 v167:=Tryz.zeroValue227
 t168:=Tryz.underlying230
 a168:=Tryz.isAgg230
 z168:=Tryz.sizeOf230
 v168:=Tryz.zeroValue230
 t171:=Tryz.underlying209
 a171:=Tryz.isAgg209
 z171:=Tryz.sizeOf209
 v171:=Tryz.zeroValue209
 t173:=Tryz.underlying212
 a173:=Tryz.isAgg212
 z173:=Tryz.sizeOf212
 v173:=Tryz.zeroValue212
 t175:=Tryz.underlying228
 a175:=Tryz.isAgg228
 z175:=Tryz.sizeOf228
 v175:=Tryz.zeroValue228
 t210:=Tryz.underlying241
 a210:=Tryz.isAgg241
 z210:=Tryz.sizeOf241
 v210:=Tryz.zeroValue241
 t212:=Tryz.underlying222
 a212:=Tryz.isAgg222
 z212:=Tryz.sizeOf222
 v212:=Tryz.zeroValue222
 t213:=Tryz.underlying224
 a213:=Tryz.isAgg224
 z213:=Tryz.sizeOf224
 t232:=Tryz.underlying243
 a232:=Tryz.isAgg243
 z232:=Tryz.sizeOf243
 v232:=Tryz.zeroValue243
 t233:=Tryz.underlying244
 a233:=Tryz.isAgg244
 z233:=Tryz.sizeOf244
 v233:=Tryz.zeroValue244
 g15:=by kernel_rfl
 g16:=by kernel_rfl
 g17:=by kernel_rfl
 g18:=by kernel_rfl
 g19:=by kernel_rfl
 t80:=Tryz.underlying250
 a80:=Tryz.isAgg250
 z80:=Tryz.sizeOf250
 v80:=Tryz.zeroValue250
 i0:=by kernel_rfl
 i2:=by kernel_rfl
 i3:=by kernel_rfl
 i4:=by kernel_rfl
 i5:=by kernel_rfl
 i9:=by kernel_rfl
 i20:=by kernel_rfl
 i21:=by kernel_rfl
 i37:=by kernel_rfl
 i46:=by kernel_rfl
 i51:=by kernel_rfl
 i53:=by kernel_rfl
 i75:=by kernel_rfl
 i80:=by kernel_rfl
 i85:=by kernel_rfl
 i127:=by kernel_rfl
 i143:=by kernel_rfl
 i145:=by kernel_rfl
 i167:=by kernel_rfl
 i168:=by kernel_rfl
 i171:=by kernel_rfl
 i173:=by kernel_rfl
 i175:=by kernel_rfl
 i210:=by kernel_rfl
 i212:=by kernel_rfl
 i232:=by kernel_rfl
 i233:=by kernel_rfl
 m15:=by kernel_rfl
 m16:=by kernel_rfl
 m17:=by kernel_rfl
 m18:=by kernel_rfl
 m19:=by kernel_rfl
 c0:=by kernel_rfl
 c2:=by kernel_rfl
 c3:=by kernel_rfl
 c4:=by kernel_rfl
 c5:=by kernel_rfl
 c9:=by kernel_rfl
 c20:=by kernel_rfl
 c21:=by kernel_rfl
 c37:=by kernel_rfl
 c46:=by kernel_rfl
 c51:=by kernel_rfl
 c53:=by kernel_rfl
 c75:=by kernel_rfl
 c80:=by kernel_rfl
 c85:=by kernel_rfl
 c127:=by kernel_rfl
 c143:=by kernel_rfl
 c145:=by kernel_rfl
 c167:=by kernel_rfl
 c168:=by kernel_rfl
 c171:=by kernel_rfl
 c173:=by kernel_rfl
 c175:=by kernel_rfl
 c210:=by kernel_rfl
 c212:=by kernel_rfl
 c213:=by kernel_rfl
 c232:=by kernel_rfl
 c233:=by kernel_rfl }
open Go.RowKit in
theorem Tryz.strconv_ParseInt_10_at64_ok (s:ByteArray)(hmax:s.size<=9223372036854775806)(v:Int)(h:Lib.parseIntB 64 s.data.toList=.ok v)(w:World) :
 Calls Qaf 117 #[.string s,.int .i64 10,.int .i64 64] w λe w'=>e=.returned (.tuple #[.int .i64 v,.nilIface])/\(w'=w\/∃ t,w'=Lib.bytesWorld w 5 t):=Any.strconv_ParseInt_10_at64_ok Tryz.laysC174 s hmax v h w
open Go.RowKit in
theorem Tryz.strconv_ParseInt_10_at64_range (s:ByteArray)(hlim:s.size<=281474976710656)(h:Lib.parseIntB 64 s.data.toList=.range)(ev:Value)(w:World)(hv:w.cell? ⟨2,0,none⟩=some ev)(hev:ev=.nilIface\/∃ te pe,ev=.iface te pe) :
 Calls Qaf 117 #[.string s,.int .i64 10,.int .i64 64] w λe w'=>∃ N,e=.returned (.tuple #[.int .i64 (Lib.intSat 64 s.data.toList),.iface 230 (.pointer (some ⟨N,0,none⟩))])/\w.heap.size<=N/\w'.heap[N]? = some (.cells #[.string ⟨#[80,97,114,115,101,73,110,116]⟩,.string s,ev] 241 (0,0))/\Below w.heap.size w w':=Any.strconv_ParseInt_10_at64_range Tryz.laysC174 s hlim h ev w hv hev
end Go.Proofs
end
noncomputable section
namespace Go.Proofs
open Go.Shelf Go.RowKit Go.Lib
set_option maxHeartbeats 1000000 in
theorem Tryz.clone_nil (n c:Nat)(w:World):Calls Qaf 49 #[.slice none n c] w λe w'=>e=.returned (.slice none 0 0)/\w'=w:=by
 have mixed:Tryz.prog.follows .mixedOrders=true:=by kernel_rfl
 have t3:=Tryz.underlying2;have a3:=Tryz.isAgg2;have z3:=Tryz.sizeOf2;have v3:=Tryz.zeroValue2;have t4:=Tryz.underlying4;have a4:=Tryz.isAgg4;have z4:=Tryz.sizeOf4;have v4:=Tryz.zeroValue4;have t22:=Tryz.underlying30;have a22:=Tryz.isAgg30;have z22:=Tryz.sizeOf30;have v22:=Tryz.zeroValue30;have q22:∀ (w:World) (a:Option Addr) (n c n' c':Nat),(binOp .eql 30 (.slice a n c) (.slice none n' c')).run Qaf w=.ok (.bool a.isNone) w:=λw a n c n' c'=>Lib.run_eql_slice_nil w _ _ a n c n' c' Tryz.underlying30
 go_enter Tryz.func49,Tryz.ntmps49
 go_wp2
 go_ret
 exact⟨rfl,rfl⟩
set_option maxHeartbeats 2000000 in
set_option maxRecDepth 100000 in
theorem Tryz.clone_zero (a:Addr)(c:Nat)(w:World):Calls Qaf 49 #[.slice (some a) 0 c] w λe w'=>∃ v',e=.returned v'/\w'.ownsRow w.heap.size 2 1 v' 0 []/\Below w.heap.size w w':=by
 have mixed:Tryz.prog.follows .mixedOrders=true:=by kernel_rfl
 have t3:=Tryz.underlying2;have a3:=Tryz.isAgg2;have z3:=Tryz.sizeOf2;have v3:=Tryz.zeroValue2;have t4:=Tryz.underlying4;have a4:=Tryz.isAgg4;have z4:=Tryz.sizeOf4;have v4:=Tryz.zeroValue4;have t22:=Tryz.underlying30;have a22:=Tryz.isAgg30;have z22:=Tryz.sizeOf30;have v22:=Tryz.zeroValue30;have i3:(Tryz.prog.info? 2).map (λi=>(i.zero,i.size,i.bytes))=some (some (Value.int IntKind.i64 0),1,8):=by kernel_rfl
 obtain⟨i0,hi,hz0,hz1,hz2⟩:=info_parts i3;have q22:∀ (w:World) (a:Option Addr) (n c n' c':Nat),(binOp .eql 30 (.slice a n c) (.slice none n' c')).run Qaf w=.ok (.bool a.isNone) w:=λw a n c n' c'=>Lib.run_eql_slice_nil w _ _ a n c n' c' Tryz.underlying30;have u22:∀ w,Sem.run Qaf (underlying 30) w=.ok (TypeDesc.slice 2) w:=run_underlying t22
 go_enter Tryz.func49,Tryz.ntmps49
 go_wp2_with (at_builtin;refine wpList_append_own _ rfl _ _ 30 rfl w.heap.size 2 i0 (.int .i64 0) 1 8 t22 hi hz0 hz1 hz2 rfl (by decide) _ _ _ rfl (World.ownsRow_made w #[] 0 (Qao _) (QaG _) rfl) a 0 c [] rfl rfl (by intro j u hj;simp at hj) (by intro u hu;cases hu) (by unfold maxLen;omega) (by omega) (by simp) ?_)
 intro v' w1 hown hgrow hnil
 go_wp2
 go_ret
 refine⟨v',rfl,by simpa using hown,?_⟩;exact((Below.refl _ w).alloc (Qao _) _).grown hgrow (by simp) (by intro k hk;simp[Value.ownBlock] at hk;omega)
end Go.Proofs
end
noncomputable section
set_option maxRecDepth 100000
namespace Go.Sy
open Go.Ev Go.Proofs
open Go.RowKit (Below)
theorem vi:okP Qaf=true:=by kernel_rfl
theorem Kk:Tryz.prog.follows .mixedOrders=true:=by kernel_rfl
theorem jrW:jh9 (gI Qaf 10000000 400 9 [] st0)=true:=by kernel_rfl
def GV (l:List UInt8):Prop:=∀ c∈l,48<=c.toNat/\c.toNat<=57
theorem Hr:∀ (l:List UInt8) (acc:Nat),GV l->(acc+1) * 10 ^ l.length<=100000000->Lib.parseUintM 18446744073709551615 acc l=.ok ((l.map UInt8.toNat).foldl (λv c=>10 * v+(c - 48)) acc)
 |[],acc,_,_=>rfl
 |c :: r,acc,hd,h=>by
  have hc:=hd c (by simp);rw[Qak,Nat.pow_succ] at h;have hp:1<=10 ^ r.length:=Nat.one_le_pow _ _ (by decide);have hacc:(acc+1) * 10<=100000000:=by
   have:(acc+1) * 10 * 1<=(acc+1) * 10 * 10 ^ r.length:=Nat.mul_le_mul_left _ hp;have e:(acc+1) * 10 * 10 ^ r.length=(acc+1) * (10 ^ r.length * 10):=by rw[Nat.mul_assoc,Nat.mul_comm 10]
   omega
  unfold Lib.parseUintM;rw[if_pos hc,if_neg (by omega),if_neg (by omega),Hr r _ (λd hd'=>hd d (by simp[hd']))]
  ·show _=Lib.NumEnd.ok ((r.map UInt8.toNat).foldl _ (10 * acc+(c.toNat - 48)));rw[Nat.mul_comm acc 10]
  ·refine Qav ?_ h;have e:(acc+1) * (10 ^ r.length * 10)=((acc+1) * 10) * 10 ^ r.length:=by rw[Nat.mul_comm (10 ^ r.length),Nat.mul_assoc]
   rw[e];exact QaM _ (by omega)
theorem Vi:∀ (l:List UInt8) (acc:Nat),GV l->(∃ u,Lib.parseUintM 18446744073709551615 acc l=.ok u)\/Lib.parseUintM 18446744073709551615 acc l=.range
 |[],acc,_=>.inl ⟨acc,rfl⟩
 |c :: r,acc,hd=>by
  have hc:=hd c (by simp);unfold Lib.parseUintM;rw[if_pos hc];by_cases h1:1844674407370955162<=acc
  ·rw[if_pos h1];exact .inr rfl
  ·rw[if_neg h1];by_cases h2:18446744073709551615<acc * 10+(c.toNat - 48)
   ·rw[if_pos h2];exact .inr rfl
   ·rw[if_neg h2];exact Vi r _ λd hd'=>hd d (by simp[hd'])
theorem Hs {l:List UInt8}(hne:l≠[])(hd:GV l):Lib.parseIntB 64 l=Lib.signlessC (2 ^ 63) (Lib.parseUintM 18446744073709551615 0 l):=by
 obtain⟨c,r,rfl⟩:=List.exists_cons_of_ne_nil hne;have hc:=hd c (by simp);rw[Lib.parseIntB_plain 64 c r (by omega) (by omega)];unfold Lib.parseUintB;rw[if_neg (by simp)]
theorem jhK {l:List UInt8}(hne:l≠[])(hd:GV l)(h7:l.length<=7):Lib.parseIntB 64 l=.ok (vb (l.map UInt8.toNat):Int):=by
 have hle:10 ^ l.length<=10 ^ 7:=Nat.pow_le_pow_right (by decide) h7;have e7:10 ^ 7=10000000:=by decide
 rw[Hs hne hd,Hr l 0 hd (by omega)];have hv:=jmZ (s:=l.map UInt8.toNat) (n:=l.length) (by simp) h7 (λc hc=>by
  obtain⟨b,hb,rfl⟩:=Qbp.1 hc;have:=hd b hb;unfold qf;simp;omega)
 show Lib.signlessC _ (.ok (vb (l.map UInt8.toNat)))=_;generalize vb (l.map UInt8.toNat)=v at hv;unfold Lib.signlessC;simp;omega
theorem jfr {l:List UInt8}(hne:l≠[])(hd:GV l):(∃ v,Lib.parseIntB 64 l=.ok v)\/Lib.parseIntB 64 l=.range:=by
 rw[Hs hne hd];rcases Vi l 0 hd with ⟨u,h⟩|h
 ·rw[h];unfold Lib.signlessC;by_cases hu:2 ^ 63<=u
  ·right;simp only[if_pos hu]
  ·left;exact⟨u,by simp only[if_neg hu]⟩
 ·rw[h];exact .inr rfl
def jcK (s:List Nat):Bool:=decide (s≠[]) && s.all qf
theorem jcJ (s:List Nat):jcK s=true↔We s:=by
 unfold jcK We;simp
def ZJ:qH:=λf args st=>match args with
 |[]=>if f=9 then .ok (.bool true) st else .no
 |[.str s,.int .i64 a,.int .i64 b]=>if f=117/\a=10/\b=64/\jcK s=true/\s.length<=281474976710656 then(if s.length<=7 then .ok (.tup [.int .i64 (vb s:Int),.nilif]) st else .ok (.tup [.bad,.bad]) st) else .no
 |[.lst n cs]=>if f=49/\n=0/\cs=[] then .ok (.lst 0 []) st else .no
 |_=>.no
theorem jnP (st:St):ZJ 9 [] st=.ok (.bool true) st:=rfl
def wM:Bs:=⟨ZJ,jfp⟩
theorem jc2:PI wM:=λs st hd hl=>by
 have e:ZJ 117 [.str s,.int .i64 10,.int .i64 64] st=if(117=117/\(10:Int)=10/\(64:Int)=64/\jcK s=true/\s.length<=281474976710656) then(if s.length<=7 then .ok (.tup [.int .i64 (vb s:Int),.nilif]) st else .ok (.tup [.bad,.bad]) st) else .no:=rfl
 simp only[show wM.run=ZJ from rfl];rw[e,if_pos ⟨rfl,rfl,rfl,(jcJ s).2 hd,hl⟩];exact⟨λh=>if_pos h,λh=>if_neg (by omega)⟩
theorem ki (f:FuncId)(args:List AV)(st:St):ZJ f args st=.no\/(f=9/\args=[])\/(f=117/\∃ s,args=[.str s,.int .i64 10,.int .i64 64]/\We s/\s.length<=281474976710656)\/(f=49/\args=[.lst 0 []]):=by
 unfold ZJ;split
 ·by_cases h:f=9
  ·exact .inr (.inl ⟨h,rfl⟩)
  ·exact .inl (if_neg h)
 ·rename_i s a b;by_cases h:f=117/\a=10/\b=64/\jcK s=true/\s.length<=281474976710656
  ·obtain⟨h1,rfl,rfl,h4,h5⟩:=h;exact .inr (.inr (.inl ⟨h1,s,rfl,(jcJ s).1 h4,h5⟩))
  ·exact .inl (if_neg h)
 ·rename_i n cs;by_cases h:f=49/\n=0/\cs=[]
  ·obtain⟨h1,rfl,rfl⟩:=h;exact .inr (.inr (.inr ⟨h1,rfl⟩))
  ·exact .inl (if_neg h)
 ·exact .inl rfl
theorem jll (f:FuncId)(args:List AV)(st:St)(h9:f≠9)(h31:f≠117)(h49:f≠49):ZJ f args st=.no:=by
 rcases ki f args st with h|⟨h,_⟩|⟨h,_⟩|⟨h,_⟩
 ·exact h
 ·exact absurd h h9
 ·exact absurd h h31
 ·exact absurd h h49
theorem Qm {ι:Inj}{st:St}{w w':World}(hs:Sim ι st.h st.nx w)(b:Below w.heap.size w w'):Sim ι st.h st.nx w'/\Grew ι w ι w':=by
 have gr:Grew ι w ι w':=⟨b.os,b.tape,b.output,b.size,λk hk _=>b.block k hk,λb B S e=>.inl ⟨b,S,e⟩,λB vs h=>.inl h⟩;exact⟨⟨λc B S e=>by
  obtain⟨o,x,h1,h2,h3⟩:=hs.obj c B S e;exact⟨o,x,h1,(b.block B (hs.lt e)).trans h2,h3⟩,hs.gone,hs.inj,hs.born,hs.glob.grew gr⟩,gr⟩
theorem jlm:JJ Qaf wM.run:=by
 intro f args st ι w vs hs hv;simp only[show wM.run=ZJ from rfl];rcases ki f args st with h|⟨rfl,rfl⟩|⟨rfl,s,rfl,hd,hl⟩|⟨rfl,rfl⟩
 ·rw[h];trivial
 ·rw[jnP];have hvs:vs = #[]:=by
   have:vs.toList=[]:=by simpa[VRs] using hv
   simpa using this
  subst hvs;have hb:Tryz.f9.body.isSome=true:=by kernel_rfl
  obtain⟨c,hc⟩:=Qcu.1 hb;refine⟨(Zm vi Tryz.func9 hc).2,Calls.mono (jkA vi (jex Kk) jrW w ⟨⟨hs.glob.1.1,λb S e=>by cases e⟩,λB vs e=>by cases e⟩) λe w' ⟨he,hos,ht,ho,hsz,hk⟩=>⟨_,he,ι,Le.refl ι,?_,?_,?_,Cleanly.refl ι st⟩⟩
  ·simp only[VR]
  ·exact(Qm hs ⟨hos,ht,ho,hsz,hk⟩).1
  ·exact(Qm hs ⟨hos,ht,ho,hsz,hk⟩).2
 ·simp only[VRs,VR] at hv;obtain⟨v1,l1,e1,⟨bs,rfl,hbs⟩,v2,l2,rfl,rfl,v3,l3,rfl,rfl,rfl⟩:=hv;have hvs:vs = #[.string bs,.int .i64 10,.int .i64 64]:=by
   cases vs;simpa using e1
  subst hvs;have hlen:bs.data.toList.length=s.length:=by rw[<-hbs,QaR]
  have hsz:bs.size=s.length:=by rw[<-hlen,QaA];rfl
  have hne:bs.data.toList≠[]:=λh=>hd.1 (by rw[<-hbs,h];rfl);have hd8:GV bs.data.toList:=λc hc=>by
   have:=hd.2 c.toNat (by rw[<-hbs];exact Qbp.2 ⟨c,hc,rfl⟩);unfold qf at this;simp at this;omega
  have hent:Ev.Enters Qaf 117:=by
   have hb:Tryz.f117.body.isSome=true:=by kernel_rfl
   obtain⟨c,hc⟩:=Qcu.1 hb;exact(Zm vi Tryz.func117 hc).2
  have okc:∀ v,Lib.parseIntB 64 bs.data.toList=.ok v->Calls Qaf 117 #[.string bs,.int .i64 10,.int .i64 64] w λe w'=>e=.returned (.tuple #[.int .i64 v,.nilIface])/\Below w.heap.size w w':=λv h=>
   (Tryz.strconv_ParseInt_10_at64_ok bs (by omega) v h w).mono λe w' ⟨he,hw⟩=>⟨he,by
    rcases hw with rfl|⟨t,rfl⟩
    ·exact⟨rfl,rfl,rfl,Qao _,λ_ _=>rfl⟩
    ·exact Lib.bytesWorld_below w 5 t⟩
  have hP:=jc2 s st hd hl;simp only[show wM.run=ZJ from rfl] at hP;by_cases h7:s.length<=7
  ·rw[hP.1 h7];refine⟨hent,(okc _ (jhK hne hd8 (by omega))).mono λe w' ⟨he,hb⟩=>⟨_,he,ι,Le.refl ι,?_,(Qm hs hb).1,(Qm hs hb).2,Cleanly.refl ι st⟩⟩;rw[hbs];simp only[VR,VRs];exact⟨_,rfl,_,_,rfl,rfl,_,_,rfl,rfl,rfl⟩
  ·rw[hP.2 (by omega)];refine⟨hent,?_⟩;have fin:∀ (x y:Value) (w':World),Below w.heap.size w w'->Jt ι w st st (.tup [.bad,.bad]) (.tuple #[x,y]) w':=λx y w' hb=>by
    refine⟨ι,Le.refl ι,?_,(Qm hs hb).1,(Qm hs hb).2,Cleanly.refl ι st⟩;simp only[VR,VRs];exact⟨_,rfl,_,_,rfl,trivial,_,_,rfl,trivial,rfl⟩
   rcases jfr hne hd8 with ⟨v,h⟩|h
   ·exact(okc v h).mono λe w' ⟨he,hb⟩=>⟨_,he,fin _ _ w' hb⟩
   ·obtain⟨te,pe,hg⟩:=hs.glob.1.1;exact(Tryz.strconv_ParseInt_10_at64_range bs (by omega) h _ w hg (.inr ⟨te,pe,rfl⟩)).mono λe w' ⟨N,he,_,_,hb⟩=>⟨_,he,fin _ _ w' hb⟩
 ·have e49:ZJ 49 [.lst 0 []] st=.ok (.lst 0 []) st:=rfl;rw[e49];simp only[VRs,VR] at hv;obtain⟨v1,l1,e1,⟨p,C,rfl,-,-,-⟩,rfl⟩:=hv;have hvs:vs = #[.slice p 0 C]:=by
   cases vs;simpa using e1
  subst hvs;have hb:Tryz.f49.body.isSome=true:=by kernel_rfl
  obtain⟨c,hc⟩:=Qcu.1 hb;refine⟨(Zm vi Tryz.func49 hc).2,?_⟩;cases p with
  |none=>
   refine(Tryz.clone_nil 0 C w).mono λe w' ⟨he,hw⟩=>⟨_,he,ι,Le.refl ι,?_,?_,?_,Cleanly.refl ι st⟩
   ·simp only[VR];exact⟨none,0,rfl,Qao _,rfl,λh=>absurd h (QbB _)⟩
   ·rw[hw];exact hs
   ·rw[hw];exact Grew.refl ι w
  |some a=>
   refine(Tryz.clone_zero a C w).mono λe w' ⟨v',he,ho,hb⟩=>⟨_,he,ι,Le.refl ι,?_,(Qm hs hb).1,(Qm hs hb).2,Cleanly.refl ι st⟩;simp only[VR];rcases ho.2 with ⟨rfl,_⟩|⟨g,cap,cur,rfl,_⟩
   ·exact⟨none,0,rfl,Qao _,rfl,λh=>absurd h (QbB _)⟩
   ·exact⟨_,cap,rfl,QaG _,rfl,λh=>absurd h (QbB _)⟩
end Go.Sy
end
noncomputable section
set_option maxRecDepth 100000
namespace Go.Sy
open Go.Ev Go.Proofs
theorem jdz {ι:Inj}:∀ {cs:List AV} {v:Value},VRs ι cs v.cells.toList->2<=cs.length->VR ι (.agg cs) v
 |a :: b :: r,v,h,_=>by
  cases v;case agg c=>exact⟨c,rfl,h⟩
  all_goals
   exfalso;obtain⟨v1,l1,e1,_,v2,l2,e2,_⟩:=h;simp[Value.cells] at e1;rw[e2] at e1;simp at e1
 |[],v,h,h2=>by simp at h2
 |[a],v,h,h2=>by simp at h2
theorem arg_src {w:World}{m:SrcT}{v:Value}(h:VRs (frW w) (srE m) v.cells.toList):VR (frW w) (.agg (srE m)) v:=jdz h (by rw[wg];decide)
theorem arg_ex {w:World}{x:Ex}{v:Value}(h:VRs (frW w) (eE x) v.cells.toList):VR (frW w) (.agg (eE x)) v:=jdz h (by rw[zw];decide)
theorem jep:∀ xs:List {n:Int // (Lit.int .i64 n).wf=true},fl (jcp .i64) xs=(xs.map (·.1)).map (AV.int .i64)
 |[]=>rfl
 |x :: r=>by
  have:=jep r;simp only[fl,Qcy,Qai,jcp,List.singleton_append] at this ⊢;rw[this]
theorem rd_sv {H:Type}{w:World}(N:Nat):Reads H Qaf w (N+1) 30 1 (λs:List {n:Int // (Lit.int .i64 n).wf=true}=>[svV (s.map (·.1))]) (λs=>(s.map λ_=>1).sum+1):=by
 have h:Reads H Qaf w (N+1) 30 1 (λxs=>[.lst xs.length (fl (jcp .i64) xs)]) (λxs=>(xs.map λ_=>1).sum+1):=Qu (by decide) Tryz.underlying30 (by kernel_rfl) (JE (N:=N) Tryz.underlying2 (by kernel_rfl)) (λx=>Qao _);have e:(λxs:List {n:Int // (Lit.int .i64 n).wf=true}=>[AV.lst xs.length (fl (jcp .i64) xs)])=λs=>[svV (s.map (·.1))]:=funext λxs=>by rw[jep];unfold svV;rw[QaR]
 rw[e] at h;exact h
theorem sum_ones {α:Type}:∀ s:List α,(s.map λ_=>1).sum=s.length
 |[]=>rfl
 |_ :: r=>by rw[Qai,List.sum_cons,sum_ones r,Qak,Qcj]
theorem arg_sv {w:World}{s:List Int}{a:Option Addr}{len cap:Nat}(h:VRs (frW w) [svV s] (Value.slice a len cap).cells.toList):VR (frW w) (svV s) (.slice a len cap):=by
 obtain⟨v,l,e,h1,rfl⟩:=h;rw[show(Value.slice a len cap).cells.toList=[.slice a len cap] from rfl] at e;cases e;exact h1
theorem base4_9 (st:St):wM.run 9 [] st=.ok (.bool true) st:=rfl
theorem base4_PI:PI wM:=jc2
theorem base4_NB:NB wM:=⟨λf h args st=>jll f args st (by rintro rfl;simp[VI] at h) (by rintro rfl;simp[VI] at h) (by rintro rfl;simp[VI] at h),rfl⟩
theorem law_calls {f:FuncId}{xs:List AV}{vs:Array Value}{w:World}(h:XB Qaf wM f xs st0 (λv _=>v=.bool true) λ_ _=>False)(hg:∃ te pe,w.cell? ⟨2,0,none⟩=some (.iface te pe))(hv:VRs (frW w) xs vs.toList) :
  Calls Qaf f vs w λe w'=>e=.returned (.bool true)/\w'.os=w.os/\w'.tape=w.tape/\w'.output=w.output/\w.heap.size<=w'.heap.size/\∀ k,k<w.heap.size->w'.heap[k]? = w.heap[k]?:=by
 have h2:=CW.calls vi (jex Kk) jlm (K:=λv _=>v=.bool true) h.cb (jna hg) hv;refine Calls.mono h2 λe w' ⟨v,x,st',he,hK,ι',_,hv,_,hg,_⟩=>?_;rw[hK] at hv;simp only[VR] at hv;rw[hv] at he;exact⟨he,hg.os,hg.tape,hg.output,hg.size,λk hk=>hg.keep k hk (λb S e=>by cases e)⟩
end Go.Sy
end
